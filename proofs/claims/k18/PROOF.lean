import PyProof.Rows.All
import Wide.All
import OpenK.AllK
import Wide.FinOn
import HandS.ForMost
import HandS.More
import HandS.Codes
import HandS.Defaults
import HandS.MakeKw
import HandS.IsInst
import HandS.DictComp
import HandS.Zip
import HandS.Walk
import HandS.Conv
import HandS.RaiseMore
import PySem.Challenge.RW_turnedties_k18_whole_classes_by_going_th
import KE.KStateDown
import Lean
import HandS.Base
import HandS.Call
import HandS.Ends
import HandS.Words
import HandS.WordsExc
import HandS.Head0
import HandS.Head1
import HandS.Head2
import HandS.HeadEnd
import HandS.HeadHook1
import HandS.HeadHook2
set_option linter.all false
/-! Plain mathematics for law k18: no program in sight. -/
namespace K18

/-! ### small counting kit -/
section kit
variable {α β : Type}

theorem nodup_sub_len [DecidableEq α] : ∀ {A B : List α}, A.Nodup → (∀ a ∈ A, a ∈ B) → A.length ≤ B.length
  | [], _, _, _ => Nat.zero_le _
  | a :: A, B, h, hs => by
    have h1 := List.nodup_cons.mp h
    have hB : a ∈ B := hs a List.mem_cons_self
    have ih := nodup_sub_len (A := A) (B := B.erase a) h1.2 (fun x hx => by
      have hxB := hs x (List.mem_cons_of_mem _ hx)
      have hne : x ≠ a := fun e => h1.1 (e ▸ hx)
      exact (List.mem_erase_of_ne hne).mpr hxB)
    rw [List.length_erase_of_mem hB] at ih
    have hpos : 0 < B.length := List.length_pos_of_mem hB
    rw [List.length_cons]
    omega

theorem nd_filter (p : α → Bool) {l : List α} (h : l.Nodup) : (l.filter p).Nodup := h.sublist List.filter_sublist

theorem nodup_map_on (f : α → β) : ∀ {A : List α}, A.Nodup → (∀ a ∈ A, ∀ b ∈ A, f a = f b → a = b) → (A.map f).Nodup
  | [], _, _ => List.nodup_nil
  | a :: A, h, hi => by
    have h1 := List.nodup_cons.mp h
    rw [List.map_cons]
    refine List.nodup_cons.mpr ⟨fun hm => ?_, nodup_map_on f h1.2 fun x hx y hy => hi x (List.mem_cons_of_mem _ hx) y (List.mem_cons_of_mem _ hy)⟩
    obtain ⟨b, hb, e⟩ := List.mem_map.mp hm
    have q := hi b (List.mem_cons_of_mem _ hb) a List.mem_cons_self e
    exact h1.1 (q ▸ hb)

theorem inj_len [DecidableEq β] {A : List α} {B : List β} (f : α → β) (hA : A.Nodup) (hf : ∀ a ∈ A, f a ∈ B) (hi : ∀ a ∈ A, ∀ b ∈ A, f a = f b → a = b) : A.length ≤ B.length := by
  have h1 := nodup_sub_len (nodup_map_on f hA hi) (B := B) (fun b hb => by
    obtain ⟨a, ha, rfl⟩ := List.mem_map.mp hb
    exact hf a ha)
  rwa [List.length_map] at h1

theorem bij_len [DecidableEq α] [DecidableEq β] {A : List α} {B : List β} (f : α → β) (g : β → α) (hA : A.Nodup) (hB : B.Nodup)
    (hf : ∀ a ∈ A, f a ∈ B) (hg : ∀ b ∈ B, g b ∈ A) (h1 : ∀ a ∈ A, g (f a) = a) (h2 : ∀ b ∈ B, f (g b) = b) : A.length = B.length := by
  refine Nat.le_antisymm (inj_len f hA hf fun a ha b hb e => ?_) (inj_len g hB hg fun a ha b hb e => ?_)
  · rw [← h1 a ha, ← h1 b hb, e]
  · rw [← h2 a ha, ← h2 b hb, e]

theorem same_len [DecidableEq α] {A B : List α} (hA : A.Nodup) (hB : B.Nodup) (h : ∀ a, a ∈ A ↔ a ∈ B) : A.length = B.length :=
  Nat.le_antisymm (nodup_sub_len hA fun a ha => (h a).mp ha) (nodup_sub_len hB fun a ha => (h a).mpr ha)

/-- the different items, in the order in which they first come -/
def ins [DecidableEq α] (s : List α) (a : α) : List α := if a ∈ s then s else s ++ [a]
def dd [DecidableEq α] (l : List α) : List α := l.foldl ins []
theorem mem_ins [DecidableEq α] {s : List α} {a x : α} : x ∈ ins s a ↔ x ∈ s ∨ x = a := by
  unfold ins
  split
  · constructor
    · exact .inl
    · rintro (h | rfl)
      · exact h
      · assumption
  · simp
theorem nodup_ins [DecidableEq α] {s : List α} {a : α} (h : s.Nodup) : (ins s a).Nodup := by
  unfold ins
  split
  · exact h
  · rename_i hn
    refine List.nodup_append.mpr ⟨h, List.nodup_cons.mpr ⟨List.not_mem_nil, List.nodup_nil⟩, fun x hx y hy => ?_⟩
    rw [List.mem_singleton] at hy
    subst hy
    exact fun e => hn (e ▸ hx)
theorem dd_go [DecidableEq α] : ∀ (l s : List α), s.Nodup → (l.foldl ins s).Nodup ∧ ∀ x, x ∈ l.foldl ins s ↔ x ∈ s ∨ x ∈ l
  | [], s, h => ⟨h, fun x => by simp⟩
  | a :: l, s, h => by
    obtain ⟨h1, h2⟩ := dd_go l (ins s a) (nodup_ins h)
    refine ⟨h1, fun x => ?_⟩
    rw [List.foldl_cons, h2 x, mem_ins, List.mem_cons, or_assoc]
theorem nodup_dd [DecidableEq α] (l : List α) : (dd l).Nodup := (dd_go l [] List.nodup_nil).1
theorem mem_dd [DecidableEq α] {l : List α} {x : α} : x ∈ dd l ↔ x ∈ l := by
  rw [dd, (dd_go l [] List.nodup_nil).2 x]; simp
theorem dd_snoc [DecidableEq α] (l : List α) (a : α) : dd (l ++ [a]) = ins (dd l) a := by
  unfold dd; rw [List.foldl_append]; rfl

theorem count_split [DecidableEq β] (f : α → β) {L : List β} (hL : L.Nodup) : ∀ {A : List α}, (∀ a ∈ A, f a ∈ L) → A.length = (L.map fun b => (A.filter fun a => decide (f a = b)).length).sum
  | [], _ => by
    have e : (L.map fun b => (([] : List α).filter fun a => decide (f a = b)).length) = L.map fun _ => 0 := rfl
    rw [e]
    clear e hL
    induction L with
    | nil => rfl
    | cons _ _ ih => simpa using ih
  | a :: A, h => by
    have ih := count_split f hL (A := A) fun x hx => h x (List.mem_cons_of_mem _ hx)
    have hm : f a ∈ L := h a List.mem_cons_self
    have key : ∀ (M : List β), M.Nodup → (M.map fun b => ((a :: A).filter fun x => decide (f x = b)).length).sum = (M.map fun b => (A.filter fun x => decide (f x = b)).length).sum + (if f a ∈ M then 1 else 0) := by
      intro M
      induction M with
      | nil => intro _; rfl
      | cons b M ihM =>
        intro hM
        have h1 := List.nodup_cons.mp hM
        have ihM' := ihM h1.2
        rw [List.map_cons, List.sum_cons, List.map_cons, List.sum_cons, ihM', List.filter_cons]
        by_cases e : f a = b
        · have hn : f a ∉ M := by rw [e]; exact h1.1
          rw [if_pos (decide_eq_true e), List.length_cons, if_neg hn, if_pos (by rw [e]; exact List.mem_cons_self)]
          omega
        · rw [if_neg (by rw [decide_eq_false e]; decide)]
          have hmm : f a ∈ b :: M ↔ f a ∈ M := by
            rw [List.mem_cons]
            exact ⟨fun q => q.resolve_left e, .inr⟩
          by_cases q : f a ∈ M
          · rw [if_pos q, if_pos (hmm.mpr q)]; omega
          · rw [if_neg q, if_neg (fun z => q (hmm.mp z))]; omega
    rw [key L hL, ← ih, if_pos hm, List.length_cons]
theorem sum_const {L : List β} {f : β → Nat} {c : Nat} (h : ∀ b ∈ L, f b = c) : (L.map f).sum = L.length * c := by
  induction L with
  | nil => simp
  | cons b L ih =>
    rw [List.map_cons, List.sum_cons, ih fun x hx => h x (List.mem_cons_of_mem _ hx), h b List.mem_cons_self, List.length_cons, Nat.succ_mul]
    omega
end kit

/-! ### all rows -/
def allv (m : Nat) : Nat → List (List Nat)
  | 0 => [[]]
  | k + 1 => (allv m k).flatMap fun r => (List.range m).map fun c => r ++ [c]
theorem mem_allv {m : Nat} : ∀ {k : Nat} {r : List Nat}, r ∈ allv m k ↔ r.length = k ∧ ∀ x ∈ r, x < m
  | 0, r => by
    rw [allv, List.mem_singleton]
    constructor
    · rintro rfl; simp
    · intro h; exact List.eq_nil_of_length_eq_zero h.1
  | k + 1, r => by
    rw [allv, List.mem_flatMap]
    constructor
    · rintro ⟨q, hq, hr⟩
      obtain ⟨c, hc, rfl⟩ := List.mem_map.mp hr
      obtain ⟨h1, h2⟩ := mem_allv.mp hq
      refine ⟨by simp [h1], fun x hx => ?_⟩
      rcases List.mem_append.mp hx with hx | hx
      · exact h2 x hx
      · rw [List.mem_singleton] at hx; subst hx; exact List.mem_range.mp hc
    · rintro ⟨h1, h2⟩
      have hne : r ≠ [] := by intro e; subst e; simp at h1
      refine ⟨r.dropLast, mem_allv.mpr ⟨by rw [List.length_dropLast, h1]; omega, fun x hx => h2 x (List.dropLast_subset _ hx)⟩, List.mem_map.mpr ⟨r.getLast hne, List.mem_range.mpr (h2 _ (List.getLast_mem hne)), List.dropLast_concat_getLast hne⟩⟩
theorem len_allv (m : Nat) : ∀ k, (allv m k).length = m ^ k
  | 0 => rfl
  | k + 1 => by
    rw [allv, List.length_flatMap, sum_const (c := m) (fun b _ => by simp), len_allv m k, Nat.pow_succ]
theorem nodup_allv (m : Nat) : ∀ k, (allv m k).Nodup
  | 0 => List.nodup_cons.mpr ⟨List.not_mem_nil, List.nodup_nil⟩
  | k + 1 => by
    rw [allv]
    refine List.pairwise_flatMap.mpr ⟨fun r hr => ?_, (nodup_allv m k).imp fun {a b} hab x hx y hy e => ?_⟩
    · exact nodup_map_on _ List.nodup_range fun a _ b _ e => by simpa using e
    · obtain ⟨c, _, rfl⟩ := List.mem_map.mp hx
      obtain ⟨d, _, rfl⟩ := List.mem_map.mp hy
      have := List.append_inj' e rfl
      exact hab this.1
theorem get_lt {m k : Nat} {r : List Nat} (h : r ∈ allv m k) {v : Nat} (hv : v < k) : r.getD v 0 < m := by
  obtain ⟨h1, h2⟩ := mem_allv.mp h
  have hv' : v < r.length := by omega
  rw [List.getD_eq_getElem?_getD, List.getElem?_eq_getElem hv']
  exact h2 _ (List.getElem_mem hv')
theorem ext_getD {a b : List Nat} {k : Nat} (ha : a.length = k) (hb : b.length = k) (h : ∀ v, v < k → a.getD v 0 = b.getD v 0) : a = b := by
  refine List.ext_getElem (by omega) fun i h1 h2 => ?_
  have := h i (by omega)
  rw [List.getD_eq_getElem?_getD, List.getD_eq_getElem?_getD, List.getElem?_eq_getElem h1, List.getElem?_eq_getElem h2] at this
  exact this
theorem getD_map_range {n v : Nat} (f : Nat → Nat) (hv : v < n) : ((List.range n).map f).getD v 0 = f v := by
  rw [List.getD_eq_getElem?_getD, List.getElem?_map, List.getElem?_range hv]
  rfl
theorem getD_map_list {sel : List Nat} {j : Nat} (f : Nat → Nat) (hj : j < sel.length) : (sel.map f).getD j 0 = f sel[j] := by
  rw [List.getD_eq_getElem?_getD, List.getElem?_map, List.getElem?_eq_getElem hj]
  rfl

/-- rows that are told by their items at the places sel: as many as rows over sel -/
theorem count_sel {m n : Nat} (P : List Nat → Bool) (sel : List Nat) (ext : List Nat → List Nat) (hs : ∀ v ∈ sel, v < n)
    (h1 : ∀ p ∈ allv m n, P p = true → ext (sel.map fun v => p.getD v 0) = p)
    (h2 : ∀ r ∈ allv m sel.length, ext r ∈ allv m n ∧ P (ext r) = true ∧ (sel.map fun v => (ext r).getD v 0) = r) :
    ((allv m n).filter P).length = m ^ sel.length := by
  rw [← len_allv m sel.length]
  refine bij_len (fun p => sel.map fun v => p.getD v 0) ext (nd_filter _ (nodup_allv m n)) (nodup_allv m _) (fun p hp => ?_) (fun r hr => ?_) (fun p hp => ?_) (fun r hr => ?_)
  · obtain ⟨hp, _⟩ := List.mem_filter.mp hp
    refine mem_allv.mpr ⟨List.length_map _, fun x hx => ?_⟩
    obtain ⟨v, hv, rfl⟩ := List.mem_map.mp hx
    exact get_lt hp (hs v hv)
  · obtain ⟨a, b, _⟩ := h2 r hr
    exact List.mem_filter.mpr ⟨a, b⟩
  · obtain ⟨hp, q⟩ := List.mem_filter.mp hp
    exact h1 p hp q
  · exact (h2 r hr).2.2

/-! ### groups and the forest -/
abbrev Edge := Nat × Nat
def merge (g : Nat → Nat) (e : Edge) : Nat → Nat := fun v => if g v = g e.2 then g e.1 else g v
def gstep (g : Nat → Nat) (e : Edge) : Nat → Nat := if g e.1 ≠ g e.2 then merge g e else g
def grp (es : List Edge) : Nat → Nat := es.foldl gstep id
theorem grp_snoc (es : List Edge) (e : Edge) : grp (es ++ [e]) = gstep (grp es) e := by
  unfold grp; rw [List.foldl_append]; rfl
/-- the numbers of the forest's edges -/
def frst (es : List Edge) : List Nat := (List.range es.length).filter fun i => match es[i]? with
  | some e => decide (grp (es.take i) e.1 ≠ grp (es.take i) e.2)
  | none => false
theorem frst_snoc (es : List Edge) (e : Edge) : frst (es ++ [e]) = frst es ++ (if grp es e.1 ≠ grp es e.2 then [es.length] else []) := by
  unfold frst
  rw [List.length_append, List.length_singleton, List.range_succ, List.filter_append]
  congr 1
  · refine List.filter_congr fun i hi => ?_
    have hi := List.mem_range.mp hi
    rw [List.getElem?_append_left hi, List.take_append_of_le_length (Nat.le_of_lt hi)]
  · rw [List.filter_cons, List.getElem?_append_right (Nat.le_refl _), Nat.sub_self]
    have et : (es ++ [e]).take es.length = es := by rw [List.take_append_of_le_length (Nat.le_refl _), List.take_length]
    simp only [List.getElem?_cons_zero, et]
    by_cases h : grp es e.1 ≠ grp es e.2
    · rw [if_pos (decide_eq_true h), if_pos h]; rfl
    · rw [if_neg (by rw [decide_eq_false h]; decide), if_neg h]; rfl
theorem frst_lt {es : List Edge} {i : Nat} (h : i ∈ frst es) : i < es.length := List.mem_range.mp (List.mem_filter.mp h).1
theorem nodup_frst (es : List Edge) : (frst es).Nodup := nd_filter _ List.nodup_range
theorem frst_sub {es : List Edge} {e : Edge} {i : Nat} (h : i ∈ frst es) : i ∈ frst (es ++ [e]) := by
  rw [frst_snoc]; exact List.mem_append_left _ h

/-- induction from the right -/
theorem snoc_ind {α : Type} {P : List α → Prop} (h0 : P []) (hs : ∀ l a, P l → P (l ++ [a])) (l : List α) : P l := by
  have key : ∀ (k : Nat) (l : List α), l.length = k → P l := by
    intro k
    induction k with
    | zero => intro l h; rw [List.eq_nil_of_length_eq_zero h]; exact h0
    | succ k ih =>
      intro l h
      have hne : l ≠ [] := by intro e; subst e; simp at h
      rw [← List.dropLast_concat_getLast hne]
      exact hs _ _ (ih _ (by rw [List.length_dropLast, h]; omega))
  exact key _ l rfl

def Ends (n : Nat) (es : List Edge) : Prop := ∀ e ∈ es, e.1 < n ∧ e.2 < n
theorem Ends.left {n : Nat} {es : List Edge} {e : Edge} (h : Ends n (es ++ [e])) : Ends n es := fun x hx => h x (List.mem_append_left _ hx)
theorem Ends.last {n : Nat} {es : List Edge} {e : Edge} (h : Ends n (es ++ [e])) : e.1 < n ∧ e.2 < n := h e (by simp)

/-- a group's name is one of its nodes, and names itself -/
theorem grp_idem (es : List Edge) : ∀ v, grp es (grp es v) = grp es v := by
  refine snoc_ind (P := fun es => ∀ v, grp es (grp es v) = grp es v) (fun v => rfl) (fun es e ih v => ?_) es
  rw [grp_snoc]
  unfold gstep
  split
  · rename_i hne
    unfold merge
    by_cases h : grp es v = grp es e.2
    · simp only [if_pos h, ih, if_neg hne]
    · simp only [if_neg h, ih]
  · exact ih v
theorem grp_lt {n : Nat} (es : List Edge) : Ends n es → ∀ v, v < n → grp es v < n := by
  refine snoc_ind (P := fun es => Ends n es → ∀ v, v < n → grp es v < n) (fun _ v h => h) (fun es e ih he v hv => ?_) es
  rw [grp_snoc]
  unfold gstep
  split
  · unfold merge
    split
    · exact ih he.left _ he.last.1
    · exact ih he.left _ hv
  · exact ih he.left _ hv
/-- edges join their ends -/
theorem grp_edge (es : List Edge) : ∀ e ∈ es, grp es e.1 = grp es e.2 := by
  refine snoc_ind (P := fun es => ∀ e ∈ es, grp es e.1 = grp es e.2) (fun e h => absurd h List.not_mem_nil) (fun es f ih e he => ?_) es
  rw [grp_snoc]
  unfold gstep
  rcases List.mem_append.mp he with he | he
  · have q := ih e he
    split
    · unfold merge; rw [q]
    · exact q
  · rw [List.mem_singleton] at he
    subst he
    split
    · rename_i hne
      unfold merge
      rw [if_neg hne, if_pos rfl]
    · rename_i h
      exact Decidable.byContradiction h
/-- what all forest edges respect, groups respect -/
theorem grp_closed (S : Nat → Prop) (es : List Edge) : (∀ i ∈ frst es, ∀ e, es[i]? = some e → (S e.1 ↔ S e.2)) → ∀ u v, grp es u = grp es v → (S u ↔ S v) := by
  refine snoc_ind (P := fun es => (∀ i ∈ frst es, ∀ e, es[i]? = some e → (S e.1 ↔ S e.2)) → ∀ u v, grp es u = grp es v → (S u ↔ S v)) (fun _ u v h => ?_) (fun es f ih hc u v h => ?_) es
  · have e : u = v := h
    rw [e]
  · have ih' := ih fun i hi e he => hc i (frst_sub hi) e (by rw [List.getElem?_append_left (frst_lt hi)]; exact he)
    rw [grp_snoc] at h
    unfold gstep at h
    split at h
    · rename_i hne
      have hl : S f.1 ↔ S f.2 := hc es.length (by rw [frst_snoc, if_pos hne]; simp) f (by rw [List.getElem?_append_right (Nat.le_refl _), Nat.sub_self]; rfl)
      unfold merge at h
      by_cases hu : grp es u = grp es f.2
      · rw [if_pos hu] at h
        by_cases hv : grp es v = grp es f.2
        · exact (ih' u f.2 hu).trans (ih' v f.2 hv).symm
        · rw [if_neg hv] at h
          exact (ih' u f.2 hu).trans (hl.symm.trans (ih' f.1 v h))
      · rw [if_neg hu] at h
        by_cases hv : grp es v = grp es f.2
        · rw [if_pos hv] at h
          exact (ih' u f.1 h).trans (hl.trans (ih' v f.2 hv).symm)
        · rw [if_neg hv] at h
          exact ih' u v h
    · exact ih' u v h

/-- the nodes that name their group -/
def reps (g : Nat → Nat) (n : Nat) : List Nat := (List.range n).filter fun v => decide (g v = v)
theorem mem_reps {g : Nat → Nat} {n v : Nat} : v ∈ reps g n ↔ v < n ∧ g v = v := by
  unfold reps; rw [List.mem_filter, List.mem_range, decide_eq_true_iff]
theorem nodup_reps (g : Nat → Nat) (n : Nat) : (reps g n).Nodup := nd_filter _ List.nodup_range
theorem reps_count {n : Nat} (es : List Edge) : Ends n es → (reps (grp es) n).length + (frst es).length = n := by
  refine snoc_ind (P := fun es => Ends n es → (reps (grp es) n).length + (frst es).length = n) (fun _ => ?_) (fun es e ih he => ?_) es
  · have h1 : reps (grp []) n = List.range n := List.filter_eq_self.mpr fun v _ => decide_eq_true rfl
    rw [h1, List.length_range]
    rfl
  · have ih := ih he.left
    rw [grp_snoc, frst_snoc]
    unfold gstep
    by_cases hne : grp es e.1 ≠ grp es e.2
    · rw [if_pos hne, if_pos hne, List.length_append, List.length_singleton]
      -- one name less: the head's
      have hm : grp es e.2 ∈ reps (grp es) n := mem_reps.mpr ⟨grp_lt es he.left _ he.last.2, grp_idem es _⟩
      have hd : (reps (merge (grp es) e) n).length = ((reps (grp es) n).erase (grp es e.2)).length := by
        refine same_len (nodup_reps _ _) ((nodup_reps _ _).erase _) fun v => ?_
        rw [(nodup_reps (grp es) n).mem_erase_iff, mem_reps, mem_reps]
        unfold merge
        by_cases h : grp es v = grp es e.2
        · rw [if_pos h]
          constructor
          · rintro ⟨h1, h2⟩
            exfalso
            apply hne
            rw [← h2, grp_idem] at h
            exact h
          · rintro ⟨h1, h2, h3⟩
            exact absurd (h3.symm.trans h) h1
        · rw [if_neg h]
          constructor
          · rintro ⟨h1, h2⟩
            exact ⟨fun q => h (by rw [q, grp_idem]), h1, h2⟩
          · rintro ⟨_, h2, h3⟩
            exact ⟨h2, h3⟩
      have hpos : 0 < (reps (grp es) n).length := List.length_pos_of_mem hm
      rw [hd, List.length_erase_of_mem hm]
      omega
    · rw [if_neg hne, if_neg hne, List.append_nil]
      exact ih
theorem reps_vals {n : Nat} {es : List Edge} (he : Ends n es) : (dd ((List.range n).map (grp es))).length = (reps (grp es) n).length := by
  refine same_len (nodup_dd _) (nodup_reps _ _) fun v => ?_
  rw [mem_dd, List.mem_map, mem_reps]
  constructor
  · rintro ⟨u, hu, rfl⟩
    exact ⟨grp_lt es he u (List.mem_range.mp hu), grp_idem es u⟩
  · rintro ⟨h1, h2⟩
    exact ⟨v, List.mem_range.mpr h1, h2⟩
/-- how many components -/
theorem comps_count {n : Nat} {es : List Edge} (he : Ends n es) : (dd ((List.range n).map (grp es))).length = n - (frst es).length := by
  rw [reps_vals he]
  have := reps_count es he
  omega
theorem frst_le {n : Nat} {es : List Edge} (he : Ends n es) : (frst es).length ≤ n := by
  have := reps_count es he
  omega
theorem frst_le_len (es : List Edge) : (frst es).length ≤ es.length := by
  have := List.length_filter_le (fun i => match es[i]? with | some e => decide (grp (es.take i) e.1 ≠ grp (es.take i) e.2) | none => false) (List.range es.length)
  rw [List.length_range] at this
  exact this
theorem comps_pos {n : Nat} {es : List Edge} (hn : 0 < n) : 0 < (dd ((List.range n).map (grp es))).length := by
  refine List.length_pos_of_mem (a := grp es 0) (mem_dd.mpr (List.mem_map.mpr ⟨0, List.mem_range.mpr hn, rfl⟩))
/-- no forest: loops alone -/
theorem frst_nil (es : List Edge) : (frst es = [] ∧ grp es = id) ↔ ∀ e ∈ es, e.1 = e.2 := by
  refine snoc_ind (P := fun es => (frst es = [] ∧ grp es = id) ↔ ∀ e ∈ es, e.1 = e.2) ⟨fun _ e h => absurd h List.not_mem_nil, fun _ => ⟨rfl, rfl⟩⟩ (fun es e ih => ?_) es
  rw [frst_snoc, grp_snoc]
  constructor
  · rintro ⟨h1, h2⟩ x hx
    have h1' := List.append_eq_nil_iff.mp h1
    have hg : ¬ grp es e.1 ≠ grp es e.2 := fun z => by
      have q := h1'.2
      rw [if_pos z] at q; cases q
    unfold gstep at h2
    rw [if_neg hg] at h2
    rcases List.mem_append.mp hx with hx | hx
    · exact ih.mp ⟨h1'.1, h2⟩ x hx
    · rw [List.mem_singleton] at hx
      subst hx
      have q := Decidable.byContradiction hg
      rw [h2] at q
      exact q
  · intro h
    obtain ⟨a, b⟩ := ih.mpr fun x hx => h x (List.mem_append_left _ hx)
    have he : e.1 = e.2 := h e (by simp)
    have hg : ¬ grp es e.1 ≠ grp es e.2 := fun z => z (by rw [he])
    unfold gstep
    rw [if_neg hg, if_neg hg, a, b]
    exact ⟨rfl, rfl⟩
theorem frst_nil_grp (es : List Edge) : frst es = [] → grp es = id := by
  refine snoc_ind (P := fun es => frst es = [] → grp es = id) (fun _ => rfl) (fun es e ih h => ?_) es
  rw [frst_snoc] at h
  have h' := List.append_eq_nil_iff.mp h
  have hg : ¬ grp es e.1 ≠ grp es e.2 := fun z => by
    have q := h'.2
    rw [if_pos z] at q; cases q
  rw [grp_snoc]
  unfold gstep
  rw [if_neg hg]
  exact ih h'.1
theorem frst_loops (es : List Edge) : frst es = [] ↔ ∀ e ∈ es, e.1 = e.2 :=
  ⟨fun h => (frst_nil es).mp ⟨h, frst_nil_grp es h⟩, fun h => ((frst_nil es).mpr h).1⟩

/-! ### switching -/
def low (m : Nat) (a : Int) : Nat := (a % (m : Int)).toNat
theorem low_lt {m : Nat} (hm : 0 < m) (a : Int) : low m a < m := by
  unfold low
  have h1 := Int.emod_nonneg a (b := (m : Int)) (by omega)
  have h2 := Int.emod_lt_of_pos a (b := (m : Int)) (by omega)
  omega
theorem low_cast {m : Nat} (hm : 0 < m) (a : Int) : ((low m a : Nat) : Int) = a % (m : Int) := by
  unfold low
  have h1 := Int.emod_nonneg a (b := (m : Int)) (by omega)
  omega
/-- what a potential leads to -/
def put (m : Nat) (es : List Edge) (g p : List Nat) : List Nat := List.zipWith (fun (x : Nat) (e : Edge) => low m ((x : Int) + (p.getD e.1 0 : Int) - (p.getD e.2 0 : Int))) g es

/-- the potentials that are alike on groups -/
def even (g : Nat → Nat) (n : Nat) (p : List Nat) : Bool := (List.range n).all fun v => decide (p.getD v 0 = p.getD (g v) 0)
theorem even_iff {g : Nat → Nat} {n : Nat} {p : List Nat} : even g n p = true ↔ ∀ v, v < n → p.getD v 0 = p.getD (g v) 0 := by
  unfold even
  rw [List.all_eq_true]
  constructor
  · intro h v hv
    exact of_decide_eq_true (h v (List.mem_range.mpr hv))
  · intro h v hv
    exact decide_eq_true (h v (List.mem_range.mp hv))
theorem count_even {m n : Nat} {es : List Edge} (he : Ends n es) : ((allv m n).filter (even (grp es) n)).length = m ^ (n - (frst es).length) := by
  have hc : (reps (grp es) n).length = n - (frst es).length := by
    have := reps_count es he
    omega
  rw [← hc]
  refine count_sel (even (grp es) n) (reps (grp es) n) (fun r => (List.range n).map fun v => r.getD ((reps (grp es) n).idxOf (grp es v)) 0) (fun v hv => (mem_reps.mp hv).1) (fun p hp h => ?_) (fun r hr => ?_)
  · have h := even_iff.mp h
    have hl := (mem_allv.mp hp).1
    refine ext_getD (k := n) (by simp) hl fun v hv => ?_
    rw [getD_map_range _ hv]
    have hm : grp es v ∈ reps (grp es) n := mem_reps.mpr ⟨grp_lt es he v hv, grp_idem es v⟩
    have hj := List.idxOf_lt_length_iff.mpr hm
    rw [getD_map_list _ hj, List.getElem_idxOf]
    exact (h v hv).symm
  · obtain ⟨hl, hx⟩ := mem_allv.mp hr
    have hm : ∀ v, v < n → grp es v ∈ reps (grp es) n := fun v hv => mem_reps.mpr ⟨grp_lt es he v hv, grp_idem es v⟩
    refine ⟨mem_allv.mpr ⟨by simp, fun x hx' => ?_⟩, even_iff.mpr fun v hv => ?_, ?_⟩
    · obtain ⟨v, hv, rfl⟩ := List.mem_map.mp hx'
      have hv := List.mem_range.mp hv
      exact get_lt hr (List.idxOf_lt_length_iff.mpr (hm v hv))
    · rw [getD_map_range _ hv, getD_map_range _ (grp_lt es he v hv), grp_idem]
    · refine ext_getD (k := (reps (grp es) n).length) (by simp) hl fun j hj => ?_
      rw [getD_map_list _ hj]
      have hmj := mem_reps.mp (List.getElem_mem hj)
      rw [getD_map_range _ hmj.1, hmj.2, (nodup_reps _ _).idxOf_getElem]

theorem even_edges {m n : Nat} {es : List Edge} (he : Ends n es) {p : List Nat} : even (grp es) n p = true ↔ ∀ e ∈ es, p.getD e.1 0 = p.getD e.2 0 := by
  rw [even_iff]
  constructor
  · intro h e hm
    rw [h e.1 (he e hm).1, h e.2 (he e hm).2, grp_edge es e hm]
  · intro h v hv
    refine (grp_closed (fun u => p.getD u 0 = p.getD v 0) es (fun i hi e hie => ?_) v (grp es v) (grp_idem es v).symm).mp rfl |>.symm
    have q := h e (List.mem_of_getElem? hie)
    show p.getD e.1 0 = _ ↔ p.getD e.2 0 = _
    rw [q]

theorem low_eq {m x a b : Nat} (hx : x < m) (ha : a < m) (hb : b < m) : low m ((x : Int) + (a : Int) - (b : Int)) = x ↔ a = b := by
  have hm : 0 < m := by omega
  constructor
  · intro h
    have h1 : (((x : Int) + a - b) % (m : Int)) = x := by rw [← low_cast hm, h]
    have h2 := Int.emod_add_mul_ediv ((x : Int) + a - b) m
    rw [h1] at h2
    have h3 : (m : Int) * (((x : Int) + a - b) / m) = a - b := by omega
    rcases Int.lt_trichotomy (((x : Int) + a - b) / m) 0 with q | q | q
    · have : (m : Int) * (((x : Int) + a - b) / m) ≤ (m : Int) * (-1) := Int.mul_le_mul_of_nonneg_left (by omega) (by omega)
      omega
    · rw [q] at h3
      omega
    · have : (m : Int) * 1 ≤ (m : Int) * (((x : Int) + a - b) / m) := Int.mul_le_mul_of_nonneg_left (by omega) (by omega)
      omega
  · rintro rfl
    unfold low
    have e : (x : Int) + a - a = x := by omega
    rw [e, Int.emod_eq_of_lt (by omega) (by omega)]
    omega

theorem put_len {m : Nat} {es : List Edge} {g p : List Nat} (hg : g.length = es.length) : (put m es g p).length = es.length := by
  unfold put; rw [List.length_zipWith, hg, Nat.min_self]
theorem put_get {m : Nat} {es : List Edge} {g p : List Nat} {i : Nat} {e : Edge} (hg : g.length = es.length) (hi : es[i]? = some e) : (put m es g p).getD i 0 = low m ((g.getD i 0 : Nat) + (p.getD e.1 0 : Int) - (p.getD e.2 0 : Int)) := by
  have hlt := (List.getElem?_eq_some_iff.mp hi).1
  unfold put
  rw [List.getD_eq_getElem?_getD, List.getElem?_zipWith, hi, List.getElem?_eq_getElem (show i < g.length by omega), List.getD_eq_getElem?_getD, List.getElem?_eq_getElem (show i < g.length by omega)]
  rfl

/-- which potentials lead from gains to themselves -/
theorem put_self {m n : Nat} {es : List Edge} (he : Ends n es) {g p : List Nat} (hg : g ∈ allv m es.length) (hp : p ∈ allv m n) : put m es g p = g ↔ even (grp es) n p = true := by
  rw [even_edges (m := m) he]
  have hgl := (mem_allv.mp hg).1
  constructor
  · intro h e hm
    obtain ⟨i, hi⟩ := List.getElem?_of_mem hm
    have q := put_get (m := m) (p := p) hgl hi
    rw [h] at q
    have hlt := (List.getElem?_eq_some_iff.mp hi).1
    exact (low_eq (get_lt hg hlt) (get_lt hp (he e hm).1) (get_lt hp (he e hm).2)).mp q.symm
  · intro h
    refine ext_getD (k := es.length) (put_len hgl) hgl fun i hi => ?_
    have hi' : es[i]? = some es[i] := List.getElem?_eq_getElem hi
    rw [put_get hgl hi']
    have hm := List.getElem_mem hi
    exact (low_eq (get_lt hg hi) (get_lt hp (he _ hm).1) (get_lt hp (he _ hm).2)).mpr (h _ hm)
theorem count_self {m n : Nat} {es : List Edge} (he : Ends n es) {g : List Nat} (hg : g ∈ allv m es.length) : (((allv m n).map (put m es g)).filter fun r => decide (r = g)).length = m ^ (n - (frst es).length) := by
  rw [← count_even (m := m) he, List.filter_map, List.length_map]
  congr 1
  refine List.filter_congr fun p hp => ?_
  show decide (put m es g p = g) = even (grp es) n p
  by_cases h : put m es g p = g
  · rw [decide_eq_true h, (put_self he hg hp).mp h]
  · rw [decide_eq_false h]
    cases q : even (grp es) n p with
    | false => rfl
    | true => exact absurd ((put_self he hg hp).mpr q) h

/-! sums and differences of potentials -/
def addp (m n : Nat) (p q : List Nat) : List Nat := (List.range n).map fun v => (p.getD v 0 + q.getD v 0) % m
def subp (m n : Nat) (p q : List Nat) : List Nat := (List.range n).map fun v => (q.getD v 0 + (m - p.getD v 0)) % m
theorem addp_mem {m n : Nat} (hm : 0 < m) (p q : List Nat) : addp m n p q ∈ allv m n := mem_allv.mpr ⟨by simp [addp], fun x hx => by
  obtain ⟨v, _, rfl⟩ := List.mem_map.mp hx
  exact Nat.mod_lt _ hm⟩
theorem subp_mem {m n : Nat} (hm : 0 < m) (p q : List Nat) : subp m n p q ∈ allv m n := mem_allv.mpr ⟨by simp [subp], fun x hx => by
  obtain ⟨v, _, rfl⟩ := List.mem_map.mp hx
  exact Nat.mod_lt _ hm⟩
theorem addp_sub {m n : Nat} {p q : List Nat} (hp : p ∈ allv m n) (hq : q ∈ allv m n) : addp m n p (subp m n p q) = q := by
  refine ext_getD (k := n) (by simp [addp]) (mem_allv.mp hq).1 fun v hv => ?_
  unfold addp subp
  rw [getD_map_range _ hv, getD_map_range _ hv]
  have h1 := get_lt hp hv
  have h2 := get_lt hq hv
  rw [Nat.add_mod_mod, show p.getD v 0 + (q.getD v 0 + (m - p.getD v 0)) = q.getD v 0 + m by omega, Nat.add_mod_right, Nat.mod_eq_of_lt h2]
theorem subp_add {m n : Nat} {p q : List Nat} (hp : p ∈ allv m n) (hq : q ∈ allv m n) : subp m n p (addp m n p q) = q := by
  refine ext_getD (k := n) (by simp [subp]) (mem_allv.mp hq).1 fun v hv => ?_
  unfold addp subp
  rw [getD_map_range _ hv, getD_map_range _ hv]
  have h1 := get_lt hp hv
  have h2 := get_lt hq hv
  rw [Nat.mod_add_mod, show p.getD v 0 + q.getD v 0 + (m - p.getD v 0) = q.getD v 0 + m by omega, Nat.add_mod_right, Nat.mod_eq_of_lt h2]
theorem low_congr {m : Nat} {a b : Int} (h : a % (m : Int) = b % (m : Int)) : low m a = low m b := by unfold low; rw [h]
theorem low_add {m x a b c d : Nat} (hm : 0 < m) : low m ((x : Int) + ((a + c) % m : Nat) - ((b + d) % m : Nat)) = low m ((low m ((x : Int) + a - b) : Nat) + (c : Int) - (d : Int)) := by
  refine low_congr ?_
  rw [low_cast hm]
  have e1 : (((a + c) % m : Nat) : Int) = ((a : Int) + c) % (m : Int) := by rw [Int.natCast_emod]; rfl
  have e2 : (((b + d) % m : Nat) : Int) = ((b : Int) + d) % (m : Int) := by rw [Int.natCast_emod]; rfl
  rw [e1, e2, Int.sub_emod_emod, show (x : Int) + ((a : Int) + c) % m - ((b : Int) + d) = ((a : Int) + c) % m + ((x : Int) - (b + d)) by omega, Int.emod_add_emod,
    show ((x : Int) + a - b) % m + c - d = ((x : Int) + a - b) % m + (c - d) by omega, Int.emod_add_emod]
  congr 1
  omega
theorem put_add {m n : Nat} (hm : 0 < m) {es : List Edge} (he : Ends n es) {g p q : List Nat} (hg : g.length = es.length) : put m es g (addp m n p q) = put m es (put m es g p) q := by
  have h1 := put_len (m := m) (p := p) hg
  refine ext_getD (k := es.length) (put_len hg) (put_len h1) fun i hi => ?_
  have hi' : es[i]? = some es[i] := List.getElem?_eq_getElem hi
  rw [put_get hg hi', put_get h1 hi', put_get hg hi']
  have hm' := List.getElem_mem hi
  unfold addp
  rw [getD_map_range _ (he _ hm').1, getD_map_range _ (he _ hm').2]
  exact low_add hm
theorem put_mem {m : Nat} (hm : 0 < m) {es : List Edge} {g p : List Nat} (hg : g.length = es.length) : put m es g p ∈ allv m es.length := mem_allv.mpr ⟨put_len hg, fun x hx => by
  unfold put at hx
  obtain ⟨i, hi⟩ := List.getElem?_of_mem hx
  rw [List.getElem?_zipWith] at hi
  cases a : g[i]? with
  | none => rw [a] at hi; simp at hi
  | some y =>
    cases b : es[i]? with
    | none => rw [a, b] at hi; simp at hi
    | some e =>
      rw [a, b] at hi
      have q := Option.some.inj hi
      rw [← q]
      exact low_lt hm _⟩
/-- how many gains all potentials lead to -/
theorem count_reached {m n : Nat} (hm : 0 < m) {es : List Edge} (he : Ends n es) {g : List Nat} (hg : g ∈ allv m es.length) : (dd ((allv m n).map (put m es g))).length = m ^ (frst es).length := by
  have hgl := (mem_allv.mp hg).1
  have h1 := count_split (put m es g) (nodup_dd ((allv m n).map (put m es g))) (A := allv m n) fun p hp => mem_dd.mpr (List.mem_map.mpr ⟨p, hp, rfl⟩)
  have h2 : ∀ b ∈ dd ((allv m n).map (put m es g)), ((allv m n).filter fun p => decide (put m es g p = b)).length = m ^ (n - (frst es).length) := fun b hb => by
    obtain ⟨p, hp, rfl⟩ := List.mem_map.mp (mem_dd.mp hb)
    rw [← count_even (m := m) he]
    refine bij_len (subp m n p) (addp m n p) (nd_filter _ (nodup_allv m n)) (nd_filter _ (nodup_allv m n)) (fun q hq => ?_) (fun q hq => ?_) (fun q hq => ?_) (fun q hq => ?_)
    · obtain ⟨hq, e⟩ := List.mem_filter.mp hq
      have e := of_decide_eq_true e
      refine List.mem_filter.mpr ⟨subp_mem hm _ _, (put_self he (g := put m es g p) (put_mem hm hgl) (subp_mem hm _ _)).mp ?_⟩
      · rw [← put_add hm he hgl, addp_sub hp hq, e]
    · obtain ⟨hq, e⟩ := List.mem_filter.mp hq
      refine List.mem_filter.mpr ⟨addp_mem hm _ _, decide_eq_true ?_⟩
      rw [put_add hm he hgl]
      exact (put_self he (put_mem hm hgl) hq).mpr e
    · exact addp_sub hp (List.mem_filter.mp hq).1
    · exact subp_add hp (List.mem_filter.mp hq).1
  rw [sum_const h2, len_allv] at h1
  have hle := frst_le he
  have e : m ^ n = m ^ (frst es).length * m ^ (n - (frst es).length) := by rw [← Nat.pow_add]; congr 1; omega
  rw [e] at h1
  exact (Nat.eq_of_mul_eq_mul_right (Nat.pow_pos hm) h1).symm

/-! ### normal gains -/
/-- 0 on the forest -/
def flat (F : List Nat) (r : List Nat) : Bool := F.all fun i => decide (r.getD i 0 = 0)
theorem flat_iff {F r : List Nat} : flat F r = true ↔ ∀ i ∈ F, r.getD i 0 = 0 := by
  unfold flat
  rw [List.all_eq_true]
  exact ⟨fun h i hi => of_decide_eq_true (h i hi), fun h i hi => decide_eq_true (h i hi)⟩
/-- the numbers that are not in F -/
def outs (F : List Nat) (k : Nat) : List Nat := (List.range k).filter fun i => decide (i ∉ F)
theorem mem_outs {F : List Nat} {k i : Nat} : i ∈ outs F k ↔ i < k ∧ i ∉ F := by
  unfold outs; rw [List.mem_filter, List.mem_range, decide_eq_true_iff]
theorem nodup_outs (F : List Nat) (k : Nat) : (outs F k).Nodup := nd_filter _ List.nodup_range
theorem len_outs {F : List Nat} {k : Nat} (hF : F.Nodup) (hk : ∀ i ∈ F, i < k) : (outs F k).length = k - F.length := by
  have h1 : (List.range k).length = ((List.range k).filter fun i => decide (i ∉ F)).length + ((List.range k).filter fun i => !decide (i ∉ F)).length := by
    have q := count_split (fun i => decide (i ∉ F)) (L := [true, false]) (by decide) (A := List.range k) (fun a _ => by cases decide (a ∉ F) <;> decide)
    rw [q]
    simp
  have h2 : ((List.range k).filter fun i => !decide (i ∉ F)).length = F.length := by
    refine same_len (nd_filter _ List.nodup_range) hF fun i => ?_
    rw [List.mem_filter, List.mem_range]
    constructor
    · rintro ⟨_, h⟩
      simpa using h
    · intro h
      exact ⟨hk i h, by simpa using h⟩
  rw [List.length_range] at h1
  unfold outs
  omega
theorem count_flat {m k : Nat} (hm : 0 < m) {F : List Nat} (hF : F.Nodup) (hk : ∀ i ∈ F, i < k) : ((allv m k).filter (flat F)).length = m ^ (k - F.length) := by
  rw [← len_outs hF hk]
  refine count_sel (flat F) (outs F k) (fun r => (List.range k).map fun i => if i ∈ F then 0 else r.getD ((outs F k).idxOf i) 0) (fun v hv => (mem_outs.mp hv).1) (fun p hp h => ?_) (fun r hr => ?_)
  · have h := flat_iff.mp h
    refine ext_getD (k := k) (by simp) (mem_allv.mp hp).1 fun v hv => ?_
    rw [getD_map_range _ hv]
    by_cases hvF : v ∈ F
    · rw [if_pos hvF, h v hvF]
    · rw [if_neg hvF]
      have hj := List.idxOf_lt_length_iff.mpr (mem_outs.mpr ⟨hv, hvF⟩)
      rw [getD_map_list _ hj, List.getElem_idxOf]
  · obtain ⟨hl, hx⟩ := mem_allv.mp hr
    refine ⟨mem_allv.mpr ⟨by simp, fun x hx' => ?_⟩, flat_iff.mpr fun i hi => ?_, ?_⟩
    · obtain ⟨v, hv, rfl⟩ := List.mem_map.mp hx'
      have hv := List.mem_range.mp hv
      show (if v ∈ F then 0 else _) < m
      split
      · exact hm
      · rename_i hvF
        exact get_lt hr (List.idxOf_lt_length_iff.mpr (mem_outs.mpr ⟨hv, hvF⟩))
    · rw [getD_map_range _ (hk i hi), if_pos hi]
    · refine ext_getD (k := (outs F k).length) (by simp) hl fun j hj => ?_
      rw [getD_map_list _ hj]
      have hmj := mem_outs.mp (List.getElem_mem hj)
      rw [getD_map_range _ hmj.1, if_neg hmj.2, (nodup_outs _ _).idxOf_getElem]
/-- what is known of a normal form: it lies flat, and flat gains are their own -/
def Nrm (m : Nat) (es : List Edge) (g r : List Nat) : Prop := r ∈ allv m es.length ∧ flat (frst es) r = true ∧ (flat (frst es) g = true → r = g)
theorem count_normal {m : Nat} (hm : 0 < m) {es : List Edge} {rs : List (List Nat)} (hl : rs.length = (allv m es.length).length) (h : ∀ (i : Nat) g r, (allv m es.length)[i]? = some g → rs[i]? = some r → Nrm m es g r) :
    (dd rs).length = m ^ (es.length - (frst es).length) := by
  rw [← count_flat hm (nodup_frst es) fun i hi => frst_lt hi]
  refine same_len (nodup_dd _) (nd_filter _ (nodup_allv m _)) fun r => ?_
  rw [mem_dd, List.mem_filter]
  constructor
  · intro hr
    obtain ⟨i, hi⟩ := List.getElem?_of_mem hr
    have hlt := (List.getElem?_eq_some_iff.mp hi).1
    obtain ⟨a, b, _⟩ := h i _ r (List.getElem?_eq_getElem (by omega)) hi
    exact ⟨a, b⟩
  · rintro ⟨hr, hf⟩
    obtain ⟨i, hi⟩ := List.getElem?_of_mem hr
    have hlt := (List.getElem?_eq_some_iff.mp hi).1
    obtain ⟨_, _, q⟩ := h i r _ hi (List.getElem?_eq_getElem (by omega))
    rw [← q hf]
    exact List.getElem_mem _
end K18

set_option Elab.async false
set_option linter.all false
set_option maxRecDepth 100000
set_option maxHeartbeats 4000000
/-! Rules of my own for k18: repr of a list (where nothing is being written), d.update(e), len of an own object; defs that know that no repr runs around them. -/
namespace K18
open PySem PySem.Spec PyProof.Rows L2

section
variable {X : Cx}
/-- repr of a list, where no repr runs around -/
theorem call_reprD (hg : X.A.guards = some []) (hu : X.A.units + 64 < cLine) : CallR X (.builtin "repr")
    (fun xs H Q => ∃ a d, xs = [.ref a] ∧ Dp X.K H (.ref a) d ∧ d.showable = true ∧ d.hasDict = false ∧ d.depth ≤ 60 ∧ d.shown.length ≤ sizeLine ∧ Q (.str d.shown) H) := by
  intro pins s σ H xs us Q I r h
  obtain ⟨a, d, rfl, hd, hs, hn, hdp, hz, q⟩ := h
  obtain ⟨u, rfl, rx⟩ := vals1 r
  obtain rfl : u = Value.ref a := rx
  obtain ⟨as, rd⟩ := Dp.reads I d _ _ hd rfl
  exact repr_of_reads' rd hs (PyData.noDict_hsm hn) hg (by omega) (fun _ _ e => e) (fun h' u tk hk => ⟨.str _, H, I.kept hk, ⟨_, rfl⟩, q⟩) hz

/-- d.update(e), two different dicts -/
def rUpd : V → List V → Hp → VK → Prop := fun x vs H Q => ∃ a b, ∃ kvs more : List (Key × V), x = .ref a ∧ vs = [.ref b] ∧ a ≠ b ∧ H a = some (.dK kvs) ∧ H b = some (.dK more) ∧ kvs.length + more.length ≤ sizeLine ∧ Q .non (upd H a (.dK (mergeK kvs more)))
theorem mt_upd : MtR X "dict.update" rUpd := by
  intro pins s σ H x vs v us Q I rx rv h
  obtain ⟨a, b, kvs, more, rfl, rfl, hab, ea, eb, hz, q⟩ := h
  obtain rfl : v = Value.ref a := rx
  obtain ⟨u, rfl, ru⟩ := vals1 rv
  obtain rfl : u = Value.ref b := ru
  obtain ⟨_, hd, ks, rel, dd⟩ := dk_of I.hok ea
  obtain ⟨_, hd2, ls, rel2, dd2⟩ := dk_of I.hok eb
  refine call_meetsIn PySem.F.slot_dict_update dd.typeIs PySem.F.entry_dict_update (PySem.F.args_dict_update_2 _ _) (meets_dict_update (mixKind X.prog X.w) a b hab hd2)
    ⟨ks, ls, dd, dd2, by rw [← rel.length, ← rel2.length]; exact hz, fun h' da _ hs => ?_⟩
  have there : ∃ o, h'.get? a = some o := by
    obtain ⟨o, _, _, ho, _⟩ := da
    exact ⟨o, ho⟩
  refine ⟨.non, _, ?_, rfl, q⟩
  exact d_write (t' := s.toks) I (by rw [ea]; exact True.intro) hs there (dk_new (Nat.le_trans (length_mergeK more kvs) hz) hd (rel2.merge rel) da)

/-- len(o), o of an own class with __len__ -/
theorem call_lenM {k j : Nat} {C : Addr} {sp : Sp} (c : C8.Met X.prog X.w X.K X.mg X.base k C "__len__" sp []) (hr : Room j X.A) (hk : k + 1 ≤ j) :
    CallR X (.builtin "len") (fun xs H Q => ∃ a dx fs, xs = [.ref a] ∧ H a = some (.ins C dx fs) ∧ sp [.ref a] H (fun v H' => ∃ n : Int, v = .int n ∧ (0 ≤ n ∧ n < 2 ^ 63) ∧ Q (.int n) H') C8.E0) := by
  intro pins s σ H xs us Q I r h
  obtain ⟨a, dx, fs, rfl, ea, h⟩ := h
  obtain ⟨f, fd, ps, ds, _, hm, F, hb, hd⟩ := c.ex
  cases hd
  obtain ⟨u, rfl, rx⟩ := vals1 r
  obtain rfl : u = Value.ref a := rx
  obtain ⟨m, hF⟩ := I.fr
  obtain ⟨mA, O, _⟩ := ins_get I.hok ea
  obtain ⟨od, J, _⟩ := O.look
  have h1 : ([Value.ref a] ++ ([] : List Value)).length = ps.length := (F.len _ _ _ _ h : [V.ref a].length = ps.length)
  have hv : Vals [V.ref a] ([Value.ref a] ++ ([] : List Value)) := .cons rfl .nil
  refine PySem.W.len_K hF I.mod.kin J hm.at_ hm.fn (wpAny_call (codeAny_mono (F.run X.A.in1 X.stack s H ⟨[.ref a], []⟩ ([Value.ref a] ++ ([] : List Value)) [.ref a] _ _ (hr.mono hk).in1 I.env0.in1 (hb s [.ref a] I.kIn h1) hv h) fun r s' hq => ?_))
  cases r with
  | error e => exact False.elim hq
  | ok fl =>
    cases fl with
    | ret w =>
      obtain ⟨v, H', I', rv, n, rfl, hn, q⟩ := I.after hq
      obtain ⟨t, rfl⟩ := rv
      exact ⟨hn, .int n, H', I'.tok _, ⟨_, rfl⟩, q⟩
    | next => exact hq.elim
    | brk => exact hq.elim
    | cont => exact hq.elim
end

/-! ### defs around which no repr runs -/
structure FnG (P : Program) (w : World) (K : PySem.W.Frag) (mg : Str → Option Value) (base : Heap) (k : Nat) (f : Addr) (fd : FuncData) (ps : List Str) (sp : Sp) : Prop where
  len : ∀ vs H Q E, sp vs H Q E → vs.length = ps.length
  run : ∀ (A : Around) (outer : List Env) (s : Shared) (H : Hp) (args : Args) (us : List Value) (vs : List V) (Q : VK), Room k A → A.guards = some [] → Env0 P w K mg base A outer s H →
    BindsTo s fd args (ps.zip us) → Vals vs us → sp vs H Q C8.E0 → codeAny (model P w) A (.call (.ref f) args) (CR C8.CX0 outer P w H s Q C8.E0) s
section
variable {P : Program} {w : World} {K : PySem.W.Frag} {mg : Str → Option Value} {base : Heap}
/-- such a def by its body -/
theorem fnG_of {k : Nat} {f : Addr} {fd : FuncData} {x qual : Str} {pa : Arguments} {body : List Stmt} {sc : Scope} {N ps : List Str} {sp : Sp} (F : FunD K x qual pa body sc [] [] f fd) (S : FnScope N ps sc) (len : ∀ vs H Q E, sp vs H Q E → vs.length = ps.length)
    (hbody : ∀ (cdv : Value) (A : Around) (outer : List Env) (s : Shared) (H : Hp) (vs : List V) (Q : VK), Room k (A.deeper (envOfC qual sc s.heap.objs.size f cdv)) → A.guards = some [] → sp vs H Q C8.E0 →
      ∃ t, PSs (cxOf C8.CX0 P w K mg base N qual sc f cdv A outer s H C8.E0).nox body t ∧ t { nx := fun _ H' => Q .non H', rt := Q } (start N vs) H) : FnG P w K mg base (k + 1) f fd ps sp := by
  obtain ⟨oc, od, dV, kV, doc, pm, an, cdv, ct, osl, rfl, lk, hcd, _, _⟩ := F.ex
  refine ⟨len, fun A outer s H args us vs Q hr hg e0 hb rv hsp => ?_⟩
  have inK : K.In s.heap := e0.mod.kin.keeps fun b o e => (e0.bs b o e).1
  have nol : s.heap.NoLimit := e0.mod.nolimit.keeps fun b o e => (e0.bs b o e).1
  have seen : ∀ y ∈ ps.zip us, sc.names.lookup y.1 = some .local ∨
      (sc.names.lookup y.1 = some .cell ∧ ((cellsFrom (s.heap.objs.size + 1) sc.names []).lookup y.1).isSome = true) := by
    rintro ⟨n, v⟩ hy
    exact (S.par n (List.of_mem_zip hy).1).imp (fun q => q) fun q => ⟨q, PySem.W.cellsFrom_some _ _ _ (.inl q)⟩
  refine codeAny_call_function hr.depth (inK _ _ lk) rfl S.co S.gen rfl (PySem.W.codeRec_of inK hcd) (hb _ _ _ _ ?_)
  refine wpAny_newFunctionEnv_cells S.kind seen fun env he s1 x => ?_
  subst he
  refine ⟨nol.keeps x.toInCall.keep, codeAny_func ?_⟩
  obtain ⟨t, ht, hq⟩ := hbody cdv A outer s H vs Q (hr.deeper _) hg hsp
  have I := inv_start (CX := C8.CX0) (E := C8.E0) S hr.hd e0 (len _ _ _ _ hsp) rv x
  refine wpAny_mono (ht.nox.run [] s1 (start N vs) H _ I hq) (fun fl s' hs => ?_) fun e s' hs => hs
  cases fl with
  | ret u =>
    obtain ⟨v, σ', H', J, rv', q⟩ := hs
    exact ⟨v, H', J.os, J.bare, J.base, J.hok, rv', q⟩
  | next =>
    obtain ⟨σ', H', J, q⟩ := hs
    exact ⟨.non, H', J.os, J.bare, J.base, J.hok, rfl, q⟩
  | brk => obtain ⟨_, _, _, q⟩ := hs; exact q.elim
  | cont => obtain ⟨_, _, _, q⟩ := hs; exact q.elim
/-- .. under its name -/
structure CalG (P : Program) (w : World) (K : PySem.W.Frag) (mg : Str → Option Value) (base : Heap) (k : Nat) (x : Str) (sp : Sp) : Prop where
  ex : ∃ (f : Addr) (fd : FuncData) (ps : List Str), FnG P w K mg base k f fd ps sp ∧ mg x = some (.ref f) ∧ PySem.W.keepIn K (.ref f) = true ∧ Binds K fd ps []
end
section
variable {X : Cx} {k j : Nat} {x : Str} {sp : Sp} {p pos : Pos} {e : Expr} {es : List Expr} {t : TA}
theorem pe_g (c : CalG X.prog X.w X.K X.mg X.base k x sp) (hg : X.A.guards = some []) (hr : Room j X.A) (hk : k ≤ j) (hgl : Gl X x) (ha : PA X (e :: es) t)
    (hdb : (x == ("__debug__" : Str)) = false := by decide) (he : starEach (e :: es) X.env = (false, eval e X.env) :: starEach es X.env := by rfl) (hpl : (backTo pos (starEach es X.env)).any (·.1) = false := by rfl) :
    PE X (.Call (.Name x p) (e :: es) [] pos) (tCall sp [] C8.E0 t) := by
  obtain ⟨f, fd, ps, F, hm, kp, b⟩ := c.ex
  refine ⟨fun pins s σ H Q I h => ?_⟩
  refine wpAny_Call_Name_kw (ld_glob I hgl hm ?_ hdb)
  refine PySem.W.callWith_K (h₀ := X.base) I.ok.mod.kin kp (thn (ha.run pos pins s σ H _ I h) fun us s1 ⟨vs, H1, I1, r, q⟩ => ⟨I1.kIn, ?_⟩) he hpl
  have q : sp (vs ++ []) H1 Q C8.E0 := q
  rw [List.append_nil] at q
  have hl : us.length = ps.length := by rw [← r.length]; exact F.len _ _ _ _ q
  have hb := b s1 us I1.kIn (by rw [List.append_nil]; exact hl)
  rw [List.append_nil] at hb
  refine wpAny_call (codeAny_mono (F.run X.A X.stack s1 H1 ⟨us, []⟩ us vs Q (hr.mono hk) hg I1.env0 hb r q) fun r s' hq => ?_)
  cases r with
  | error e => exact False.elim hq
  | ok fl =>
    cases fl with
    | ret u => exact I1.after hq
    | next => exact hq.elim
    | brk => exact hq.elim
    | cont => exact hq.elim
end

/-! ### defs and methods under their names, from the head's facts -/
section
variable {P : Program} {w : World} {K : PySem.W.Frag} {mg : Str → Option Value} {base : Heap}
abbrev Fd (K : PySem.W.Frag) (x qual : Str) (st : Stmt) (f : Addr) (fd : FuncData) : Prop := FunD K x qual (defArgs st) (defBody st) (defScope st) [] [] f fd
/-- a def of the module: where it stands, under which name -/
structure Dn (K : PySem.W.Frag) (mg : Str → Option Value) (x : Str) (st : Stmt) : Prop where
  ex : ∃ f fd, Fd K x x st f fd ∧ mg x = some (.ref f)
/-- a method of the class at C -/
structure Mn (K : PySem.W.Frag) (C : Addr) (m qual : Str) (st : Stmt) : Prop where
  ex : ∃ f fd, Fd K m qual st f fd ∧ Meth K C m f ∧ Cls K C
abbrev BindOk (st : Stmt) (x qual : Str) (ps : List Str) : Prop := ∀ (kV doc pm : Value) (an : Option Addr) (cdv ct : Value) (us : List Value), us.length = ps.length → bindArgs (PySem.W.fnOf x qual (defArgs st) (defBody st) (defScope st) .none kV doc pm an cdv ct) ⟨us, []⟩ = pure (ps.zip us)
theorem cal_mk {x : Str} {st : Stmt} {N ps : List Str} {k : Nat} {sp : Sp} (D : Dn K mg x st) (hb : BindOk st x x ps) (S : FnScope N ps (defScope st)) (len : ∀ vs H Q E, sp vs H Q E → vs.length = ps.length)
    (hbody : ∀ (f : Addr) (cdv : Value) (A : Around) (outer : List Env) (s : Shared) (H : Hp) (vs : List V) (Q : VK) (E : XK), Room k (A.deeper (envOfC x (defScope st) s.heap.objs.size f cdv)) → sp vs H Q E →
      ∃ t, PSs (cxOf C8.CX0 P w K mg base N x (defScope st) f cdv A outer s H E).nox (defBody st) t ∧ t { nx := fun _ H' => Q .non H', rt := Q } (start N vs) H) : C8.Cal P w K mg base (k + 1) x sp [] := by
  obtain ⟨f, fd, F, hm⟩ := D.ex
  refine ⟨f, fd, ps, [], F.ok S len (fun cdv A outer s H vs Q E hr h => ?_), hm, F.kp, F.bindsN hb, .nil⟩
  obtain ⟨t, h1, h2⟩ := hbody f cdv A outer s H vs Q E hr h
  exact ⟨t, h1.nox, h2⟩
theorem calG_mk {x : Str} {st : Stmt} {N ps : List Str} {k : Nat} {sp : Sp} (D : Dn K mg x st) (hb : BindOk st x x ps) (S : FnScope N ps (defScope st)) (len : ∀ vs H Q E, sp vs H Q E → vs.length = ps.length)
    (hbody : ∀ (f : Addr) (cdv : Value) (A : Around) (outer : List Env) (s : Shared) (H : Hp) (vs : List V) (Q : VK), Room k (A.deeper (envOfC x (defScope st) s.heap.objs.size f cdv)) → A.guards = some [] → sp vs H Q C8.E0 →
      ∃ t, PSs (cxOf C8.CX0 P w K mg base N x (defScope st) f cdv A outer s H C8.E0).nox (defBody st) t ∧ t { nx := fun _ H' => Q .non H', rt := Q } (start N vs) H) : CalG P w K mg base (k + 1) x sp := by
  obtain ⟨f, fd, F, hm⟩ := D.ex
  exact ⟨f, fd, ps, fnG_of F S len (fun cdv A outer s H vs Q hr hg h => hbody f cdv A outer s H vs Q hr hg h), hm, F.kp, F.bindsN hb⟩
theorem met_mk {C : Addr} {m qual : Str} {st : Stmt} {N ps : List Str} {k : Nat} {sp : Sp} (D : Mn K C m qual st) (hb : BindOk st m qual ps) (S : FnScope N ps (defScope st)) (len : ∀ vs H Q E, sp vs H Q E → vs.length = ps.length)
    (hbody : ∀ (f : Addr) (cdv : Value) (A : Around) (outer : List Env) (s : Shared) (H : Hp) (vs : List V) (Q : VK) (E : XK), Room k (A.deeper (envOfC qual (defScope st) s.heap.objs.size f cdv)) → sp vs H Q E →
      ∃ t, PSs (cxOf C8.CX0 P w K mg base N qual (defScope st) f cdv A outer s H E).nox (defBody st) t ∧ t { nx := fun _ H' => Q .non H', rt := Q } (start N vs) H) : C8.Met P w K mg base (k + 1) C m sp [] := by
  obtain ⟨f, fd, F, hm, hc⟩ := D.ex
  refine ⟨f, fd, ps, [], hc, hm, F.ok S len (fun cdv A outer s H vs Q E hr h => ?_), F.bindsN hb, .nil⟩
  obtain ⟨t, h1, h2⟩ := hbody f cdv A outer s H vs Q E hr h
  exact ⟨t, h1.nox, h2⟩
end
end K18

set_option Elab.async false
set_option linter.all false
set_option maxRecDepth 100000
/-! The text by places. -/
namespace K18
open PySem PySem.Spec PyProof.Rows L2
def topS (i : Nat) : Stmt := PySem.Challenge.pw_turnedties_k18_whole_classes_by_going_th.main.body.getD i (.Pass ⟨0, 0, 0, 0⟩)
abbrev s_reduced_number : Stmt := topS 12
abbrev s_forest_of : Stmt := topS 13
abbrev s_links_of : Stmt := topS 14
abbrev s_walk_paths : Stmt := topS 15
abbrev s_components_of : Stmt := topS 16
abbrev s_is_integer : Stmt := topS 21
abbrev s_is_within : Stmt := topS 22
abbrev s_is_edge : Stmt := topS 23
abbrev s_is_modulus : Stmt := topS 24
abbrev s_check_edges : Stmt := topS 25
abbrev s_is_step : Stmt := topS 28
abbrev s_step_ends : Stmt := topS 29
abbrev s_is_walk : Stmt := topS 30
abbrev s_residue : Stmt := topS 32
abbrev s_is_residue : Stmt := topS 33
abbrev s_are_residues : Stmt := topS 34
abbrev s_is_gains : Stmt := topS 35
abbrev s_check_gains : Stmt := topS 36
abbrev s_walk_sum : Stmt := topS 37
abbrev s_cycle_sums : Stmt := topS 39
abbrev s_normal : Stmt := topS 40
abbrev s_power_of : Stmt := topS 41
abbrev s_class_size : Stmt := topS 42
abbrev s_class_count : Stmt := topS 43
abbrev s_potential_count : Stmt := topS 44
abbrev s_law_pool : Stmt := topS 46
abbrev s_law_take : Stmt := topS 47
abbrev s_law_links : Stmt := topS 49
abbrev s_law_low : Stmt := topS 50
abbrev s_law_put : Stmt := topS 53
abbrev s_law_all : Stmt := topS 54
abbrev s_law_unlike : Stmt := topS 55
abbrev s_law_endless : Stmt := topS 56
abbrev s_law_great : Stmt := topS 57
abbrev s_law : Stmt := topS 58
abbrev sW_init : Stmt := inClass (topS 26) 0
abbrev sW_modulus : Stmt := inClass (topS 26) 2
abbrev sW_edge : Stmt := inClass (topS 26) 4
abbrev sW_components : Stmt := inClass (topS 26) 5
abbrev sW_forest : Stmt := inClass (topS 26) 6
abbrev sW_cycles : Stmt := inClass (topS 26) 8
abbrev sW_len : Stmt := inClass (topS 26) 9
end K18

set_option Elab.async false
set_option linter.all false
set_option maxRecDepth 100000
set_option maxHeartbeats 4000000
/-! What stands in the heap: edges, steps, rows, webs; what a store leaves as it was. -/
namespace K18
open PySem PySem.Spec PyProof.Rows L2

/-! ### built-in names that the module leaves alone -/
structure Bt (mg : Str → Option Value) : Prop where
  list : mg "list" = none
  range : mg "range" = none
  enumerate : mg "enumerate" = none
  len : mg "len" = none
  isinstance : mg "isinstance" = none
  int : mg "int" = none
  bool : mg "bool" = none
  tuple : mg "tuple" = none
  sorted : mg "sorted" = none
  all : mg "all" = none
  sum : mg "sum" = none
  max : mg "max" = none
  min : mg "min" = none
  repr : mg "repr" = none
  zip : mg "zip" = none
theorem bl_isinstance : bootBuiltins "isinstance" = some (.builtin "isinstance") := by decide +kernel
theorem bl_int : bootBuiltins "int" = some (.type "int") := by decide +kernel
theorem bl_bool : bootBuiltins "bool" = some (.type "bool") := by decide +kernel
theorem bl_list : bootBuiltins "list" = some (.type "list") := by decide +kernel
theorem bl_tuple : bootBuiltins "tuple" = some (.type "tuple") := by decide +kernel
theorem bl_all : bootBuiltins "all" = some (.builtin "all") := by decide +kernel
theorem bl_sum : bootBuiltins "sum" = some (.builtin "sum") := by decide +kernel
theorem bl_max : bootBuiltins "max" = some (.builtin "max") := by decide +kernel
theorem bl_min : bootBuiltins "min" = some (.builtin "min") := by decide +kernel
theorem bl_repr : bootBuiltins "repr" = some (.builtin "repr") := by decide +kernel
theorem bl_sorted : bootBuiltins "sorted" = some (.builtin "sorted") := by decide +kernel

/-! ### heaps -/
theorem _root_.L2.Same.mut {G H : Hp} {p : Addr} {o : HO} (s : Same G H) (n : G p = none) : Same G (upd H p o) := fun b u e => by
  rw [upd_ne (ne_of_none e n)]
  exact s _ _ e
theorem _root_.L2.Same.fresh {G H : Hp} {p : Addr} {o : HO} (s : Same G H) (n : H p = none) : Same G (upd H p o) := s.mut (s.free n)
theorem _root_.L2.Same.both {G H : Hp} {p : Addr} {o : HO} (s : Same G H) : Same (upd G p o) (upd H p o) := fun b u e => by
  by_cases h : b = p
  · subst h
    rw [upd_same] at e ⊢
    exact e
  · rw [upd_ne h] at e ⊢
    exact s _ _ e
theorem same_new {H : Hp} {p : Addr} {o : HO} (n : H p = none) : Same H (upd H p o) := (Same.refl H).mut n
theorem ne_fresh {H : Hp} {a p : Addr} {o : HO} (h : H a = some o) (n : H p = none) : a ≠ p := ne_of_none h n
/-- H without p -/
def hid (H : Hp) (p : Addr) : Hp := fun b => if b = p then none else H b
theorem hid_at {H : Hp} {p : Addr} : hid H p p = none := if_pos rfl
theorem hid_ne {H : Hp} {p b : Addr} (h : b ≠ p) : hid H p b = H b := if_neg h
theorem hid_same {H : Hp} {p : Addr} : Same (hid H p) H := fun b o e => by
  by_cases h : b = p
  · rw [h, hid_at] at e; cases e
  · rw [hid_ne h] at e; exact e
theorem _root_.L2.Same.hid {H H' : Hp} {p : Addr} (s : Same H H') : Same (K18.hid H p) (K18.hid H' p) := fun b o e => by
  by_cases h : b = p
  · rw [h, hid_at] at e; cases e
  · rw [hid_ne h] at e ⊢; exact s _ _ e
theorem hid_upd {H : Hp} {p : Addr} {o : HO} : hid (upd H p o) p = hid H p := by
  funext b
  by_cases h : b = p
  · rw [h, hid_at, hid_at]
  · rw [hid_ne h, hid_ne h, upd_ne h]
/-- N: nothing of what stood in H -/
def New (H N : Hp) : Prop := ∀ b o, H b = some o → N b = none
theorem New.hid {H H' N : Hp} {p : Addr} {o : HO} (n : New H N) (s : Same N H') (e : H p = some o) : Same N (K18.hid H' p) := fun b u q => by
  have h : b ≠ p := fun z => by rw [z, n p o e] at q; cases q
  rw [hid_ne h]; exact s _ _ q
theorem New.mono {H H' N : Hp} (n : New H' N) (s : Same H H') : New H N := fun b o e => n b o (s b o e)
def none_ : Hp := fun _ => none
theorem new_none {H : Hp} : New H none_ := fun _ _ _ => rfl
theorem none_same {H : Hp} : Same none_ H := fun _ _ e => by cases e
theorem New.upd {H N : Hp} {p : Addr} {o : HO} (n : New H N) (h : H p = none) : New H (L2.upd N p o) := fun b u e => by
  rw [upd_ne (ne_of_none e h)]; exact n b u e
/-- what N holds, else what G holds -/
def join (G N : Hp) : Hp := fun b => match N b with | some o => some o | none => G b
theorem same_join_r {G N : Hp} : Same N (join G N) := fun b o e => by unfold join; rw [e]
theorem same_join_l {G N H : Hp} (n : New H N) (s : Same G H) : Same G (join G N) := fun b o e => by
  unfold join; rw [n b o (s b o e)]; exact e
theorem join_same {G N H : Hp} (a : Same G H) (b : Same N H) : Same (join G N) H := fun c o e => by
  unfold join at e
  cases q : N c with
  | none => rw [q] at e; exact a c o e
  | some u => rw [q] at e; cases e; exact b c _ q

/-! ### numbers, pairs, lists of them -/
abbrev vn (x : Nat) : V := .int (x : Int)
def LsAt {α : Type} (R : Hp → Addr → α → Prop) (H : Hp) (p : Addr) (xs : List α) : Prop := ∃ as : List Addr, H p = some (.lst (as.map V.ref)) ∧ Paired (R H) as xs
def EdgeAt (H : Hp) (a : Addr) (e : Edge) : Prop := H a = some (.tup [vn e.1, vn e.2])
def StepAt (H : Hp) (a : Addr) (s : Nat × Int) : Prop := H a = some (.tup [vn s.1, .int s.2])
def LinkAt (H : Hp) (a : Addr) (l : Nat × Int × Nat) : Prop := H a = some (.tup [vn l.1, .int l.2.1, vn l.2.2])
def RowAt (H : Hp) (p : Addr) (r : List Nat) : Prop := H p = some (.lst (r.map vn))
def Mono {α : Type} (R : Hp → Addr → α → Prop) : Prop := ∀ (H H' : Hp) (a : Addr) (x : α), Same H H' → R H a x → R H' a x
theorem mono_edge : Mono EdgeAt := fun _ _ _ _ s h => s _ _ h
theorem mono_step : Mono StepAt := fun _ _ _ _ s h => s _ _ h
theorem mono_link : Mono LinkAt := fun _ _ _ _ s h => s _ _ h
theorem mono_row : Mono RowAt := fun _ _ _ _ s h => s _ _ h
theorem mono_ls {α : Type} {R : Hp → Addr → α → Prop} (m : Mono R) : Mono (LsAt R) := fun H H' _ _ s ⟨as, h, p⟩ => ⟨as, s _ _ h, Paired.mapP p fun a b r => m H H' a b s r⟩
theorem Paired.len {α β : Type} {F : α → β → Prop} : ∀ {l : List α} {k : List β}, Paired F l k → l.length = k.length
  | _, _, .nil => rfl
  | _, _, .cons _ t => congrArg Nat.succ (Paired.len t)
theorem Paired.at {α β : Type} {F : α → β → Prop} : ∀ {l : List α} {k : List β} {i : Nat} {y : β}, Paired F l k → k[i]? = some y → ∃ x, l[i]? = some x ∧ F x y
  | _, _, _, _, .nil, e => by simp at e
  | _, _, 0, _, .cons r _, e => by simp at e; subst e; exact ⟨_, rfl, r⟩
  | _, _, i + 1, y, .cons _ t, e => by
    obtain ⟨u, h1, h2⟩ := Paired.at (i := i) (y := y) t (by simpa using e)
    exact ⟨u, by simpa using h1, h2⟩
theorem Paired.at' {α β : Type} {F : α → β → Prop} : ∀ {l : List α} {k : List β} {i : Nat} {x : α}, Paired F l k → l[i]? = some x → ∃ y, k[i]? = some y ∧ F x y
  | _, _, _, _, .nil, e => by simp at e
  | _, _, 0, _, .cons r _, e => by simp at e; subst e; exact ⟨_, rfl, r⟩
  | _, _, i + 1, x, .cons _ t, e => by
    obtain ⟨u, h1, h2⟩ := Paired.at' (i := i) (x := x) t (by simpa using e)
    exact ⟨u, by simpa using h1, h2⟩
theorem Paired.snoc {α β : Type} {F : α → β → Prop} : ∀ {l : List α} {k : List β} {x : α} {y : β}, Paired F l k → F x y → Paired F (l ++ [x]) (k ++ [y])
  | _, _, _, _, .nil, r => .cons r .nil
  | _, _, _, _, .cons q t, r => .cons q (Paired.snoc t r)
theorem Paired.app {α β : Type} {F : α → β → Prop} : ∀ {l l' : List α} {k k' : List β}, Paired F l k → Paired F l' k' → Paired F (l ++ l') (k ++ k')
  | _, _, _, _, .nil, r => r
  | _, _, _, _, .cons q t, r => .cons q (Paired.app t r)
section
variable {α : Type} {R : Hp → Addr → α → Prop} {H H' : Hp} {p : Addr} {xs : List α}
theorem LsAt.same (m : Mono R) (s : Same H H') (h : LsAt R H p xs) : LsAt R H' p xs := mono_ls m H H' p xs s h
theorem LsAt.obj (h : LsAt R H p xs) : ∃ vs, H p = some (.lst vs) ∧ vs.length = xs.length := by
  obtain ⟨as, e, q⟩ := h
  exact ⟨_, e, by rw [List.length_map]; exact Paired.len q⟩
theorem LsAt.at (h : LsAt R H p xs) {as : List Addr} (e : H p = some (.lst (as.map V.ref))) : Paired (R H) as xs := by
  obtain ⟨bs, e2, q⟩ := h
  rw [e] at e2
  have e3 : as.map V.ref = bs.map V.ref := HO.lst.inj (Option.some.inj e2)
  have inj : ∀ (l k : List Addr), l.map V.ref = k.map V.ref → l = k := by
    intro l
    induction l with
    | nil => intro k h; cases k with | nil => rfl | cons _ _ => cases h
    | cons a l ih =>
      intro k h
      cases k with
      | nil => cases h
      | cons b k =>
        rw [List.map_cons, List.map_cons] at h
        injection h with h1 h2
        injection h1 with h1
        rw [h1, ih k h2]
  rw [inj _ _ e3]
  exact q
end
theorem RowAt.item {H : Hp} {p : Addr} {r : List Nat} {i : Nat} {x : Nat} (e : r[i]? = some x) : (r.map vn)[i]? = some (vn x) := by rw [List.getElem?_map, e]; rfl
theorem vns_item {r : List Nat} {i : Nat} {y : V} (e : (r.map vn)[i]? = some y) : ∃ x, r[i]? = some x ∧ y = vn x := by
  rw [List.getElem?_map] at e
  cases q : r[i]? with
  | none => rw [q] at e; cases e
  | some x => rw [q] at e; exact ⟨x, rfl, (Option.some.inj e).symm⟩
theorem refs_item {as : List Addr} {i : Nat} {y : V} (e : (as.map V.ref)[i]? = some y) : ∃ x, as[i]? = some x ∧ y = .ref x := by
  rw [List.getElem?_map] at e
  cases q : as[i]? with
  | none => rw [q] at e; cases e
  | some x => rw [q] at e; exact ⟨x, rfl, (Option.some.inj e).symm⟩
theorem vn_inj {a b : Nat} : vn a = vn b ↔ a = b := ⟨fun h => Int.ofNat.inj (V.int.inj h), fun h => by rw [h]⟩
theorem dec_vn (a b : Nat) : decide (vn a = vn b) = decide (a = b) := by
  by_cases h : a = b
  · rw [decide_eq_true h, decide_eq_true (vn_inj.mpr h)]
  · rw [decide_eq_false h, decide_eq_false fun q => h (vn_inj.mp q)]
theorem line_big {n : Nat} (h : n ≤ 100000) : n ≤ sizeLine := Nat.le_trans h (by rw [sizeLine_eq]; decide)
theorem line_lt {n : Nat} (h : n ≤ 100000) : n < sizeLine := Nat.lt_of_le_of_lt h (by rw [sizeLine_eq]; decide)

/-! ### links, steps, walks -/
def edge (es : List Edge) (i : Nat) : Edge := es.getD i (0, 0)
theorem edge_of {es : List Edge} {i : Nat} {e : Edge} (h : es[i]? = some e) : edge es i = e := by unfold edge; rw [List.getD_eq_getElem?_getD, h]; rfl
/-- what the i-th edge lays at v -/
def lk1 (es : List Edge) (i v : Nat) : List (Nat × Int × Nat) := (if (edge es i).1 = v then [(i, 1, (edge es i).2)] else []) ++ (if (edge es i).2 = v then [(i, -1, (edge es i).1)] else [])
def lk (es : List Edge) (F : List Nat) (v : Nat) : List (Nat × Int × Nat) := F.flatMap fun i => lk1 es i v
abbrev rowsOf (n : Nat) (es : List Edge) : List (List (Nat × Int × Nat)) := (List.range n).map (lk es (frst es))
def StepOk (es : List Edge) (i : Nat) (w : Int) (u x : Nat) : Prop := (w = 1 ∧ es[i]? = some (u, x)) ∨ (w = -1 ∧ es[i]? = some (x, u))
def PathOk (es : List Edge) : Nat → Nat → List (Nat × Int) → Prop
  | u, v, [] => u = v
  | u, v, s :: r => s.1 ∈ frst es ∧ ∃ x, StepOk es s.1 s.2 u x ∧ PathOk es x v r
theorem PathOk.snoc {es : List Edge} {i : Nat} {w : Int} {v x : Nat} : ∀ {r : List (Nat × Int)} {u : Nat}, PathOk es u v r → i ∈ frst es → StepOk es i w v x → PathOk es u x (r ++ [(i, w)])
  | [], u, h, hi, hs => by
    have e : u = v := h
    subst e
    exact ⟨hi, x, hs, rfl⟩
  | s :: r, u, ⟨h1, y, h2, h3⟩, hi, hs => ⟨h1, y, h2, PathOk.snoc h3 hi hs⟩
theorem lk_mem {es : List Edge} {v : Nat} {l : Nat × Int × Nat} (h : l ∈ lk es (frst es) v) : l.1 ∈ frst es ∧ StepOk es l.1 l.2.1 v l.2.2 := by
  unfold lk at h
  obtain ⟨i, hi, hl⟩ := List.mem_flatMap.mp h
  have hlt := frst_lt hi
  have he : es[i]? = some (edge es i) := by rw [edge_of (List.getElem?_eq_getElem hlt)]; exact List.getElem?_eq_getElem hlt
  unfold lk1 at hl
  rcases List.mem_append.mp hl with hl | hl
  · by_cases q : (edge es i).1 = v
    · rw [if_pos q, List.mem_singleton] at hl
      subst hl
      exact ⟨hi, .inl ⟨rfl, by rw [he, ← q]⟩⟩
    · rw [if_neg q] at hl; cases hl
  · by_cases q : (edge es i).2 = v
    · rw [if_pos q, List.mem_singleton] at hl
      subst hl
      exact ⟨hi, .inr ⟨rfl, by rw [he, ← q]⟩⟩
    · rw [if_neg q] at hl; cases hl
theorem lk_has {es : List Edge} {i : Nat} {e : Edge} (hi : i ∈ frst es) (he : es[i]? = some e) : (i, (1 : Int), e.2) ∈ lk es (frst es) e.1 ∧ (i, (-1 : Int), e.1) ∈ lk es (frst es) e.2 := by
  have q := edge_of he
  refine ⟨List.mem_flatMap.mpr ⟨i, hi, ?_⟩, List.mem_flatMap.mpr ⟨i, hi, ?_⟩⟩
  · unfold lk1; rw [q, if_pos rfl]; exact List.mem_append_left _ (List.mem_singleton.mpr rfl)
  · unfold lk1; rw [q, if_pos rfl]; exact List.mem_append_right _ (List.mem_singleton.mpr rfl)
theorem StepOk.lt {es : List Edge} {n i : Nat} {w : Int} {u x : Nat} (he : Ends n es) (h : StepOk es i w u x) : i < es.length ∧ u < n ∧ x < n := by
  rcases h with ⟨_, h⟩ | ⟨_, h⟩
  · exact ⟨(List.getElem?_eq_some_iff.mp h).1, he _ (List.mem_of_getElem? h)⟩
  · exact ⟨(List.getElem?_eq_some_iff.mp h).1, (he _ (List.mem_of_getElem? h)).2, (he _ (List.mem_of_getElem? h)).1⟩
theorem StepOk.way {es : List Edge} {i : Nat} {w : Int} {u x : Nat} (h : StepOk es i w u x) : w = 1 ∨ w = -1 := by
  rcases h with ⟨h, _⟩ | ⟨h, _⟩
  · exact .inl h
  · exact .inr h
theorem StepOk.grp {es : List Edge} {i : Nat} {w : Int} {u x : Nat} (h : StepOk es i w u x) : grp es u = grp es x := by
  rcases h with ⟨_, h⟩ | ⟨_, h⟩
  · exact grp_edge es _ (List.mem_of_getElem? h)
  · exact (grp_edge es _ (List.mem_of_getElem? h)).symm

/-! ### a web -/
def wf (n : Nat) (eA : Addr) (m : Nat) (fA lA : Addr) : List (Str × V) := [("own_size", vn n), ("own_edges", .ref eA), ("own_modulus", vn m), ("own_forest", .ref fA), ("links", .ref lA)]
structure WebAt (C : Addr) (H : Hp) (w : Addr) (n m : Nat) (es : List Edge) : Prop where
  ends : Ends n es
  few : n ≤ 30
  fewE : es.length ≤ 60
  obj : ∃ dx eA fA lA, H w = some (.ins C dx (wf n eA m fA lA)) ∧ LsAt EdgeAt H eA es ∧ RowAt H fA (frst es) ∧ LsAt (LsAt LinkAt) H lA (rowsOf n es)
theorem WebAt.same {C : Addr} {H H' : Hp} {w : Addr} {n m : Nat} {es : List Edge} (h : WebAt C H w n m es) (s : Same H H') : WebAt C H' w n m es := by
  obtain ⟨h1, h2, h3, dx, eA, fA, lA, a, b, c, d⟩ := h
  exact ⟨h1, h2, h3, dx, eA, fA, lA, s _ _ a, b.same mono_edge s, s _ _ c, d.same (mono_ls mono_link) s⟩
def pw (m e : Nat) : V := if m = 0 then (if e = 0 then .int 1 else .non) else .int ((m ^ e : Nat) : Int)
end K18

set_option Elab.async false
set_option linter.all false
set_option maxRecDepth 100000
set_option maxHeartbeats 4000000
/-! The small defs: numbers, tests. -/
namespace K18
open PySem PySem.Spec PyProof.Rows L2
section
variable {P : Program} {w : World} {K : PySem.W.Frag} {mg : Str → Option Value} {base : Heap}

/-! reduced_number -/
def sp_reduced : Sp := fun vs H Q _ => ∃ a m : Int, vs = [.int a, .int m] ∧ 0 < m ∧ Q (.int (a % m)) H
theorem c_reduced (D : Dn K mg "reduced_number" s_reduced_number) : C8.Cal P w K mg base 1 "reduced_number" sp_reduced [] := by
  refine cal_mk D (ps := ["number", "modulus"]) (fun _ _ _ _ _ _ us hl => match us, hl with | [_, _], _ => rfl) (N := ["number", "modulus"]) ⟨rfl, rfl, rfl, by decide +kernel, rfl, by decide +kernel, by decide +kernel⟩ (fun vs H Q E h => ?_) (fun f cdv A outer s H vs Q E hr h => ?_)
  · obtain ⟨a, m, rfl, _⟩ := h; rfl
  · obtain ⟨a, m, rfl, hm, q⟩ := h
    refine ⟨_, pss_one (ps_ret (pe_ifExp (pt_cmpR op_gt (pv 1) pe_int (nomark _)) (pe_op op_mod (pv 0) (pv 1)) (pv 0))), ?_⟩
    refine ⟨_, rfl, _, _, rfl, rfl, _, rfl, ?_⟩
    rw [decide_eq_true hm]
    refine iteT ?_
    exact ⟨_, rfl, _, rfl, _, _, rfl, rfl, hm, q⟩

/-! is_integer -/
def sp_isint : Sp := fun vs H Q _ => ∃ i : Int, vs = [.int i] ∧ Q (.bl true) H
theorem kit_intint : kitB "int" "int" = some true := by decide +kernel
theorem kit_intbool : kitB "int" "bool" = some false := by decide +kernel
theorem c_isint (D : Dn K mg "is_integer" s_is_integer) (B : Bt mg) : C8.Cal P w K mg base 1 "is_integer" sp_isint [] := by
  refine cal_mk D (ps := ["thing"]) (fun _ _ _ _ _ _ us hl => match us, hl with | [_], _ => rfl) (N := ["thing"]) ⟨rfl, rfl, rfl, by decide +kernel, rfl, by decide +kernel, by decide +kernel⟩ (fun vs H Q E h => ?_) (fun f cdv A outer s H vs Q E hr h => ?_)
  · obtain ⟨i, rfl, _⟩ := h; rfl
  · obtain ⟨i, rfl, q⟩ := h
    refine ⟨_, pss_one (ps_ret (pe_and (pe_callB call_isi (by rfl) B.isinstance bl_isinstance (pa_cons (pv 0) (pa_cons (pe_bltn (v := .ty "int") (by rfl) B.int bl_int rfl) pa_nil)))
      (pe_one (pe_not (pe_callB call_isi (by rfl) B.isinstance bl_isinstance (pa_cons (pv 0) (pa_cons (pe_bltn (v := .ty "bool") (by rfl) B.bool bl_bool rfl) pa_nil))))))), ?_⟩
    refine ⟨_, rfl, _, _, _, _, _, rfl, .ty _, .base (.int _), kit_ty kit_intint, true, rfl, iteT ?_⟩
    exact ⟨_, rfl, _, _, _, _, _, rfl, .ty _, .base (.int _), kit_ty kit_intbool, false, rfl, q⟩

/-! is_within -/
def sp_within : Sp := fun vs H Q _ => ∃ i a b : Int, vs = [.int i, .int a, .int b] ∧ a ≤ i ∧ i ≤ b ∧ Q (.bl true) H
theorem c_within (D : Dn K mg "is_within" s_is_within) (c1 : C8.Cal P w K mg base 1 "is_integer" sp_isint []) : C8.Cal P w K mg base 2 "is_within" sp_within [] := by
  refine cal_mk D (ps := ["thing", "least", "most"]) (fun _ _ _ _ _ _ us hl => match us, hl with | [_, _, _], _ => rfl) (N := ["thing", "least", "most"]) ⟨rfl, rfl, rfl, by decide +kernel, rfl, by decide +kernel, by decide +kernel⟩ (fun vs H Q E h => ?_) (fun f cdv A outer s H vs Q E hr h => ?_)
  · obtain ⟨i, a, b, rfl, _⟩ := h; rfl
  · obtain ⟨i, a, b, rfl, h1, h2, q⟩ := h
    refine ⟨_, pss_one (ps_ret (pe_and (C8.pe_c c1 hr (by decide) (by rfl) (pa_cons (pv 0) pa_nil)) (pe_one (pe_chain op_le op_le (pv 1) (pv 0) (pv 2))))), ?_⟩
    refine ⟨_, rfl, i, rfl, true, rfl, iteT ?_⟩
    refine ⟨_, rfl, _, rfl, _, _, rfl, rfl, _, rfl, ?_⟩
    rw [decide_eq_true h1]
    refine iteT ⟨_, rfl, _, _, rfl, rfl, ?_⟩
    show Q (.bl (decide (i ≤ b))) H
    rw [decide_eq_true h2]
    exact q

/-! is_edge -/
def sp_isedge : Sp := fun vs H Q _ => ∃ (a : Addr) (n : Nat) (e : Edge), vs = [.ref a, vn n] ∧ EdgeAt H a e ∧ e.1 < n ∧ e.2 < n ∧ Q (.bl true) H
theorem kit_tuptup : kitB "tuple" "tuple" = some true := by decide +kernel
theorem c_isedge (D : Dn K mg "is_edge" s_is_edge) (B : Bt mg) (c1 : C8.Cal P w K mg base 2 "is_within" sp_within []) : C8.Cal P w K mg base 3 "is_edge" sp_isedge [] := by
  refine cal_mk D (ps := ["thing", "size"]) (fun _ _ _ _ _ _ us hl => match us, hl with | [_, _], _ => rfl) (N := ["thing", "size"]) ⟨rfl, rfl, rfl, by decide +kernel, rfl, by decide +kernel, by decide +kernel⟩ (fun vs H Q E h => ?_) (fun f cdv A outer s H vs Q E hr h => ?_)
  · obtain ⟨a, n, e, rfl, _⟩ := h; rfl
  · obtain ⟨a, n, e, rfl, he, h1, h2, q⟩ := h
    have hT : SqT K H a [vn e.1, vn e.2] := .inl (.inl he)
    refine ⟨_, pss_cons (ps_if (PW.pt (pw_or (pt_not (pt_val (pe_callB call_isi (by rfl) B.isinstance bl_isinstance (pa_cons (pv 0) (pa_cons (pe_bltn (v := .ty "tuple") (by rfl) B.tuple bl_tuple rfl) pa_nil)))))
        (pw_or1 (pt_cmpR op_ne (pe_callB call_len_seq (by rfl) B.len PySem.boot_len (pa_cons (pv 0) pa_nil)) pe_int (nomark _)))))
        (pss_one (ps_ret pe_bl)) pss_nil)
      (pss_one (ps_ret (pe_and (C8.pe_c c1 hr (by decide) (by rfl) (pa_cons (pe_ix ix_tup (pv 0) pe_int (fun _ _ => rfl)) (pa_cons pe_int (pa_cons (pe_op op_sub (pv 1) pe_int) pa_nil))))
        (pe_one (C8.pe_c c1 hr (by decide) (by rfl) (pa_cons (pe_ix ix_tup (pv 0) pe_int (fun _ _ => rfl)) (pa_cons pe_int (pa_cons (pe_op op_sub (pv 1) pe_int) pa_nil)))))))), ?_⟩
    refine ⟨_, rfl, _, _, _, _, _, rfl, .ty _, .base (.tup he), kit_ty kit_tuptup, true, rfl, iteF ?_⟩
    refine ⟨_, rfl, a, _, rfl, .inr hT, rfl, _, rfl, iteNS rfl ?_⟩
    refine ⟨_, rfl, a, _, 0, _, rfl, rfl, hT, atI_nat (j := 0) rfl, _, rfl, _, _, rfl, rfl, _, _, _, rfl, by omega, by omega, true, rfl, iteT ?_⟩
    exact ⟨_, rfl, a, _, 1, _, rfl, rfl, hT, atI_nat (j := 1) rfl, _, rfl, _, _, rfl, rfl, _, _, _, rfl, by omega, by omega, q⟩

/-! is_modulus -/
structure Consts (mg : Str → Option Value) : Prop where
  nodes : ∃ t, mg "MOST_NODES" = some (.int 30 t)
  edges : ∃ t, mg "MOST_EDGES" = some (.int 60 t)
  modulus : ∃ t, mg "MOST_MODULUS" = some (.int 60 t)
def sp_ismod : Sp := fun vs H Q _ => ∃ m : Nat, vs = [vn m] ∧ (m = 0 ∨ (2 ≤ m ∧ m ≤ 60)) ∧ Q (.bl true) H
theorem c_ismod (D : Dn K mg "is_modulus" s_is_modulus) (Z : Consts mg) (c1 : C8.Cal P w K mg base 2 "is_within" sp_within []) : C8.Cal P w K mg base 3 "is_modulus" sp_ismod [] := by
  obtain ⟨t, hz⟩ := Z.modulus
  refine cal_mk D (ps := ["thing"]) (fun _ _ _ _ _ _ us hl => match us, hl with | [_], _ => rfl) (N := ["thing"]) ⟨rfl, rfl, rfl, by decide +kernel, rfl, by decide +kernel, by decide +kernel⟩ (fun vs H Q E h => ?_) (fun f cdv A outer s H vs Q E hr h => ?_)
  · obtain ⟨m, rfl, _⟩ := h; rfl
  · obtain ⟨m, rfl, hm, q⟩ := h
    refine ⟨_, pss_one (ps_ret (pe_and (C8.pe_c c1 hr (by decide) (by rfl) (pa_cons (pv 0) (pa_cons pe_int (pa_cons (pe_glob (v := .int 60) (by rfl) hz ⟨_, rfl⟩) pa_nil)))) (pe_one (pe_cmpR op_ne (pv 0) pe_int (nomark _))))), ?_⟩
    refine ⟨_, rfl, _, _, _, rfl, by omega, by omega, true, rfl, iteT ?_⟩
    refine ⟨_, rfl, rfl, ?_⟩
    have e : (!decide (vn m = V.int 1)) = true := by
      rw [decide_eq_false fun z => ?_]
      · rfl
      · have := V.int.inj z
        omega
    show Q (.bl (!decide (vn m = V.int 1))) H
    rw [e]
    exact q
end
end K18

set_option Elab.async false
set_option linter.all false
set_option maxRecDepth 100000
set_option maxHeartbeats 4000000
/-! check_edges, a web's simple methods, residues and gains, powers. -/
namespace K18
open PySem PySem.Spec PyProof.Rows L2
structure Wt (K : PySem.W.Frag) (mg : Str → Option Value) (C : Addr) : Prop where
  cl : Cls K C
  nS : NoAttr K C "own_size"
  nE : NoAttr K C "own_edges"
  nM : NoAttr K C "own_modulus"
  nF : NoAttr K C "own_forest"
  nL : NoAttr K C "links"
  mgC : mg "Web" = some (.ref C)
section
variable {n m : Nat} {eA fA lA : Addr}
theorem wf_edges : (wf n eA m fA lA).lookup ("own_edges" : Str) = some (.ref eA) := by rfl
theorem wf_mod : (wf n eA m fA lA).lookup ("own_modulus" : Str) = some (vn m) := by rfl
theorem wf_forest : (wf n eA m fA lA).lookup ("own_forest" : Str) = some (.ref fA) := by rfl
theorem wf_links : (wf n eA m fA lA).lookup ("links" : Str) = some (.ref lA) := by rfl
theorem wf_no1 : (wf n eA m fA lA).lookup ("modulus" : Str) = none := by rfl
theorem wf_no2 : (wf n eA m fA lA).lookup ("edge" : Str) = none := by rfl
theorem wf_no3 : (wf n eA m fA lA).lookup ("components" : Str) = none := by rfl
theorem wf_no4 : (wf n eA m fA lA).lookup ("forest" : Str) = none := by rfl
theorem wf_no5 : (wf n eA m fA lA).lookup ("cycles" : Str) = none := by rfl
end
section
variable {P : Program} {w : World} {K : PySem.W.Frag} {mg : Str → Option Value} {base : Heap}

/-! check_edges -/
def sp_checkedges : Sp := fun vs H Q _ => ∃ (n : Nat) (ea : Addr) (es : List Edge), vs = [vn n, .ref ea] ∧ LsAt EdgeAt H ea es ∧ Ends n es ∧ es.length ≤ 60 ∧ ∀ H', Same H H' → Q .non H'
theorem kit_listlist : kitB "list" "list" = some true := by decide +kernel
theorem c_checkedges (D : Dn K mg "check_edges" s_check_edges) (B : Bt mg) (Z : Consts mg) (c1 : C8.Cal P w K mg base 3 "is_edge" sp_isedge []) : C8.Cal P w K mg base 4 "check_edges" sp_checkedges [] := by
  obtain ⟨t, hz⟩ := Z.edges
  have S : FnScope ["size", "edges", "edge"] ["size", "edges"] (defScope s_check_edges) := ⟨rfl, rfl, rfl, by decide +kernel, rfl, by decide +kernel, by decide +kernel⟩
  refine cal_mk D (ps := ["size", "edges"]) (fun _ _ _ _ _ _ us hl => match us, hl with | [_, _], _ => rfl) S (fun vs H Q E h => ?_) (fun f cdv A outer s H vs Q E hr h => ?_)
  · obtain ⟨n, ea, es, rfl, _⟩ := h; rfl
  · obtain ⟨n, ea, es, rfl, hE, he, hl, q⟩ := h
    refine ⟨_, pss_cons (ps_if (pt_not (pt_val (pe_callB call_isiT (by rfl) B.isinstance bl_isinstance (pa_cons (pv 1) (pa_cons (pe_tup (pa_cons (pe_bltn (v := .ty "list") (by rfl) B.list bl_list rfl) (pa_cons (pe_bltn (v := .ty "tuple") (by rfl) B.tuple bl_tuple rfl) pa_nil))) pa_nil))))) pss_never pss_nil)
      (pss_cons (ps_for PassesOwn.never rfl (pi_list (pv 1)) (pg_name (i := 2) S.nd rfl (Or.inl rfl))
        (pss_one (ps_if (pt_not (pt_val (C8.pe_c c1 hr (by decide) (by rfl) (pa_cons (pv 2) (pa_cons (pv 0) pa_nil))))) pss_never pss_nil)))
      (pss_one (ps_if (pt_cmpR op_gt (pe_callB call_len_seq (by rfl) B.len PySem.boot_len (pa_cons (pv 1) pa_nil)) (pe_glob (v := .int 60) (by rfl) hz ⟨_, rfl⟩) (nomark _)) pss_never pss_nil))), ?_⟩
    obtain ⟨as, ho, hp⟩ := id hE
    refine ⟨_, rfl, by show 2 ≤ sizeLine; decide, fun p np => ?_⟩
    have s1 : Same H (upd H p (.tup [.ty "list", .ty "tuple"])) := same_new np
    have ho1 := s1 _ _ ho
    refine ⟨_, p, _, _, _, _, rfl, upd_same, .cons (.ty _) (.cons (.ty _) .nil), .base (.lst ho1), kitAny_cons (kit_ty kit_listlist) (fun z => nomatch z) (fun _ => rfl), true, rfl, iteF ?_⟩
    refine ⟨_, rfl, ea, rfl, ⟨_, SqL.of ho1⟩, for_list (K := K) (a := ea) (xs := as.map V.ref) (fun i σ H' => ∃ v, σ = [some (vn n), some (.ref ea), v] ∧ H' = upd H p (.tup [.ty "list", .ty "tuple"])) ⟨_, rfl, rfl⟩ (fun i σ H' _ ⟨_, _, e⟩ => by rw [e]; exact SqL.of ho1) ?_ ?_⟩
    · rintro i y σ H' hi ⟨v, rfl, rfl⟩
      obtain ⟨x, hx, rfl⟩ := refs_item hi
      obtain ⟨e, hie, hxe⟩ := Paired.at' hp hx
      have q2 := he e (List.mem_of_getElem? hie)
      exact ⟨_, rfl, _, rfl, x, n, e, rfl, s1 _ _ hxe, q2.1, q2.2, true, rfl, iteF ⟨_, rfl, rfl⟩⟩
    · rintro σ H' ⟨v, rfl, rfl⟩
      refine ⟨_, rfl, ea, _, rfl, .inl (SqL.of ho1), _, _, rfl, rfl, _, rfl, ?_⟩
      have hlen : (as.map V.ref).length = es.length := by rw [List.length_map]; exact Paired.len hp
      rw [hlen, decide_eq_false (by omega)]
      exact iteF (q _ s1)

/-! a web's methods -/
variable {C : Addr}
def sp_wmod (C : Addr) : Sp := fun vs H Q _ => ∃ (o : Addr) (n m : Nat) (es : List Edge), vs = [.ref o] ∧ WebAt C H o n m es ∧ Q (vn m) H
theorem m_mod (D : Mn K C "modulus" "Web.modulus" sW_modulus) (T : Wt K mg C) : C8.Met P w K mg base 1 C "modulus" (sp_wmod C) [] := by
  refine met_mk D (ps := ["self"]) (fun _ _ _ _ _ _ us hl => match us, hl with | [_], _ => rfl) (N := ["self"]) ⟨rfl, rfl, rfl, by decide +kernel, rfl, by decide +kernel, by decide +kernel⟩ (fun vs H Q E h => ?_) (fun f cdv A outer s H vs Q E hr h => ?_)
  · obtain ⟨o, n, m, es, rfl, _⟩ := h; rfl
  · obtain ⟨o, n, m, es, rfl, ⟨_, _, _, dx, eA, fA, lA, ho, _⟩, q⟩ := h
    refine ⟨_, pss_one (ps_ret (pe_fld (pv 0) rfl)), ?_⟩
    exact ⟨_, rfl, o, C, dx, _, _, rfl, ho, T.cl, T.nM, wf_mod, q⟩
def sp_wforest (C : Addr) : Sp := fun vs H Q _ => ∃ (o : Addr) (n m : Nat) (es : List Edge), vs = [.ref o] ∧ WebAt C H o n m es ∧ ∀ p, H p = none → Q (.ref p) (upd H p (.lst ((frst es).map vn)))
theorem m_forest (D : Mn K C "forest" "Web.forest" sW_forest) (B : Bt mg) (T : Wt K mg C) : C8.Met P w K mg base 1 C "forest" (sp_wforest C) [] := by
  refine met_mk D (ps := ["self"]) (fun _ _ _ _ _ _ us hl => match us, hl with | [_], _ => rfl) (N := ["self"]) ⟨rfl, rfl, rfl, by decide +kernel, rfl, by decide +kernel, by decide +kernel⟩ (fun vs H Q E h => ?_) (fun f cdv A outer s H vs Q E hr h => ?_)
  · obtain ⟨o, n, m, es, rfl, _⟩ := h; rfl
  · obtain ⟨o, n, m, es, rfl, ⟨_, _, _, dx, eA, fA, lA, ho, _, hF, _⟩, q⟩ := h
    refine ⟨_, pss_one (ps_ret (pe_callTy call_list_of (by rfl) B.list bl_list (pa_cons (pe_fld (pv 0) rfl) pa_nil))), ?_⟩
    exact ⟨_, rfl, o, C, dx, _, _, rfl, ho, T.cl, T.nF, wf_forest, fA, _, rfl, .inl (SqL.of hF), q⟩
def sp_wlen (C : Addr) : Sp := fun vs H Q _ => ∃ (o : Addr) (n m : Nat) (es : List Edge), vs = [.ref o] ∧ WebAt C H o n m es ∧ Q (vn es.length) H
theorem m_len (D : Mn K C "__len__" "Web.__len__" sW_len) (B : Bt mg) (T : Wt K mg C) : C8.Met P w K mg base 1 C "__len__" (sp_wlen C) [] := by
  refine met_mk D (ps := ["self"]) (fun _ _ _ _ _ _ us hl => match us, hl with | [_], _ => rfl) (N := ["self"]) ⟨rfl, rfl, rfl, by decide +kernel, rfl, by decide +kernel, by decide +kernel⟩ (fun vs H Q E h => ?_) (fun f cdv A outer s H vs Q E hr h => ?_)
  · obtain ⟨o, n, m, es, rfl, _⟩ := h; rfl
  · obtain ⟨o, n, m, es, rfl, ⟨_, _, _, dx, eA, fA, lA, ho, ⟨as, hE, hp⟩, _⟩, q⟩ := h
    refine ⟨_, pss_one (ps_ret (pe_callB call_len_seq (by rfl) B.len PySem.boot_len (pa_cons (pe_fld (pv 0) rfl) pa_nil))), ?_⟩
    refine ⟨_, rfl, o, C, dx, _, _, rfl, ho, T.cl, T.nE, wf_edges, eA, _, rfl, .inl (SqL.of hE), ?_⟩
    rw [List.length_map, Paired.len hp]
    exact q
def sp_wedge (C : Addr) : Sp := fun vs H Q _ => ∃ (o : Addr) (n m : Nat) (es : List Edge) (i : Nat) (e : Edge), vs = [.ref o, vn i] ∧ WebAt C H o n m es ∧ es[i]? = some e ∧ ∀ a, EdgeAt H a e → Q (.ref a) H
theorem m_edge (D : Mn K C "edge" "Web.edge" sW_edge) (B : Bt mg) (T : Wt K mg C) (c1 : C8.Cal P w K mg base 2 "is_within" sp_within []) : C8.Met P w K mg base 3 C "edge" (sp_wedge C) [] := by
  refine met_mk D (ps := ["self", "number"]) (fun _ _ _ _ _ _ us hl => match us, hl with | [_, _], _ => rfl) (N := ["self", "number"]) ⟨rfl, rfl, rfl, by decide +kernel, rfl, by decide +kernel, by decide +kernel⟩ (fun vs H Q E h => ?_) (fun f cdv A outer s H vs Q E hr h => ?_)
  · obtain ⟨o, n, m, es, i, e, rfl, _⟩ := h; rfl
  · obtain ⟨o, n, m, es, i, e, rfl, ⟨_, _, _, dx, eA, fA, lA, ho, ⟨as, hE, hp⟩, _⟩, hi, q⟩ := h
    have hlt := (List.getElem?_eq_some_iff.mp hi).1
    obtain ⟨x, hx, hxe⟩ := Paired.at hp hi
    refine ⟨_, pss_cons (ps_if (pt_not (pt_val (C8.pe_c c1 hr (by decide) (by rfl) (pa_cons (pv 1) (pa_cons pe_int (pa_cons (pe_op op_sub (pe_callB call_len_seq (by rfl) B.len PySem.boot_len (pa_cons (pe_fld (pv 0) rfl) pa_nil)) pe_int) pa_nil)))))) pss_never pss_nil)
      (pss_one (ps_ret (pe_ix ix_list (pe_fld (pv 0) rfl) (pv 1) (fun _ _ => rfl)))), ?_⟩
    refine ⟨_, rfl, _, rfl, o, C, dx, _, _, rfl, ho, T.cl, T.nE, wf_edges, eA, _, rfl, .inl (SqL.of hE), _, _, rfl, rfl, _, _, _, rfl, by omega, ?_, true, rfl, iteF ?_⟩
    · rw [List.length_map, Paired.len hp]; omega
    refine ⟨_, rfl, o, C, dx, _, _, rfl, ho, T.cl, T.nE, wf_edges, _, rfl, eA, _, _, .ref x, rfl, rfl, SqL.of hE, atI_nat (by rw [List.getElem?_map, hx]; rfl), q x hxe⟩

/-! residues, gains -/
def sp_residue (C : Addr) : Sp := fun vs H Q _ => ∃ (o : Addr) (n m : Nat) (es : List Edge) (a : Int), vs = [.ref o, .int a] ∧ WebAt C H o n m es ∧ 0 < m ∧ Q (.int (a % (m : Int))) H
theorem c_residue (D : Dn K mg "residue" s_residue) (c1 : C8.Cal P w K mg base 1 "is_integer" sp_isint []) (c2 : C8.Cal P w K mg base 1 "reduced_number" sp_reduced []) (m1 : C8.Met P w K mg base 1 C "modulus" (sp_wmod C) []) : C8.Cal P w K mg base 2 "residue" (sp_residue C) [] := by
  refine cal_mk D (ps := ["web", "number"]) (fun _ _ _ _ _ _ us hl => match us, hl with | [_, _], _ => rfl) (N := ["web", "number"]) ⟨rfl, rfl, rfl, by decide +kernel, rfl, by decide +kernel, by decide +kernel⟩ (fun vs H Q E h => ?_) (fun f cdv A outer s H vs Q E hr h => ?_)
  · obtain ⟨o, n, m, es, a, rfl, _⟩ := h; rfl
  · obtain ⟨o, n, m, es, a, rfl, hW, hm, q⟩ := h
    obtain ⟨_, _, _, dx, eA, fA, lA, ho, _⟩ := id hW
    refine ⟨_, pss_cons (ps_if (pt_not (pt_val (C8.pe_c c1 hr (by decide) (by rfl) (pa_cons (pv 1) pa_nil)))) pss_never pss_nil)
      (pss_one (ps_ret (C8.pe_c c2 hr (by decide) (by rfl) (pa_cons (pv 1) (pa_cons (C8.pe_mt0 m1 hr (by decide) (pv 0)) pa_nil))))), ?_⟩
    refine ⟨_, rfl, a, rfl, true, rfl, iteF ?_⟩
    exact ⟨_, rfl, _, rfl, o, dx, _, rfl, ho, wf_no1, o, n, m, es, rfl, hW, a, _, rfl, by omega, q⟩
def sp_isres (C : Addr) : Sp := fun vs H Q _ => ∃ (o : Addr) (n m : Nat) (es : List Edge) (a : Nat), vs = [.ref o, vn a] ∧ WebAt C H o n m es ∧ a < m ∧ Q (.bl true) H
theorem c_isres (D : Dn K mg "is_residue" s_is_residue) (c1 : C8.Cal P w K mg base 1 "is_integer" sp_isint []) (c2 : C8.Cal P w K mg base 2 "is_within" sp_within []) (m1 : C8.Met P w K mg base 1 C "modulus" (sp_wmod C) []) : C8.Cal P w K mg base 3 "is_residue" (sp_isres C) [] := by
  refine cal_mk D (ps := ["web", "thing"]) (fun _ _ _ _ _ _ us hl => match us, hl with | [_, _], _ => rfl) (N := ["web", "thing"]) ⟨rfl, rfl, rfl, by decide +kernel, rfl, by decide +kernel, by decide +kernel⟩ (fun vs H Q E h => ?_) (fun f cdv A outer s H vs Q E hr h => ?_)
  · obtain ⟨o, n, m, es, a, rfl, _⟩ := h; rfl
  · obtain ⟨o, n, m, es, a, rfl, hW, hm, q⟩ := h
    obtain ⟨_, _, _, dx, eA, fA, lA, ho, _⟩ := id hW
    refine ⟨_, pss_cons (ps_if (pt_cmpR op_eq (C8.pe_mt0 m1 hr (by decide) (pv 0)) pe_int (nomark _)) pss_never pss_nil)
      (pss_one (ps_ret (C8.pe_c c2 hr (by decide) (by rfl) (pa_cons (pv 1) (pa_cons pe_int (pa_cons (pe_op op_sub (C8.pe_mt0 m1 hr (by decide) (pv 0)) pe_int) pa_nil)))))), ?_⟩
    refine ⟨_, rfl, o, dx, _, rfl, ho, wf_no1, o, n, m, es, rfl, hW, rfl, _, rfl, ?_⟩
    have e : decide (vn m = V.int 0) = false := decide_eq_false fun z => by
      have := V.int.inj z
      omega
    show if decide (vn m = V.int 0) = true then _ else _
    rw [e]
    refine iteF ⟨_, rfl, _, rfl, o, dx, _, rfl, ho, wf_no1, o, n, m, es, rfl, hW, _, _, rfl, rfl, _, _, _, rfl, by omega, by omega, q⟩

/-! powers -/
theorem pw_pos {m e : Nat} (h : 0 < m) : pw m e = .int ((m ^ e : Nat) : Int) := if_neg (by omega)
def sp_power (C : Addr) : Sp := fun vs H Q _ => ∃ (o : Addr) (n m : Nat) (es : List Edge) (k : Nat), vs = [.ref o, vn k] ∧ WebAt C H o n m es ∧ m ≤ 60 ∧ k ≤ 1000 ∧ Q (pw m k) H
theorem c_power (D : Dn K mg "power_of" s_power_of) (B : Bt mg) (m1 : C8.Met P w K mg base 1 C "modulus" (sp_wmod C) []) : C8.Cal P w K mg base 2 "power_of" (sp_power C) [] := by
  have S : FnScope ["web", "exponent", "found", "turn"] ["web", "exponent"] (defScope s_power_of) := ⟨rfl, rfl, rfl, by decide +kernel, rfl, by decide +kernel, by decide +kernel⟩
  refine cal_mk D (ps := ["web", "exponent"]) (fun _ _ _ _ _ _ us hl => match us, hl with | [_, _], _ => rfl) S (fun vs H Q E h => ?_) (fun f cdv A outer s H vs Q E hr h => ?_)
  · obtain ⟨o, n, m, es, k, rfl, _⟩ := h; rfl
  · obtain ⟨o, n, m, es, k, rfl, hW, hm, hk, q⟩ := h
    obtain ⟨_, _, _, dx, eA, fA, lA, ho, _⟩ := id hW
    refine ⟨_, pss_cons (ps_if (pt_cmpR op_gt (C8.pe_mt0 m1 hr (by decide) (pv 0)) pe_int (nomark _))
        (pss_cons (ps_set (i := 2) S.nd rfl (Or.inl rfl) pe_int)
        (pss_cons (ps_for PassesOwn.never rfl (pi_range1 (by rfl) B.range (pa_cons (pv 1) pa_nil)) (pg_name (i := 3) S.nd rfl (Or.inl rfl)) (pss_one (ps_aug (i := 2) S.nd rfl (Or.inl rfl) (C8.pe_mt0 m1 hr (by decide) (pv 0)) iop_mul)))
        (pss_one (ps_ret (pv 2))))) pss_nil)
      (pss_one (ps_ret (pe_ifExp (pt_cmpR op_eq (pv 1) pe_int (nomark _)) pe_int pe_non))), ?_⟩
    refine ⟨_, rfl, o, dx, _, rfl, ho, wf_no1, o, n, m, es, rfl, hW, _, _, rfl, rfl, _, rfl, ite2 (fun hm0 => ?_) (fun hm0 => ?_)⟩
    · have hm1 : 0 < m := by
        have := of_decide_eq_true hm0
        omega
      rw [pw_pos hm1] at q
      refine ⟨_, rfl, _, rfl, by omega, by omega, for_range (lo := 0) (n := (k : Int).toNat) (fun i σ H' => ∃ v, σ = [some (.ref o), some (vn k), some (.int ((m ^ i : Nat) : Int)), v] ∧ H' = H) ⟨none, rfl, rfl⟩ ?_ ?_⟩
      · rintro i σ H' hi ⟨v, rfl, rfl⟩
        refine ⟨_, rfl, _, rfl, o, dx, _, rfl, ho, wf_no1, o, n, m, es, rfl, hW, _, _, rfl, rfl, .inr ⟨by omega, by omega⟩, some (V.int (0 + (i : Int))), ?_, rfl⟩
        have e : ((m ^ i : Nat) : Int) * (m : Int) = ((m ^ (i + 1) : Nat) : Int) := by rw [Nat.pow_succ]; exact (Int.natCast_mul _ _).symm
        rw [← e]
        rfl
      · rintro σ H' ⟨v, rfl, rfl⟩
        rw [Int.toNat_natCast]
        exact ⟨_, rfl, q⟩
    · have hm1 : m = 0 := by
        have h1 : ¬ (0 : Int) < (m : Int) := fun z => hm0 (decide_eq_true z)
        omega
      subst hm1
      refine ⟨_, rfl, rfl, _, rfl, ?_⟩
      have e : decide (vn k = V.int 0) = decide (k = 0) := dec_vn k 0
      show if decide (vn k = V.int 0) = true then _ else _
      rw [e]
      have e2 : pw 0 k = if k = 0 then .int 1 else .non := rfl
      rw [e2] at q
      by_cases hk0 : k = 0
      · rw [if_pos hk0] at q; rw [decide_eq_true hk0]; exact iteT q
      · rw [if_neg hk0] at q; rw [decide_eq_false hk0]; exact iteF q
end
end K18

set_option Elab.async false
set_option linter.all false
set_option maxRecDepth 100000
set_option maxHeartbeats 4000000
/-! forest_of, links_of. -/
namespace K18
open PySem PySem.Spec PyProof.Rows L2
theorem rng_item {n i : Nat} (f : Nat → Nat) (h : i < n) : (((List.range n).map f).map vn)[i]? = some (vn (f i)) := by
  rw [List.getElem?_map, List.getElem?_map, List.getElem?_range h]; rfl
theorem rng_snoc {i : Nat} (f : Nat → V) : (List.range (i + 1)).map f = (List.range i).map f ++ [f i] := by
  rw [List.range_succ, List.map_append]; rfl
theorem take_snoc {α : Type} {l : List α} {i : Nat} {x : α} (h : l[i]? = some x) : l.take (i + 1) = l.take i ++ [x] := by
  rw [List.take_add_one, h]; rfl
theorem take_len {α : Type} {l : List α} {i : Nat} {x : α} (h : l[i]? = some x) : (l.take i).length = i := by
  rw [List.length_take]; have := (List.getElem?_eq_some_iff.mp h).1; omega
theorem Ends.take {n : Nat} {es : List Edge} (h : Ends n es) (i : Nat) : Ends n (es.take i) := fun e he => h e (List.mem_of_mem_take he)
/-- no test: the item is kept -/
theorem yes {σ : L2.St} {H : Hp} {A B : Hp → Prop} (h : A H) : tYes σ H fun b H1 => if b = true then A H1 else B H1 := by
  show if true = true then A H else B H
  exact iteT h
section
variable {P : Program} {w : World} {K : PySem.W.Frag} {mg : Str → Option Value} {base : Heap}

/-! forest_of -/
abbrev Nfo : List Str := ["size", "pairs", "groups", "found", "index", "tail", "head", "group"]
theorem S_fo : FnScope Nfo ["size", "pairs"] (defScope s_forest_of) := ⟨rfl, rfl, rfl, by decide +kernel, rfl, by decide +kernel, by decide +kernel⟩
def sp_forest : Sp := fun vs H Q _ => ∃ (n : Nat) (ea : Addr) (es : List Edge), vs = [vn n, .ref ea] ∧ LsAt EdgeAt H ea es ∧ Ends n es ∧ es.length ≤ 60 ∧ n ≤ 30 ∧
  ∀ H' p, Same H H' → H p = none → RowAt H' p (frst es) → Q (.ref p) H'
theorem c_forest (D : Dn K mg "forest_of" s_forest_of) (B : Bt mg) : C8.Cal P w K mg base 1 "forest_of" sp_forest [] := by
  have S := S_fo
  refine cal_mk D (ps := ["size", "pairs"]) (fun _ _ _ _ _ _ us hl => match us, hl with | [_, _], _ => rfl) S (fun vs H Q E h => ?_) (fun f cdv A outer s H vs Q E hr h => ?_)
  · obtain ⟨n, ea, es, rfl, _⟩ := h; rfl
  · obtain ⟨n, ea, es, rfl, ⟨as, hE, hp⟩, he, hl, hn, q⟩ := h
    refine ⟨_, pss_cons (ps_set (i := 2) S.nd rfl (Or.inr rfl) (pe_listRg rfl (by rfl) B.list (prg_1 (by rfl) B.range (pv 0))))
      (pss_cons (ps_set (i := 3) S.nd rfl (Or.inl rfl) (pe_lst pa_nil))
      (pss_cons (ps_for PassesOwn.never rfl (pi_enum (by rfl) B.enumerate (pa_cons (pv 1) pa_nil))
          (pg_tup rfl (pgs_cons (pg_name (i := 4) S.nd rfl (Or.inl rfl)) (pgs_cons (pg_tup rfl (pgs_cons (pg_name (i := 5) S.nd rfl (Or.inr rfl)) (pgs_cons (pg_name (i := 6) S.nd rfl (Or.inr rfl)) pgs_nil))) pgs_nil)))
        (pss_one (ps_if (pt_cmpR op_ne (pe_ix ix_list (pv 2) (pv 5) (fun _ _ => rfl)) (pe_ix ix_list (pv 2) (pv 6) (fun _ _ => rfl)) (nomark _))
          (pss_cons (ps_expr (pe_bm PySem.F.plainAttrs_list PySem.F.slot_list_append PySem.F.type_list_append mt_append (pv 3) (pa_cons (pv 4) pa_nil)))
          (pss_one (ps_set (i := 2) S.nd rfl (Or.inr rfl) (pe_lc (own := [("group", 7)]) (g := gName 7) (tt := tYes) rfl S.nd (pi_list (pv 2)) (blkOk_by (own := [("group", 7)]) (N := Nfo) (sc := defScope s_forest_of) (by decide +kernel))
            (fun _ _ _ _ _ => pg_name (i := 7) S.nd rfl (Or.inl rfl)) (fun _ _ _ _ _ => pts_nil)
            (fun _ _ _ _ _ => pe_ifExp (pt_cmpR op_eq (pv 7) (pe_ix (r := rIxL K) ix_list (pv 2) (pv 6) (fun _ _ => rfl)) (nomark _)) (pe_ix (r := rIxL K) ix_list (pv 2) (pv 5) (fun _ _ => rfl)) (pv 7)))))) pss_nil)))
      (pss_one (ps_ret (pv 3))))), ?_⟩
    refine ⟨_, rfl, _, rfl, RgOk.of_le (by decide) (by omega) (by decide) (by omega), fun gA ngA => ?_⟩
    refine ⟨Nat.zero_le _, fun fA nfA => ?_⟩
    have hgf : gA ≠ fA := ne_fresh upd_same nfA
    have nfA0 : H fA = none := by rw [upd_ne hgf.symm] at nfA; exact nfA
    have s2 : Same H (upd (upd H gA (.lst (rgV 0 (n : Int)))) fA (.lst [])) := (same_new ngA).trans (same_new nfA)
    refine ⟨_, rfl, ea, _, rfl, SqL.of (s2 _ _ hE), for_it (n := (as.map V.ref).length) (walk_enum (K := K) (a := ea) (xs := as.map V.ref)) (fun i σ H' => ∃ (gA fA : Addr) (v4 v5 v6 v7 : Option V), σ = [some (vn n), some (.ref ea), some (.ref gA), some (.ref fA), v4, v5, v6, v7] ∧ Same H H' ∧ H fA = none ∧ H gA = none ∧ gA ≠ fA ∧
      RowAt H' gA ((List.range n).map (grp (es.take i))) ∧ RowAt H' fA (frst (es.take i))) ⟨gA, fA, none, none, none, none, rfl, s2, nfA0, ngA, hgf, ?_, ?_⟩ (fun i σ H' _ ⟨_, _, _, _, _, _, _, s, _⟩ => SqL.of (s _ _ hE)) ?_ ?_⟩
    · show _ = _
      rw [upd_ne hgf, upd_same]
      unfold rgV
      rw [List.map_map, show ((n : Int) - 0).toNat = n by omega]
      congr 2
      refine List.map_congr_left fun v _ => ?_
      show V.int (0 + (v : Int)) = V.int _
      rw [Int.zero_add]
      rfl
    · exact upd_same
    · rintro i x σ H1 H2 hi ⟨gA, fA, v4, v5, v6, v7, rfl, s1, nf, ng, hne, hG, hF⟩ ⟨T, x1, x2, rfl, nT, rfl, e1, e2⟩
      obtain ⟨a, ha, rfl⟩ := refs_item e2
      obtain rfl : V.int (i : Nat) = x1 := Option.some.inj e1
      obtain ⟨e, hie, hae⟩ := Paired.at' hp ha
      have hend := he e (List.mem_of_getElem? hie)
      have sT : Same H1 (upd H1 T (.tup [V.int (i : Nat), .ref a])) := same_new nT
      have hG1 := sT _ _ hG
      have hF1 := sT _ _ hF
      have hlen : (es.take i).length = i := take_len hie
      have hilt : i < es.length := (List.getElem?_eq_some_iff.mp hie).1
      refine ⟨T, _, rfl, .inl (.inl upd_same), rfl, _, _, rfl, _, _, rfl, a, _, rfl, .inl (.inl (sT _ _ (s1 _ _ hae))), rfl, _, _, rfl, _, _, rfl, rfl, rfl, ?_⟩
      have g1 := rng_item (grp (es.take i)) hend.1
      have g2 := rng_item (grp (es.take i)) hend.2
      refine ⟨_, rfl, _, rfl, gA, _, _, _, rfl, rfl, SqL.of hG1, atI_nat g1, _, rfl, _, rfl, gA, _, _, _, rfl, rfl, SqL.of hG1, atI_nat g2, rfl, _, rfl, ?_⟩
      rw [dec_vn]
      by_cases hg : grp (es.take i) e.1 = grp (es.take i) e.2
      · rw [decide_eq_true hg]
        refine iteF ⟨gA, fA, _, _, _, _, rfl, s1.trans sT, nf, ng, hne, ?_, ?_⟩
        · rw [take_snoc hie, grp_snoc]; unfold gstep; rw [if_neg (fun z => z hg)]; exact hG1
        · rw [take_snoc hie, frst_snoc, if_neg (fun z => z hg), List.append_nil]; exact hF1
      · rw [decide_eq_false hg]
        refine iteT ?_
        have hz1 : ((frst (es.take i)).map vn).length < sizeLine := by
          rw [List.length_map]
          have := frst_le_len (es.take i)
          exact line_lt (by omega)
        refine ⟨_, rfl, .inl ⟨rfl, _, SqL.of hF1⟩, _, rfl, fA, _, _, rfl, rfl, hF1, hz1, ?_⟩
        have hF2 : upd (upd H1 T (.tup [V.int (i : Nat), .ref a])) fA (.lst ((frst (es.take i)).map vn ++ [V.int (i : Nat)])) fA = some (.lst ((frst (es.take i)).map vn ++ [V.int (i : Nat)])) := upd_same
        generalize hHc : upd (upd H1 T (.tup [V.int (i : Nat), .ref a])) fA (.lst ((frst (es.take i)).map vn ++ [V.int (i : Nat)])) = Hc at hF2 ⊢
        have sc : Same H Hc := by rw [← hHc]; exact (s1.trans sT).mut nf
        have hGc : RowAt Hc gA ((List.range n).map (grp (es.take i))) := by
          show Hc gA = _
          rw [← hHc, upd_ne hne]; exact hG1
        refine ⟨_, rfl, gA, rfl, ⟨_, SqL.of hGc⟩, fun Dd hD => lc_list (K := K) (a := gA) (xs := ((List.range n).map (grp (es.take i))).map vn) (fun j H' => H' = upd Hc Dd (.lst ((List.range j).map fun v => vn (merge (grp (es.take i)) e v)))) rfl (fun j H' _ hh => ?_) ?_ ?_⟩
        · rw [hh]; exact SqL.of ((same_new hD) _ _ hGc)
        · rintro j y H' hj rfl
          have hjn : j < n := by
            have := (List.getElem?_eq_some_iff.mp hj).1
            rw [List.length_map, List.length_map, List.length_range] at this
            exact this
          have hGd := (same_new (o := .lst ((List.range j).map fun v => vn (merge (grp (es.take i)) e v))) hD) _ _ hGc
          rw [rng_item _ hjn] at hj
          obtain rfl := Option.some.inj hj
          have hzj : ((List.range j).map fun v => vn (merge (grp (es.take i)) e v)).length < sizeLine := by
            rw [List.length_map, List.length_range]; exact line_lt (by omega)
          refine ⟨rfl, yes ?_⟩
          refine ⟨_, rfl, _, rfl, _, rfl, gA, _, _, _, rfl, rfl, SqL.of hGd, atI_nat g2, rfl, _, rfl, ?_⟩
          rw [dec_vn]
          have fin : ∀ x : Nat, x = merge (grp (es.take i)) e j → upd (upd Hc Dd (.lst ((List.range j).map fun v => vn (merge (grp (es.take i)) e v)))) Dd (.lst (((List.range j).map fun v => vn (merge (grp (es.take i)) e v)) ++ [vn x])) = upd Hc Dd (.lst ((List.range (j + 1)).map fun v => vn (merge (grp (es.take i)) e v))) := by
            rintro x rfl
            rw [upd_upd, rng_snoc]
          by_cases hq : grp (es.take i) j = grp (es.take i) e.2
          · rw [decide_eq_true hq]
            exact iteT ⟨_, rfl, _, rfl, gA, _, _, _, rfl, rfl, SqL.of hGd, atI_nat g1, _, upd_same, hzj, fin _ (by unfold merge; rw [if_pos hq])⟩
          · rw [decide_eq_false hq]
            exact iteF ⟨_, rfl, _, upd_same, hzj, fin _ (by unfold merge; rw [if_neg hq])⟩
        · rintro H' rfl
          rw [List.length_map, List.length_map, List.length_range]
          have hfD : fA ≠ Dd := ne_fresh hF2 hD
          refine ⟨Dd, fA, _, _, _, _, rfl, sc.fresh hD, nf, sc.free hD, hfD.symm, ?_, ?_⟩
          · show _ = _
            rw [upd_same, take_snoc hie, grp_snoc]
            unfold gstep
            rw [if_pos hg, List.map_map]
            rfl
          · show _ = _
            rw [upd_ne hfD, hF2, take_snoc hie, frst_snoc, if_pos hg, hlen, List.map_append]
            rfl
    · rintro σ H' ⟨gA, fA, v4, v5, v6, v7, rfl, s1, nf, ng, hne, hG, hF⟩
      rw [List.length_map, Paired.len hp, List.take_length] at hF
      exact ⟨_, rfl, q H' fA s1 nf hF⟩
end
end K18

set_option Elab.async false
set_option linter.all false
set_option maxRecDepth 100000
set_option maxHeartbeats 4000000
/-! links_of. -/
namespace K18
open PySem PySem.Spec PyProof.Rows L2
/-- what H' holds that did not stand in H -/
def fr (H H' : Hp) : Hp := fun b => match H b with | none => H' b | some _ => none
theorem fr_at {H H' : Hp} {p : Addr} (h : H p = none) : fr H H' p = H' p := by unfold fr; rw [h]
theorem fr_same {H H' : Hp} : Same (fr H H') H' := fun b o e => by
  unfold fr at e
  cases q : H b with
  | none => rw [q] at e; exact e
  | some u => rw [q] at e; cases e
theorem fr_new {H H' : Hp} : New H (fr H H') := fun b o e => by unfold fr; rw [e]
theorem fr_upd {H H' : Hp} {p : Addr} {o : HO} (h : H p = none) : fr H (upd H' p o) = upd (fr H H') p o := by
  funext b
  by_cases e : b = p
  · subst e; rw [fr_at h, upd_same, upd_same]
  · rw [upd_ne e]
    unfold fr
    rw [upd_ne e]
theorem fr_mono {H H1 H2 : Hp} (s : Same H1 H2) : Same (fr H H1) (fr H H2) := fun b o e => by
  unfold fr at e ⊢
  cases q : H b with
  | none => rw [q] at e; exact s _ _ e
  | some u => rw [q] at e; cases e
theorem nd_at {as : List Addr} (h : as.Nodup) {i j : Nat} {a : Addr} (h1 : as[i]? = some a) (h2 : as[j]? = some a) : i = j := by
  obtain ⟨l1, e1⟩ := List.getElem?_eq_some_iff.mp h1
  obtain ⟨l2, e2⟩ := List.getElem?_eq_some_iff.mp h2
  exact (List.getElem_inj h).mp (e1.trans e2.symm)
theorem links_put {G : Hp} {as : List Addr} {rows : Nat → List (Nat × Int × Nat)} {t : Nat} {a T : Addr} {l : Nat × Int × Nat} {vs : List V} (nd : as.Nodup) (hall : ∀ v b, as[v]? = some b → LsAt LinkAt G b (rows v)) (ha : as[t]? = some a) (hT : G T = none) (hv : G a = some (.lst vs)) :
    ∀ v b, as[v]? = some b → LsAt LinkAt (upd (upd G T (.tup [vn l.1, .int l.2.1, vn l.2.2])) a (.lst (vs ++ [.ref T]))) b (rows v ++ (if t = v then [l] else [])) := by
  intro v b hb
  have sT : Same G (upd G T (.tup [vn l.1, .int l.2.1, vn l.2.2])) := same_new hT
  have taT : a ≠ T := ne_fresh hv hT
  have keep : ∀ x y, LinkAt G x y → LinkAt (upd (upd G T (.tup [vn l.1, .int l.2.1, vn l.2.2])) a (.lst (vs ++ [.ref T]))) x y := fun x y h => by
    have hxa : x ≠ a := ne_of (show G x = some _ from h) hv (by intro z; cases z)
    show _ = _
    rw [upd_ne hxa]
    exact sT _ _ h
  by_cases hvt : t = v
  · subst hvt
    obtain rfl : b = a := Option.some.inj (hb.symm.trans ha)
    obtain ⟨bs, e1, e2⟩ := hall t b hb
    rw [hv] at e1
    have ev : vs = bs.map V.ref := HO.lst.inj (Option.some.inj e1)
    refine ⟨bs ++ [T], ?_, ?_⟩
    · rw [upd_same, ev, List.map_append]; rfl
    · rw [if_pos rfl]
      refine Paired.snoc (Paired.mapP e2 keep) ?_
      show _ = _
      rw [upd_ne taT.symm, upd_same]
  · rw [if_neg hvt, List.append_nil]
    have hba : b ≠ a := fun z => hvt (nd_at nd ha (z ▸ hb))
    obtain ⟨bs, e1, e2⟩ := hall v b hb
    refine ⟨bs, ?_, Paired.mapP e2 keep⟩
    rw [upd_ne hba]
    exact sT _ _ e1
theorem lk_snoc {es : List Edge} {F : List Nat} {i x v : Nat} (h : F[i]? = some x) : lk es (F.take (i + 1)) v = lk es (F.take i) v ++ lk1 es x v := by
  unfold lk
  rw [take_snoc h, List.flatMap_append, List.flatMap_singleton]
section
variable {P : Program} {w : World} {K : PySem.W.Frag} {mg : Str → Option Value} {base : Heap}
abbrev Nlo : List Str := ["size", "pairs", "forest", "found", "index", "tail", "head", "node"]
theorem S_lo : FnScope Nlo ["size", "pairs", "forest"] (defScope s_links_of) := ⟨rfl, rfl, rfl, by decide +kernel, rfl, by decide +kernel, by decide +kernel⟩
def sp_links : Sp := fun vs H Q _ => ∃ (n : Nat) (ea fa : Addr) (es : List Edge), vs = [vn n, .ref ea, .ref fa] ∧ LsAt EdgeAt H ea es ∧ RowAt H fa (frst es) ∧ Ends n es ∧ es.length ≤ 60 ∧ n ≤ 30 ∧
  ∀ H' p N, Same H H' → New H N → Same N H' → H p = none → LsAt (LsAt LinkAt) N p (rowsOf n es) → Q (.ref p) H'
theorem lk_len {es : List Edge} {F : List Nat} {v : Nat} : (lk es F v).length ≤ 2 * F.length := by
  unfold lk
  induction F with
  | nil => exact Nat.le_refl _
  | cons i F ih =>
    rw [List.flatMap_cons, List.length_append, List.length_cons]
    have h1 : (lk1 es i v).length ≤ 2 := by
      unfold lk1
      rw [List.length_append]
      split <;> split <;> simp
    omega
theorem c_links (D : Dn K mg "links_of" s_links_of) (B : Bt mg) : C8.Cal P w K mg base 1 "links_of" sp_links [] := by
  have S := S_lo
  refine cal_mk D (ps := ["size", "pairs", "forest"]) (fun _ _ _ _ _ _ us hl => match us, hl with | [_, _, _], _ => rfl) S (fun vs H Q E h => ?_) (fun f cdv A outer s H vs Q E hr h => ?_)
  · obtain ⟨n, ea, fa, es, rfl, _⟩ := h; rfl
  · obtain ⟨n, ea, fa, es, rfl, ⟨eas, hE, hp⟩, hF, he, hl, hn, q⟩ := h
    refine ⟨_, pss_cons (ps_setLc (i := 3) (own := [("node", 7)]) (g := gName 7) (tt := tYes) rfl S.nd rfl rfl (sw_true rfl rfl rfl (by decide +kernel)) (pi_range1 (by rfl) B.range (pa_cons (pv 0) pa_nil)) (blkOk_by (own := [("node", 7)]) (N := Nlo) (sc := defScope s_links_of) (by decide +kernel))
        (fun _ _ _ _ _ => pg_name (i := 7) S.nd rfl (Or.inl rfl)) (fun _ _ _ _ _ => pts_nil) (fun _ _ _ _ _ => pe_lst pa_nil))
      (pss_cons (ps_for PassesOwn.never rfl (pi_list (pv 2)) (pg_name (i := 4) S.nd rfl (Or.inl rfl))
        (pss_cons (ps_asg (pe_ix ix_list (pv 1) (pv 4) (fun _ _ => rfl)) (pg_tup rfl (pgs_cons (pg_name (i := 5) S.nd rfl (Or.inl rfl)) (pgs_cons (pg_name (i := 6) S.nd rfl (Or.inl rfl)) pgs_nil))))
        (pss_cons (ps_expr (pe_bm PySem.F.plainAttrs_list PySem.F.slot_list_append PySem.F.type_list_append mt_append (pe_ix ix_list (pv 3) (pv 5) (fun _ _ => rfl)) (pa_cons (pe_tup (pa_cons (pv 4) (pa_cons pe_int (pa_cons (pv 6) pa_nil)))) pa_nil)))
        (pss_one (ps_expr (pe_bm PySem.F.plainAttrs_list PySem.F.slot_list_append PySem.F.type_list_append mt_append (pe_ix ix_list (pv 3) (pv 6) (fun _ _ => rfl)) (pa_cons (pe_tup (pa_cons (pv 4) (pa_cons (pe_un un_neg pe_int) (pa_cons (pv 5) pa_nil)))) pa_nil)))))))
      (pss_one (ps_ret (pv 3)))), ?_⟩
    refine ⟨_, rfl, _, rfl, by omega, by omega, fun Dd hD => ?_⟩
    refine lc_range (lo := 0) (n := (n : Int).toNat) (fun j H' => ∃ as : List Addr, Same H H' ∧ H' Dd = some (.lst (as.map V.ref)) ∧ as.length = j ∧ as.Nodup ∧ ∀ a ∈ as, H a = none ∧ a ≠ Dd ∧ H' a = some (.lst [])) ⟨[], same_new hD, upd_same, rfl, List.nodup_nil, fun a ha => absurd ha List.not_mem_nil⟩ ?_ ?_
    · rintro j H' hj ⟨as, s1, hA, hlen, nd, hall⟩
      refine ⟨rfl, yes ?_⟩
      refine ⟨Nat.zero_le _, fun l nl => ?_⟩
      have hDl : Dd ≠ l := ne_fresh hA nl
      have hnl : l ∉ as := fun z => by
        have := (hall l z).2.2
        rw [nl] at this; cases this
      have hAl : upd H' l (.lst []) Dd = some (.lst (as.map V.ref)) := by rw [upd_ne hDl]; exact hA
      refine ⟨_, hAl, by rw [List.length_map]; exact line_lt (by omega), as ++ [l], (s1.fresh nl).mut hD, ?_, by rw [List.length_append, hlen]; rfl, ?_, fun a ha => ?_⟩
      · rw [upd_same, List.map_append]; rfl
      · exact List.nodup_append.mpr ⟨nd, List.nodup_cons.mpr ⟨List.not_mem_nil, List.nodup_nil⟩, fun x hx y hy => by
          rw [List.mem_singleton] at hy
          subst hy
          exact fun e => hnl (e ▸ hx)⟩
      · rcases List.mem_append.mp ha with ha | ha
        · obtain ⟨h1, h2, h3⟩ := hall a ha
          refine ⟨h1, h2, ?_⟩
          rw [upd_ne h2, upd_ne (ne_fresh h3 nl)]
          exact h3
        · rw [List.mem_singleton] at ha
          subst ha
          refine ⟨s1.free nl, hDl.symm, ?_⟩
          rw [upd_ne hDl.symm, upd_same]
    · rintro H1 ⟨as, s1, hA, hlen, nd, hall⟩
      rw [Int.toNat_natCast] at hlen
      refine ⟨_, rfl, fa, rfl, ⟨_, SqL.of (s1 _ _ hF)⟩, for_list (K := K) (a := fa) (xs := (frst es).map vn) (fun i σ H' => ∃ v4 v5 v6 v7, σ = [some (vn n), some (.ref ea), some (.ref fa), some (.ref Dd), v4, v5, v6, v7] ∧ Same H H' ∧ H' Dd = some (.lst (as.map V.ref)) ∧
        ∀ v a, as[v]? = some a → LsAt LinkAt (fr H H') a (lk es ((frst es).take i) v)) ⟨none, none, none, none, rfl, s1, hA, fun v a hv => ?_⟩ (fun i σ H' _ ⟨_, _, _, _, _, s, _⟩ => SqL.of (s _ _ hF)) ?_ ?_⟩
      · obtain ⟨h1, h2, h3⟩ := hall a (List.mem_of_getElem? hv)
        exact ⟨[], by rw [fr_at h1, h3]; rfl, .nil⟩
      · rintro i y σ H2 hi ⟨v4, v5, v6, v7, rfl, s2, hA2, hall2⟩
        obtain ⟨x, hx, rfl⟩ := vns_item hi
        have hxF : x ∈ frst es := List.mem_of_getElem? hx
        have hxe : es[x]? = some (edge es x) := by rw [edge_of (List.getElem?_eq_getElem (frst_lt hxF))]; exact List.getElem?_eq_getElem (frst_lt hxF)
        obtain ⟨b, hb, hbe⟩ := Paired.at hp hxe
        have hend := he _ (List.mem_of_getElem? hxe)
        have hb2 : (eas.map V.ref)[x]? = some (.ref b) := by rw [List.getElem?_map, hb]; rfl
        have nodeAt : ∀ v, v < n → ∃ a, as[v]? = some a := fun v hv => ⟨_, List.getElem?_eq_getElem (by omega)⟩
        obtain ⟨ta, hta⟩ := nodeAt _ hend.1
        obtain ⟨ha, hha⟩ := nodeAt _ hend.2
        have hta2 : (as.map V.ref)[(edge es x).1]? = some (.ref ta) := by rw [List.getElem?_map, hta]; rfl
        have hha2 : (as.map V.ref)[(edge es x).2]? = some (.ref ha) := by rw [List.getElem?_map, hha]; rfl
        have freshA : ∀ a ∈ as, H a = none ∧ a ≠ Dd := fun a z => ⟨(hall a z).1, (hall a z).2.1⟩
        -- tail, head = pairs[index]
        refine ⟨_, rfl, _, rfl, ea, _, _, _, rfl, rfl, SqL.of (s2 _ _ hE), atI_nat hb2, b, _, rfl, .inl (.inl (s2 _ _ hbe)), rfl, _, _, rfl, _, _, rfl, rfl, ?_⟩
        -- found[tail].append((index, 1, head))
        obtain ⟨tvs, htv, htl⟩ := (hall2 _ _ hta).obj
        have htH : H2 ta = some (.lst tvs) := fr_same _ _ htv
        refine ⟨_, rfl, _, rfl, Dd, _, _, _, rfl, rfl, SqL.of hA2, atI_nat hta2, .inl ⟨rfl, _, SqL.of htH⟩, _, rfl, _, rfl, by show 3 ≤ sizeLine; decide, fun T nT => ?_⟩
        have hFl : (frst es).length ≤ 60 := Nat.le_trans (frst_le_len es) hl
        have small : ∀ i v, (lk es ((frst es).take i) v).length ≤ 120 := fun i v => by
          have h1 := lk_len (es := es) (F := (frst es).take i) (v := v)
          have h2 := List.length_take_le i (frst es)
          rw [List.length_take] at h1
          omega
        have htT : ta ≠ T := ne_fresh htH nT
        have htH2 : upd H2 T (.tup [vn x, .int 1, vn (edge es x).2]) ta = some (.lst tvs) := by rw [upd_ne htT]; exact htH
        refine ⟨ta, _, _, rfl, rfl, htH2, by rw [htl]; have := small i (edge es x).1; exact line_lt (by omega), ?_⟩
        have nT0 : H T = none := s2.free nT
        have fta := freshA ta (List.mem_of_getElem? hta)
        have hG1 := links_put (G := fr H H2) (l := (x, 1, (edge es x).2)) nd hall2 hta (by rw [fr_at nT0]; exact nT) htv
        rw [← fr_upd nT0, ← fr_upd fta.1] at hG1
        have s3 : Same H (upd (upd H2 T (.tup [vn x, .int 1, vn (edge es x).2])) ta (.lst (tvs ++ [.ref T]))) := (s2.fresh nT).mut fta.1
        have hA3 : upd (upd H2 T (.tup [vn x, .int 1, vn (edge es x).2])) ta (.lst (tvs ++ [.ref T])) Dd = some (.lst (as.map V.ref)) := by
          rw [upd_ne fta.2.symm, upd_ne (ne_fresh hA2 nT)]; exact hA2
        generalize hH3 : upd (upd H2 T (.tup [vn x, .int 1, vn (edge es x).2])) ta (.lst (tvs ++ [.ref T])) = H3 at hG1 s3 hA3
        -- found[head].append((index, -1, tail))
        obtain ⟨hvs, hhv, hhl⟩ := (hG1 _ _ hha).obj
        have hhH : H3 ha = some (.lst hvs) := fr_same _ _ hhv
        refine ⟨_, rfl, _, rfl, Dd, _, _, _, rfl, rfl, SqL.of hA3, atI_nat hha2, .inl ⟨rfl, _, SqL.of hhH⟩, _, rfl, _, rfl, _, rfl, by show 3 ≤ sizeLine; decide, fun T2 nT2 => ?_⟩
        have hhT : ha ≠ T2 := ne_fresh hhH nT2
        have hhH2 : upd H3 T2 (.tup [vn x, .int (-1), vn (edge es x).1]) ha = some (.lst hvs) := by rw [upd_ne hhT]; exact hhH
        have hsz : hvs.length < sizeLine := by
          rw [hhl, List.length_append]
          have h1 := small i (edge es x).2
          have h2 : (if (edge es x).1 = (edge es x).2 then [(x, (1 : Int), (edge es x).2)] else []).length ≤ 1 := by split <;> simp
          exact line_lt (by omega)
        refine ⟨ha, _, _, rfl, rfl, hhH2, hsz, ?_⟩
        have nT20 : H T2 = none := s3.free nT2
        have fha := freshA ha (List.mem_of_getElem? hha)
        have hG2 := links_put (G := fr H H3) (l := (x, -1, (edge es x).1)) nd hG1 hha (by rw [fr_at nT20]; exact nT2) hhv
        rw [← fr_upd nT20, ← fr_upd fha.1] at hG2
        refine ⟨_, _, _, _, rfl, (s3.fresh nT2).mut fha.1, ?_, fun v a hv => ?_⟩
        · rw [upd_ne fha.2.symm, upd_ne (ne_fresh hA3 nT2)]; exact hA3
        · have q1 := hG2 v a hv
          rw [List.append_assoc] at q1
          rw [lk_snoc hx]
          exact q1
      · rintro σ H2 ⟨v4, v5, v6, v7, rfl, s2, hA2, hall2⟩
        rw [List.length_map, List.take_length] at hall2
        refine ⟨_, rfl, q H2 Dd (fr H H2) s2 fr_new fr_same hD ⟨as, by rw [fr_at hD]; exact hA2, ?_⟩⟩
        -- all rows
        have key : ∀ (l : List Addr) (k : Nat), (∀ j a, l[j]? = some a → LsAt LinkAt (fr H H2) a (lk es (frst es) (k + j))) → Paired (LsAt LinkAt (fr H H2)) l ((List.range l.length).map fun j => lk es (frst es) (k + j)) := by
          intro l
          induction l with
          | nil => intro k _; exact .nil
          | cons a l ih =>
            intro k h
            rw [List.length_cons, List.range_succ_eq_map, List.map_cons, List.map_map]
            refine .cons (h 0 a rfl) ?_
            have := ih (k + 1) fun j b hb => by
              have := h (j + 1) b (by simpa using hb)
              rwa [show k + (j + 1) = k + 1 + j by omega] at this
            have e : (fun j => lk es (frst es) (k + 1 + j)) = ((fun j => lk es (frst es) (k + j)) ∘ Nat.succ) := by
              funext j
              show lk es (frst es) (k + 1 + j) = lk es (frst es) (k + (j + 1))
              rw [show k + (j + 1) = k + 1 + j by omega]
            rw [e] at this
            exact this
        have := key as 0 fun j a hj => by rw [Nat.zero_add]; exact hall2 j a hj
        rw [hlen] at this
        have e : ((List.range n).map fun j => lk es (frst es) (0 + j)) = rowsOf n es := List.map_congr_left fun j _ => by rw [Nat.zero_add]
        rw [e] at this
        exact this
end
end K18

set_option Elab.async false
set_option linter.all false
set_option maxRecDepth 100000
set_option maxHeartbeats 4000000
/-! walk_paths. -/
namespace K18
open PySem PySem.Spec PyProof.Rows L2
/-- what the dict of paths holds: for each node its path from s -/
def KvOk (G : Hp) (es : List Edge) (s B : Nat) (kvs : List (Key × V)) (ks : List Nat) : Prop :=
  Paired (fun (kv : Key × V) (v : Nat) => kv.1 = Sum.inl (v : Int) ∧ ∃ q ss, kv.2 = .ref q ∧ LsAt StepAt G q ss ∧ PathOk es s v ss ∧ ss.length ≤ B) kvs ks
theorem KvOk.mono {G G' : Hp} {es : List Edge} {s B B' : Nat} {kvs : List (Key × V)} {ks : List Nat} (h : KvOk G es s B kvs ks) (sm : Same G G') (hb : B ≤ B') : KvOk G' es s B' kvs ks :=
  Paired.mapP h fun kv v ⟨e, q, ss, e2, a, b, c⟩ => ⟨e, q, ss, e2, a.same mono_step sm, b, Nat.le_trans c hb⟩
theorem KvOk.keys {G : Hp} {es : List Edge} {s B : Nat} : ∀ {kvs : List (Key × V)} {ks : List Nat}, KvOk G es s B kvs ks → kvs.map (·.1) = ks.map fun v : Nat => Sum.inl (v : Int)
  | _, _, .nil => rfl
  | _, _, .cons r t => by rw [List.map_cons, List.map_cons, r.1, KvOk.keys t]
theorem KvOk.get {G : Hp} {es : List Edge} {s B v : Nat} : ∀ {kvs : List (Key × V)} {ks : List Nat}, KvOk G es s B kvs ks → v ∈ ks → ∃ q ss, valV kvs (Sum.inl (v : Int)) = some (.ref q) ∧ LsAt StepAt G q ss ∧ PathOk es s v ss ∧ ss.length ≤ B
  | _, _, .nil, h => absurd h List.not_mem_nil
  | kv :: kvs, u :: ks, .cons r t, h => by
    by_cases e : u = v
    · subst e
      obtain ⟨e1, q, ss, e2, a⟩ := r
      exact ⟨q, ss, by rw [valV_pos e1, e2], a⟩
    · have hm : v ∈ ks := by
        rcases List.mem_cons.mp h with z | z
        · exact absurd z.symm e
        · exact z
      obtain ⟨q, ss, e1, a⟩ := KvOk.get t hm
      refine ⟨q, ss, ?_, a⟩
      rw [valV_neg (fun z => e ?_), e1]
      rw [r.1] at z
      exact Int.ofNat.inj (Sum.inl.inj z)
theorem KvOk.no {G : Hp} {es : List Edge} {s B v : Nat} : ∀ {kvs : List (Key × V)} {ks : List Nat}, KvOk G es s B kvs ks → v ∉ ks → valV kvs (Sum.inl (v : Int)) = none
  | _, _, .nil, _ => rfl
  | kv :: kvs, u :: ks, .cons r t, h => by
    rw [valV_neg (fun z => h ?_), KvOk.no t fun z => h (List.mem_cons_of_mem _ z)]
    rw [r.1] at z
    have : u = v := Int.ofNat.inj (Sum.inl.inj z)
    rw [this]
    exact List.mem_cons_self
theorem nodup_lt {n : Nat} {ks : List Nat} (h : ks.Nodup) (hl : ∀ v ∈ ks, v < n) : ks.length ≤ n := by
  have := nodup_sub_len h (B := List.range n) fun v hv => List.mem_range.mpr (hl v hv)
  rwa [List.length_range] at this
/-- within a round of the search -/
structure Bfs (H : Hp) (n : Nat) (es : List Edge) (s : Nat) (d L lA : Addr) (ks0 lv : List Nat) (H' : Hp) (ks nw : List Nat) : Prop where
  same : Same H H'
  kv : ∃ kvs G, H' d = some (.dK kvs) ∧ Same G H' ∧ G d = none ∧ G L = none ∧ KvOk G es s ks.length kvs ks
  lat : H' L = some (.lst (nw.map vn))
  lev : H' lA = some (.lst (lv.map vn))
  nd : ks.Nodup
  inn : ∀ v ∈ ks, v < n ∧ grp es v = grp es s
  old : ∀ v ∈ ks0, v ∈ ks
  new : ∀ v ∈ ks, v ∈ nw ∨ v ∈ ks0
  nwk : ∀ v ∈ nw, v ∈ ks
  cnt : ks.length = ks0.length + nw.length
abbrev Nwp : List Str := ["links", "start", "paths", "level", "later", "node", "index", "way", "other"]
theorem S_wp : FnScope Nwp ["links", "start"] (defScope s_walk_paths) := ⟨rfl, rfl, rfl, by decide +kernel, rfl, by decide +kernel, by decide +kernel⟩
def sp_paths : Sp := fun vs H Q _ => ∃ (n : Nat) (la : Addr) (es : List Edge) (s : Nat), vs = [.ref la, vn s] ∧ LsAt (LsAt LinkAt) H la (rowsOf n es) ∧ Ends n es ∧ n ≤ 30 ∧ s < n ∧
  ∀ H' p kvs ks, Same H H' → H p = none → H' p = some (.dK kvs) → KvOk H' es s n kvs ks → ks.Nodup → (∀ v, v ∈ ks ↔ v < n ∧ grp es v = grp es s) → Q (.ref p) H'
section
variable {P : Program} {w : World} {K : PySem.W.Frag} {mg : Str → Option Value} {base : Heap}
theorem c_paths (D : Dn K mg "walk_paths" s_walk_paths) (B : Bt mg) : C8.Cal P w K mg base 1 "walk_paths" sp_paths [] := by
  have S := S_wp
  refine cal_mk D (ps := ["links", "start"]) (fun _ _ _ _ _ _ us hl => match us, hl with | [_, _], _ => rfl) S (fun vs H Q E h => ?_) (fun f cdv A outer s0 H vs Q E hr h => ?_)
  · obtain ⟨n, la, es, s, rfl, _⟩ := h; rfl
  · obtain ⟨n, la, es, s, rfl, ⟨ras, hLa, hrs⟩, he, hn, hs, q⟩ := h
    have hu := hu_of hr
    refine ⟨_, pss_cons (ps_set (i := 2) S.nd rfl (Or.inl rfl) (pe_disp (pps_cons (pv 1) (pe_lst pa_nil) pps_nil) (by rfl) (by rfl) (fun z => by cases z) (by decide)))
      (pss_cons (ps_set (i := 3) S.nd rfl (Or.inl rfl) (pe_lst (pa_cons (pv 1) pa_nil)))
      (pss_cons (ps_while PassesOwn.never (pt_truth (pv 3) (by intro _; rfl))
        (pss_cons (ps_set (i := 4) S.nd rfl (Or.inl rfl) (pe_lst pa_nil))
        (pss_cons (ps_for PassesOwn.never rfl (pi_list (pv 3)) (pg_name (i := 5) S.nd rfl (Or.inl rfl))
          (pss_one (ps_for PassesOwn.never rfl (pi_list (pe_ix ix_list (pv 0) (pv 5) (fun _ _ => rfl))) (pg_tup rfl (pgs_cons (pg_name (i := 6) S.nd rfl (Or.inl rfl)) (pgs_cons (pg_name (i := 7) S.nd rfl (Or.inl rfl)) (pgs_cons (pg_name (i := 8) S.nd rfl (Or.inl rfl)) pgs_nil))))
            (pss_one (ps_if (pt_cmp (pc_dnotin hu (pv 8) (pv 2)))
              (pss_cons (ps_dput hu (pv 2) (pv 8) (pe_op op_cat (pe_dget hu (pv 2) (pv 5) (fun _ _ => rfl)) (pe_lst (pa_cons (pe_tup (pa_cons (pv 6) (pa_cons (pv 7) pa_nil))) pa_nil))) rfl)
              (pss_one (ps_expr (pe_bm PySem.F.plainAttrs_list PySem.F.slot_list_append PySem.F.type_list_append mt_append (pv 4) (pa_cons (pv 8) pa_nil))))) pss_nil)))))
        (pss_one (ps_set (i := 3) S.nd rfl (Or.inl rfl) (pv 4))))))
      (pss_one (ps_ret (pv 2))))), ?_⟩
    -- paths = {start: []}
    refine fun d nd => ⟨_, rfl, Nat.zero_le _, fun l0 nl0 => ?_⟩
    have hdl : d ≠ l0 := ne_fresh upd_same nl0
    refine ⟨by rw [upd_ne hdl, upd_same], [(Sum.inl (s : Int), .ref l0)], rfl, by show 1 ≤ 15; decide, ?_⟩
    -- level = [start]
    refine ⟨_, rfl, by show 1 ≤ sizeLine; decide, fun lA0 nlA0 => ?_⟩
    have hl0 : H l0 = none := by rw [upd_ne hdl.symm] at nl0; exact nl0
    have e0 : mergeK [] [((Sum.inl (s : Int) : Key), V.ref l0)] = [(Sum.inl (s : Int), V.ref l0)] := rfl
    rw [e0] at nlA0 ⊢
    rw [show upd (upd (upd H d (.dK [])) l0 (.lst [])) d (.dK [(Sum.inl (s : Int), V.ref l0)]) = upd (upd H l0 (.lst [])) d (.dK [(Sum.inl (s : Int), V.ref l0)]) by
      funext b
      by_cases hb : b = d
      · subst hb; rw [upd_same, upd_same]
      · rw [upd_ne hb, upd_ne hb]
        by_cases hb2 : b = l0
        · subst hb2; rw [upd_same, upd_same]
        · rw [upd_ne hb2, upd_ne hb2, upd_ne hb]] at nlA0 ⊢
    have nd1 : upd H l0 (.lst []) d = none := by rw [upd_ne hdl]; exact nd
    have s1 : Same (upd H l0 (.lst [])) (upd (upd H l0 (.lst [])) d (.dK [(Sum.inl (s : Int), V.ref l0)])) := same_new nd1
    have s2 : Same H (upd (upd (upd H l0 (.lst [])) d (.dK [(Sum.inl (s : Int), V.ref l0)])) lA0 (.lst [vn s])) := ((same_new hl0).trans s1).fresh nlA0
    have hd1 : (upd (upd H l0 (.lst [])) d (.dK [(Sum.inl (s : Int), V.ref l0)])) d = some (.dK [(Sum.inl (s : Int), V.ref l0)]) := upd_same
    have hdA : d ≠ lA0 := ne_fresh hd1 nlA0
    refine ⟨fun m σ H' => ∃ (lA : Addr) (v4 v5 v6 v7 v8 : Option V) (ks lv : List Nat), σ = [some (.ref la), some (vn s), some (.ref d), some (.ref lA), v4, v5, v6, v7, v8] ∧ m = (n - ks.length) + (if lv = [] then 0 else 1) ∧ Same H H' ∧ lA ≠ d ∧
      (∃ kvs G, H' d = some (.dK kvs) ∧ Same G H' ∧ G d = none ∧ KvOk G es s ks.length kvs ks) ∧ H' lA = some (.lst (lv.map vn)) ∧ ks.Nodup ∧ (∀ v ∈ ks, v < n ∧ grp es v = grp es s) ∧ s ∈ ks ∧ (∀ v ∈ lv, v ∈ ks) ∧
      ∀ v ∈ ks, v ∉ lv → ∀ l ∈ lk es (frst es) v, l.2.2 ∈ ks, ⟨_, lA0, none, none, none, none, none, [s], [s], rfl, rfl, s2, hdA.symm, ?_, upd_same, List.nodup_cons.mpr ⟨List.not_mem_nil, List.nodup_nil⟩, fun v hv => ?_, List.mem_singleton.mpr rfl, fun v hv => hv, fun v h1 h2 => absurd h1 h2⟩, ?_⟩
    · refine ⟨_, upd H l0 (.lst []), by rw [upd_ne hdA]; exact hd1, s1.fresh nlA0, nd1, .cons ⟨rfl, l0, [], rfl, ⟨[], upd_same, .nil⟩, rfl, Nat.zero_le _⟩ .nil⟩
    · rw [List.mem_singleton] at hv; subst hv; exact ⟨hs, rfl⟩
    rintro m σ H1 ⟨lA, v4, v5, v6, v7, v8, ks0, lv, rfl, rfl, sH, hlA, ⟨kvs0, G0, hd0, sG0, nG0, kv0⟩, hlev, nd0, inn0, st0, lvk0, cl0⟩
    refine ⟨_, rfl, !(lv.map vn).isEmpty, .inl ⟨_, SqL.of hlev, rfl⟩, ?_⟩
    by_cases hlv : lv = []
    · -- the end
      subst hlv
      refine iteF ⟨_, rfl, q H1 d kvs0 ks0 sH nd hd0 (kv0.mono sG0 (nodup_lt nd0 fun v hv => (inn0 v hv).1)) nd0 fun v => ⟨inn0 v, fun ⟨h1, h2⟩ => ?_⟩⟩
      refine (grp_closed (fun v => v ∈ ks0) es (fun i hi e hie => ?_) s v h2.symm).mp st0
      obtain ⟨a, b⟩ := lk_has hi hie
      exact ⟨fun z => cl0 _ z List.not_mem_nil _ a, fun z => cl0 _ z List.not_mem_nil _ b⟩
    · have hne : (!(lv.map vn).isEmpty) = true := by
        cases lv with
        | nil => exact absurd rfl hlv
        | cons _ _ => rfl
      rw [hne]
      refine iteT ⟨fun σ' H' => ∃ (L : Addr) (v4 v5 v6 v7 v8 : Option V) (ks nw : List Nat), σ' = [some (.ref la), some (vn s), some (.ref d), some (.ref L), v4, v5, v6, v7, v8] ∧ L ≠ d ∧ Bfs H n es s d L lA ks0 lv H' ks nw ∧ ∀ u ∈ lv, ∀ l ∈ lk es (frst es) u, l.2.2 ∈ ks, ?_, ?_⟩
      · rintro σ' H' ⟨L, v4, v5, v6, v7, v8, ks, nw, rfl, hLd, b, hc⟩
        have hk : ks.length ≤ n := nodup_lt b.nd fun v hv => (b.inn v hv).1
        refine ⟨(n - ks.length) + (if nw = [] then 0 else 1), ?_, L, v4, v5, v6, v7, v8, ks, nw, rfl, rfl, b.same, hLd, ?_, b.lat, b.nd, b.inn, b.old _ st0, b.nwk, fun v h1 h2 l hl => ?_⟩
        · have hcnt := b.cnt
          rw [if_neg hlv]
          by_cases hnw : nw = []
          · rw [if_pos hnw, hcnt, hnw]; simp
          · rw [if_neg hnw]
            have : 0 < nw.length := List.length_pos_iff.mpr hnw
            omega
        · obtain ⟨kvs, G, a1, a2, a3, _, a5⟩ := b.kv
          exact ⟨kvs, G, a1, a2, a3, a5⟩
        · rcases b.new v h1 with z | z
          · exact absurd z h2
          · by_cases hvl : v ∈ lv
            · exact hc v hvl l hl
            · exact b.old _ (cl0 v z hvl l hl)
      · -- later = []
        refine ⟨Nat.zero_le _, fun L nL => ?_⟩
        have hdL : d ≠ L := ne_fresh hd0 nL
        have hAL : lA ≠ L := ne_fresh hlev nL
        have nL0 : H L = none := sH.free nL
        have b0 : Bfs H n es s d L lA ks0 lv (upd H1 L (.lst [])) ks0 [] := ⟨sH.fresh nL, ⟨kvs0, G0, by rw [upd_ne hdL]; exact hd0, sG0.fresh nL, nG0, sG0.free nL, kv0⟩, upd_same, by rw [upd_ne hAL]; exact hlev, nd0, inn0, fun v hv => hv, fun v hv => .inr hv, fun v hv => absurd hv List.not_mem_nil, by simp⟩
        refine ⟨_, rfl, lA, rfl, ⟨_, SqL.of b0.lev⟩, for_list (K := K) (a := lA) (xs := lv.map vn) (fun i σ H' => ∃ (v5 v6 v7 v8 : Option V) (ks nw : List Nat), σ = [some (.ref la), some (vn s), some (.ref d), some (.ref lA), some (.ref L), v5, v6, v7, v8] ∧ Bfs H n es s d L lA ks0 lv H' ks nw ∧
          ∀ u ∈ lv.take i, ∀ l ∈ lk es (frst es) u, l.2.2 ∈ ks) ⟨_, _, _, _, ks0, [], rfl, b0, fun u hu => absurd hu (by simp)⟩ (fun i σ H' _ ⟨_, _, _, _, _, _, _, b, _⟩ => SqL.of b.lev) ?_ ?_⟩
        · rintro i y σ H2 hi ⟨v5, v6, v7, v8, ks, nw, rfl, b, hc⟩
          obtain ⟨u, hu, rfl⟩ := vns_item hi
          have huk0 : u ∈ ks0 := lvk0 u (List.mem_of_getElem? hu)
          have hun := (inn0 u huk0).1
          have hrow : (rowsOf n es)[u]? = some (lk es (frst es) u) := by rw [List.getElem?_map, List.getElem?_range hun]; rfl
          obtain ⟨ra, hra, ⟨bs, hbs, hbp⟩⟩ := Paired.at hrs hrow
          have hra2 : (ras.map V.ref)[u]? = some (.ref ra) := by rw [List.getElem?_map, hra]; rfl
          refine ⟨_, rfl, _, rfl, la, _, _, _, rfl, rfl, SqL.of (b.same _ _ hLa), atI_nat hra2, ra, rfl, ⟨_, SqL.of (b.same _ _ hbs)⟩, for_list (K := K) (a := ra) (xs := bs.map V.ref) (fun j σ H' => ∃ (v6 v7 v8 : Option V) (ks nw : List Nat), σ = [some (.ref la), some (vn s), some (.ref d), some (.ref lA), some (.ref L), some (vn u), v6, v7, v8] ∧ Bfs H n es s d L lA ks0 lv H' ks nw ∧
            (∀ u ∈ lv.take i, ∀ l ∈ lk es (frst es) u, l.2.2 ∈ ks) ∧ ∀ l ∈ (lk es (frst es) u).take j, l.2.2 ∈ ks) ⟨v6, v7, v8, ks, nw, rfl, b, hc, fun l hl => absurd hl (by simp)⟩ (fun j σ H' _ ⟨_, _, _, _, _, _, b, _⟩ => SqL.of (b.same _ _ hbs)) ?_ ?_⟩
          · rintro j y σ H3 hj ⟨v6, v7, v8, ks, nw, rfl, b, hc, hcj⟩
            obtain ⟨x, hx, rfl⟩ := refs_item hj
            obtain ⟨l, hl, hxl⟩ := Paired.at' hbp hx
            obtain ⟨hlF, hlS⟩ := lk_mem (List.mem_of_getElem? hl)
            have hlt := hlS.lt he
            obtain ⟨kvs, G, hd, sG, nGd, nGL, kv⟩ := b.kv
            have huk : u ∈ ks := b.old u huk0
            have tk : (lk es (frst es) u).take (j + 1) = (lk es (frst es) u).take j ++ [l] := take_snoc hl
            have hkn : ks.length ≤ n := nodup_lt b.nd fun v hv => (b.inn v hv).1
            -- index, way, other = the link
            refine ⟨x, _, rfl, .inl (.inl (b.same _ _ hxl)), rfl, _, _, rfl, _, _, rfl, _, _, rfl, rfl, ?_⟩
            refine ⟨_, rfl, _, rfl, d, _, rfl, DGet.k (k := Sum.inl (l.2.2 : Int)) hd, _, rfl, ?_⟩
            by_cases hk : l.2.2 ∈ ks
            · obtain ⟨_, _, ev, _⟩ := kv.get hk
              rw [ev]
              refine iteF ⟨_, _, _, ks, nw, rfl, b, hc, fun l' hl' => ?_⟩
              rw [tk] at hl'
              rcases List.mem_append.mp hl' with z | z
              · exact hcj _ z
              · rw [List.mem_singleton] at z; subst z; exact hk
            · rw [kv.no hk]
              refine iteT ?_
              -- paths[other] = paths[node] + [(index, way)]
              obtain ⟨pq, ss, evu, hpq, hpo, hsl⟩ := kv.get huk
              obtain ⟨sas, hsas, hsp⟩ := hpq
              refine ⟨_, rfl, _, rfl, d, _, rfl, by have z := DGet.k (k := Sum.inl (u : Int)) hd; rw [evu] at z; exact z, _, rfl, _, rfl, by show 2 ≤ sizeLine; decide, fun T nT => ?_⟩
              refine ⟨by show 1 ≤ sizeLine; decide, fun M nM => ?_⟩
              have sT : Same H3 (upd H3 T (.tup [vn l.1, .int l.2.1])) := same_new nT
              have sM : Same (upd H3 T (.tup [vn l.1, .int l.2.1])) (upd (upd H3 T (.tup [vn l.1, .int l.2.1])) M (.lst [.ref T])) := same_new nM
              have hsz : (sas.map V.ref).length + [V.ref T].length ≤ sizeLine := by
                rw [List.length_map, Paired.len hsp, List.length_singleton]
                exact line_big (by omega)
              refine ⟨pq, M, _, _, rfl, rfl, sM _ _ (sT _ _ (sG _ _ hsas)), upd_same, hsz, fun p np => ?_⟩
              generalize hH4 : upd (upd H3 T (.tup [vn l.1, .int l.2.1])) M (.lst [.ref T]) = H4 at sM np
              have s34 : Same H3 H4 := sT.trans sM
              have hd4 := s34 _ _ hd
              have hL4 := s34 _ _ b.lat
              have hA4 := s34 _ _ b.lev
              have nTG : G T = none := sG.free nT
              have nMG : H3 M = none := sT.free nM
              have npG : H3 p = none := s34.free np
              have hTd : d ≠ T := ne_fresh hd nT
              have hTL : L ≠ T := ne_fresh b.lat nT
              have hpd : d ≠ p := ne_fresh hd4 np
              have hpL : L ≠ p := ne_fresh hL4 np
              have hpA : lA ≠ p := ne_fresh hA4 np
              have hT4 : H4 T = some (.tup [vn l.1, .int l.2.1]) := by
                rw [← hH4, upd_ne (ne_fresh upd_same nM)]; exact upd_same
              have hTp : T ≠ p := ne_fresh hT4 np
              have hd5 : upd H4 p (.lst (sas.map V.ref ++ [V.ref T])) d = some (.dK kvs) := by rw [upd_ne hpd]; exact hd4
              refine ⟨_, rfl, _, rfl, d, _, rfl, DPut.k (k := Sum.inl (l.2.2 : Int)) hd5 ?_, ?_⟩
              · have e := congrArg List.length kv.keys
                rw [List.length_map, List.length_map] at e
                rw [e]
                exact line_lt (by omega)
              rw [putK_new _ (kv.no hk)]
              -- later.append(other)
              have hL6 : upd (upd H4 p (.lst (sas.map V.ref ++ [V.ref T]))) d (.dK (kvs ++ [(Sum.inl (l.2.2 : Int), V.ref p)])) L = some (.lst (nw.map vn)) := by
                rw [upd_ne hdL.symm, upd_ne hpL]; exact hL4
              have hcnt := b.cnt
              refine ⟨_, rfl, .inl ⟨rfl, _, SqL.of hL6⟩, _, rfl, L, _, _, rfl, rfl, hL6, by rw [List.length_map]; exact line_lt (by omega), ?_⟩
              have sHH3 := b.same
              have sG5 : Same (upd (upd G T (.tup [vn l.1, .int l.2.1])) p (.lst (sas.map V.ref ++ [V.ref T]))) (upd H4 p (.lst (sas.map V.ref ++ [V.ref T]))) := by
                refine Same.both ?_
                rw [← hH4]
                exact (Same.both sG).fresh nM
              have nd5 : upd (upd G T (.tup [vn l.1, .int l.2.1])) p (.lst (sas.map V.ref ++ [V.ref T])) d = none := by rw [upd_ne hpd, upd_ne hTd]; exact nGd
              have nL5 : upd (upd G T (.tup [vn l.1, .int l.2.1])) p (.lst (sas.map V.ref ++ [V.ref T])) L = none := by rw [upd_ne hpL, upd_ne hTL]; exact nGL
              have sGT : Same G (upd (upd G T (.tup [vn l.1, .int l.2.1])) p (.lst (sas.map V.ref ++ [V.ref T]))) := by
                refine (same_new nTG).trans (same_new ?_)
                rw [upd_ne hTp.symm]
                exact sG.free npG
              have lev6 : upd (upd (upd H4 p (.lst (sas.map V.ref ++ [V.ref T]))) d (.dK (kvs ++ [(Sum.inl (l.2.2 : Int), V.ref p)]))) L (.lst (nw.map vn ++ [vn l.2.2])) lA = some (.lst (lv.map vn)) := by
                rw [upd_ne hAL, upd_ne hlA, upd_ne hpA]; exact hA4
              refine ⟨_, _, _, ks ++ [l.2.2], nw ++ [l.2.2], rfl, ⟨?_, ⟨kvs ++ [(Sum.inl (l.2.2 : Int), V.ref p)], _, ?_, (sG5.mut nd5).mut nL5, nd5, nL5, ?_⟩, ?_, lev6, ?_, ?_, ?_, ?_, ?_, ?_⟩, fun u' hu' l' hl' => List.mem_append_left _ (hc u' hu' l' hl'), fun l' hl' => ?_⟩
              · exact (((sHH3.trans s34).fresh np).mut nd).mut nL0
              · rw [upd_ne hdL, upd_same]
              · rw [List.length_append, List.length_singleton]
                refine Paired.snoc (KvOk.mono kv sGT (Nat.le_succ _)) ⟨rfl, p, ss ++ [(l.1, l.2.1)], rfl, ⟨sas ++ [T], ?_, ?_⟩, hpo.snoc hlF hlS, ?_⟩
                · rw [upd_same, List.map_append]; rfl
                · refine Paired.snoc (Paired.mapP hsp fun a b r => mono_step _ _ _ _ sGT r) ?_
                  show _ = _
                  rw [upd_ne hTp, upd_same]
                · rw [List.length_append, List.length_singleton]; omega
              · rw [upd_same, List.map_append]; rfl
              · exact List.nodup_append.mpr ⟨b.nd, List.nodup_cons.mpr ⟨List.not_mem_nil, List.nodup_nil⟩, fun a ha c hc' => by
                  rw [List.mem_singleton] at hc'; subst hc'; exact fun e => hk (e ▸ ha)⟩
              · intro v hv
                rcases List.mem_append.mp hv with z | z
                · exact b.inn v z
                · rw [List.mem_singleton] at z; subst z
                  exact ⟨hlt.2.2, hlS.grp.symm.trans (b.inn u huk).2⟩
              · exact fun v hv => List.mem_append_left _ (b.old v hv)
              · intro v hv
                rcases List.mem_append.mp hv with z | z
                · exact (b.new v z).imp (fun y => List.mem_append_left _ y) fun y => y
                · exact .inl (List.mem_append_right _ z)
              · intro v hv
                rcases List.mem_append.mp hv with z | z
                · exact List.mem_append_left _ (b.nwk v z)
                · exact List.mem_append_right _ z
              · rw [List.length_append, List.length_append, hcnt]; simp [Nat.add_assoc]
              · rw [tk] at hl'
                rcases List.mem_append.mp hl' with z | z
                · exact List.mem_append_left _ (hcj _ z)
                · rw [List.mem_singleton] at z; subst z; exact List.mem_append_right _ (List.mem_singleton.mpr rfl)
          · rintro σ H3 ⟨v6, v7, v8, ks, nw, rfl, b, hc, hcj⟩
            refine ⟨_, _, _, _, ks, nw, rfl, b, fun u' hu' => ?_⟩
            rw [take_snoc hu] at hu'
            rcases List.mem_append.mp hu' with z | z
            · exact hc u' z
            · rw [List.mem_singleton] at z
              subst z
              intro l hl
              refine hcj l ?_
              rw [List.length_map, Paired.len hbp, List.take_length]
              exact hl
        · rintro σ H2 ⟨v5, v6, v7, v8, ks, nw, rfl, b, hc⟩
          refine ⟨_, rfl, L, _, _, _, _, _, ks, nw, rfl, hdL.symm, b, fun u hu => hc u ?_⟩
          rw [List.length_map, List.take_length]
          exact hu
end
end K18

set_option Elab.async false
set_option linter.all false
set_option maxRecDepth 100000
set_option maxHeartbeats 4000000
/-! components_of. -/
namespace K18
open PySem PySem.Spec PyProof.Rows L2
theorem mem_putK {kvs : List (Key × V)} {a k : Key} {v : V} : k ∈ (putK kvs a v).map (·.1) ↔ k ∈ kvs.map (·.1) ∨ k = a := by
  unfold putK
  split
  · rename_i h
    have e : (kvs.map fun kv => if kv.1 = a then (kv.1, v) else kv).map (·.1) = kvs.map (·.1) := by
      rw [List.map_map]
      refine List.map_congr_left fun kv _ => ?_
      show (if kv.1 = a then (kv.1, v) else kv).1 = kv.1
      split <;> rfl
    rw [e]
    refine ⟨.inl, fun z => z.elim id fun z => ?_⟩
    obtain ⟨kv, h1, h2⟩ := List.any_eq_true.mp h
    rw [z, ← of_decide_eq_true h2]
    exact List.mem_map.mpr ⟨kv, h1, rfl⟩
  · rw [List.map_append, List.mem_append]
    simp
theorem mem_mergeK {k : Key} : ∀ {more kvs : List (Key × V)}, k ∈ (mergeK kvs more).map (·.1) ↔ k ∈ kvs.map (·.1) ∨ k ∈ more.map (·.1)
  | [], kvs => by show k ∈ kvs.map (·.1) ↔ _; simp
  | p :: r, kvs => by
    show k ∈ (mergeK (putK kvs p.1 p.2) r).map (·.1) ↔ _
    rw [mem_mergeK, mem_putK, List.map_cons, List.mem_cons, or_assoc]
theorem some_iff {kvs : List (Key × V)} {k : Key} : (valV kvs k).isSome = true ↔ k ∈ kvs.map (·.1) := by
  constructor
  · intro h
    cases e : valV kvs k with
    | none => rw [e] at h; cases h
    | some v => exact valV_in e
  · intro h
    cases e : valV kvs k with
    | none => exact absurd h (valV_not e)
    | some v => rfl
/-- a dict comprehension over anything that goes n turns -/
theorem dc_any {J : It} {n : Nat} {G : Hp → Prop} {Y : Nat → Hp → V → Hp → Prop} (wk : Walk J n G Y) {g : TG} {tt : TT} {tk tv : TE} {vs : List Nat} {σ : L2.St} {H1 : Hp} {D : Addr} {Qd : Hp → Prop} (Pv : Nat → Hp → Prop)
    (start : Pv 0 (upd H1 D (.dK []))) (stands : ∀ i H, i ≤ n → Pv i H → G H)
    (turn : ∀ i x H H', i < n → Pv i H → Y i H x H' → g x (wipe σ vs) H' fun σ2 H2 => wipe σ2 vs = wipe σ vs ∧ tt σ2 H2 fun b H3 =>
      if b = true then tk σ2 H3 fun y H4 => tv σ2 H4 fun z H5 => ∃ kvs k, y = kV k ∧ H5 D = some (.dK kvs) ∧ kvs.length < sizeLine ∧ Pv (i + 1) (upd H5 D (.dK (putK kvs k z))) else Pv (i + 1) H3)
    (done : ∀ H, Pv n H → Qd H) :
    ∃ W : Nat → Nat → Hp → Prop, (∃ m, W 0 m (upd H1 D (.dK []))) ∧ ∀ i m H, W i m H →
      (J.stop i H ∧ Qd H) ∨ (J.go i H ∧ ∃ Nx : Hp → Prop, (∀ H', Nx H' → ∃ m', m' < m ∧ W (i + 1) m' H') ∧ ∀ x H', J.yld i H x H' → g x (wipe σ vs) H' fun σ2 H2 => wipe σ2 vs = wipe σ vs ∧ tt σ2 H2 fun b H3 =>
        if b = true then tk σ2 H3 fun y H4 => tv σ2 H4 fun z H5 => ∃ kvs k, y = kV k ∧ H5 D = some (.dK kvs) ∧ kvs.length < sizeLine ∧ Nx (upd H5 D (.dK (putK kvs k z))) else Nx H3) := by
  refine ⟨fun i m H => i ≤ n ∧ m + i = n ∧ Pv i H, ⟨n, Nat.zero_le _, rfl, start⟩, ?_⟩
  rintro i m H ⟨hi, hm, p⟩
  have gs := stands i H hi p
  rcases Nat.lt_or_ge i n with hlt | hge
  · exact .inr ⟨wk.goes i H hlt gs, Pv (i + 1), fun H' p' => ⟨m - 1, by omega, hlt, by omega, p'⟩, fun x H' y => turn i x H H' hlt p (wk.yields i H x H' hlt gs y)⟩
  · obtain rfl : i = n := by omega
    exact .inl ⟨wk.stops H gs, done H p⟩
abbrev Nco : List Str := ["links", "found", "seen", "node", "component", "other"]
theorem S_co : FnScope Nco ["links"] (defScope s_components_of) := ⟨rfl, rfl, rfl, by decide +kernel, rfl, by decide +kernel, by decide +kernel⟩
def sp_comps : Sp := fun vs H Q _ => ∃ (n : Nat) (la : Addr) (es : List Edge), vs = [.ref la] ∧ LsAt (LsAt LinkAt) H la (rowsOf n es) ∧ Ends n es ∧ n ≤ 30 ∧
  ∀ H' p xs, Same H H' → H p = none → H' p = some (.lst xs) → xs.length = (dd ((List.range n).map (grp es))).length → Q (.ref p) H'
section
variable {P : Program} {w : World} {K : PySem.W.Frag} {mg : Str → Option Value} {base : Heap}
theorem c_comps (D : Dn K mg "components_of" s_components_of) (B : Bt mg) (c1 : C8.Cal P w K mg base 1 "walk_paths" sp_paths []) : C8.Cal P w K mg base 2 "components_of" sp_comps [] := by
  have S := S_co
  refine cal_mk D (ps := ["links"]) (fun _ _ _ _ _ _ us hl => match us, hl with | [_], _ => rfl) S (fun vs H Q E h => ?_) (fun f cdv A outer s0 H vs Q E hr h => ?_)
  · obtain ⟨n, la, es, rfl, _⟩ := h; rfl
  · obtain ⟨n, la, es, rfl, hL, he, hn, q⟩ := h
    have hu := hu_of hr
    obtain ⟨las, hla, hlp⟩ := id hL
    have hlen : (las.map V.ref).length = n := by rw [List.length_map, Paired.len hlp, List.length_map, List.length_range]
    refine ⟨_, pss_cons (ps_set (i := 1) S.nd rfl (Or.inl rfl) (pe_lst pa_nil))
      (pss_cons (ps_set (i := 2) S.nd rfl (Or.inl rfl) pe_dnewK)
      (pss_cons (ps_for PassesOwn.never rfl (pi_range1 (by rfl) B.range (pa_cons (pe_callB call_len_seq (by rfl) B.len PySem.boot_len (pa_cons (pv 0) pa_nil)) pa_nil)) (pg_name (i := 3) S.nd rfl (Or.inl rfl))
        (pss_one (ps_if (pt_cmp (pc_dnotin hu (pv 3) (pv 2)))
          (pss_cons (ps_set (i := 4) S.nd rfl (Or.inl rfl) (pe_callB (call_sortedDI rfl) (by rfl) B.sorted bl_sorted (pa_cons (C8.pe_c c1 hr (by decide) (by rfl) (pa_cons (pv 0) (pa_cons (pv 3) pa_nil))) pa_nil)))
          (pss_cons (ps_expr (pe_bm PySem.F.plainAttrs_dict PySem.F.slot_dict_update PySem.F.type_dict_update mt_upd (pv 2) (pa_cons (pe_dc (own := [("other", 5)]) (g := gName 5) (tt := tYes) rfl S.nd (pi_list (pv 4)) (blkOk_by (own := [("other", 5)]) (N := Nco) (sc := defScope s_components_of) (by decide +kernel))
              (fun _ _ _ _ _ => pg_name (i := 5) S.nd rfl (Or.inl rfl)) (fun _ _ _ _ _ => pts_nil) (fun _ _ _ _ _ => pv 5) (fun _ _ _ _ _ => pe_bl)) pa_nil)))
          (pss_one (ps_expr (pe_bm PySem.F.plainAttrs_list PySem.F.slot_list_append PySem.F.type_list_append mt_append (pv 1) (pa_cons (pv 4) pa_nil)))))) pss_nil)))
      (pss_one (ps_ret (pv 1))))), ?_⟩
    refine ⟨Nat.zero_le _, fun fA nfA => ?_⟩
    refine fun d nd => ?_
    have nd0 : H d = none := (same_new nfA).free nd
    have hfd : fA ≠ d := ne_fresh upd_same nd
    have s2 : Same H (upd (upd H fA (.lst [])) d (.dK [])) := (same_new nfA).fresh nd
    refine ⟨_, rfl, la, _, rfl, .inl (SqL.of (s2 _ _ hla)), _, rfl, by omega, by omega, for_range (lo := 0) (n := (((las.map V.ref).length : Nat) : Int).toNat) (fun i σ H' => ∃ (v3 v4 v5 : Option V) (xs : List V) (kvs : List (Key × V)), σ = [some (.ref la), some (.ref fA), some (.ref d), v3, v4, v5] ∧ Same H H' ∧
      H' fA = some (.lst xs) ∧ H' d = some (.dK kvs) ∧ xs.length = (dd ((List.range i).map (grp es))).length ∧ kvs.length ≤ i * 30 ∧ ∀ v : Nat, Sum.inl (v : Int) ∈ kvs.map (·.1) ↔ v < n ∧ grp es v ∈ (List.range i).map (grp es)) ⟨none, none, none, [], [], rfl, s2, by rw [upd_ne hfd, upd_same], upd_same, rfl, Nat.zero_le _, fun v => ?_⟩ ?_ ?_⟩
    · simp
    · rintro i σ H1 hi ⟨v3, v4, v5, xs, kvs, rfl, s1, hF, hd, hx, hk, hm⟩
      rw [Int.toNat_natCast, hlen] at hi
      have e0 : V.int (0 + (i : Int)) = vn i := by show V.int _ = V.int _; rw [Int.zero_add]
      rw [e0]
      refine ⟨_, rfl, _, rfl, d, _, rfl, DGet.k (k := Sum.inl (i : Int)) hd, _, rfl, ?_⟩
      have ecnt : (List.range (i + 1)).map (grp es) = (List.range i).map (grp es) ++ [grp es i] := by rw [List.range_succ, List.map_append]; rfl
      have memS : ∀ v : Nat, grp es v ∈ (List.range (i + 1)).map (grp es) ↔ grp es v ∈ (List.range i).map (grp es) ∨ grp es v = grp es i := fun v => by rw [ecnt, List.mem_append, List.mem_singleton]
      by_cases hin : grp es i ∈ (List.range i).map (grp es)
      · have hs : (valV kvs (Sum.inl (i : Int))).isSome = true := some_iff.mpr ((hm i).mpr ⟨hi, hin⟩)
        rw [hs]
        refine iteF ⟨_, _, _, xs, kvs, rfl, s1, hF, hd, ?_, by omega, fun v => ?_⟩
        · rw [hx, ecnt, dd_snoc]
          unfold ins
          rw [if_pos (mem_dd.mpr hin)]
        · rw [hm v, memS v]
          refine and_congr_right fun _ => ⟨.inl, fun z => z.elim id fun z => ?_⟩
          rw [z]; exact hin
      · have hs : (valV kvs (Sum.inl (i : Int))).isSome = false := by
          cases e : (valV kvs (Sum.inl (i : Int))).isSome with
          | false => rfl
          | true => exact absurd ((hm i).mp (some_iff.mp e)).2 hin
        rw [hs]
        refine iteT ?_
        -- component = sorted(walk_paths(links, node))
        refine ⟨_, rfl, _, rfl, n, la, es, i, rfl, hL.same (mono_ls mono_link) s1, he, hn, hi, fun H2 pd pk ks s12 npd hpd hkv hknd hkm => ?_⟩
        have hkl : ks.length ≤ n := nodup_lt hknd fun v hv => ((hkm v).mp hv).1
        refine ⟨pd, pk, ks.map fun v : Nat => (v : Int), rfl, .inl hpd, by rw [KvOk.keys hkv, List.map_map]; rfl, by rw [List.length_map]; omega, fun ys cA perm _ ncA => ?_⟩
        have hysl : ys.length ≤ 30 := by rw [perm.length_eq, List.length_map]; omega
        have s13 : Same H1 (upd H2 cA (.lst (ys.map V.int))) := s12.fresh ncA
        have hcA : upd H2 cA (.lst (ys.map V.int)) cA = some (.lst (ys.map V.int)) := upd_same
        generalize upd H2 cA (.lst (ys.map V.int)) = H3 at s13 hcA ⊢
        have hd3 := s13 _ _ hd
        have hF3 := s13 _ _ hF
        -- seen.update({other: True for other in component})
        refine ⟨_, rfl, .inr (.inr (.inl ⟨rfl, .inl ⟨_, hd3⟩⟩)), _, rfl, cA, rfl, ⟨_, SqL.of hcA⟩, fun M nM => dc_any (walk_list (K := K) (a := cA) (xs := ys.map V.int)) (fun j H' => ∃ acc : List (Key × V), H' = upd H3 M (.dK acc) ∧ acc.length ≤ j ∧ ∀ k : Key, k ∈ acc.map (·.1) ↔ k ∈ (ys.take j).map Sum.inl)
          ⟨[], rfl, Nat.le_refl _, fun k => by simp⟩ (fun j H' _ ⟨acc, e, _⟩ => by rw [e]; exact SqL.of ((same_new nM) _ _ hcA)) ?_ ?_⟩
        · rintro j x H4 H4' hj ⟨acc, rfl, hal, ham⟩ ⟨rfl, hx'⟩
          rw [List.length_map] at hj
          have hyj : ys[j]? = some ys[j] := List.getElem?_eq_getElem hj
          rw [List.getElem?_map, hyj] at hx'
          obtain rfl := Option.some.inj hx'
          refine ⟨rfl, yes ?_⟩
          refine ⟨_, rfl, acc, Sum.inl ys[j], rfl, upd_same, line_lt (by omega), _, upd_upd, ?_, fun k => ?_⟩
          · exact Nat.le_trans (length_putK _ _ _) (by omega)
          · rw [mem_putK, ham k, take_snoc hyj, List.map_append, List.mem_append]
            simp
        · rintro H4 ⟨acc, rfl, hal, ham⟩
          rw [List.length_map] at hal ham
          rw [List.take_length] at ham
          have hdM : d ≠ M := ne_fresh hd3 nM
          have hFM : fA ≠ M := ne_fresh hF3 nM
          have hcM : cA ≠ M := ne_fresh hcA nM
          refine ⟨d, M, kvs, acc, rfl, rfl, hdM, by rw [upd_ne hdM]; exact hd3, upd_same, line_big (by omega), ?_⟩
          -- found.append(component)
          have hF5 : upd (upd H3 M (.dK acc)) d (.dK (mergeK kvs acc)) fA = some (.lst xs) := by rw [upd_ne hfd, upd_ne hFM]; exact hF3
          have hxl : xs.length ≤ 30 := by
            rw [hx]
            have h1 := nodup_lt (n := n) (nodup_dd ((List.range i).map (grp es))) fun v hv => by
              obtain ⟨u, hu', rfl⟩ := List.mem_map.mp (mem_dd.mp hv)
              exact grp_lt es he u (Nat.lt_trans (List.mem_range.mp hu') hi)
            omega
          refine ⟨_, rfl, .inl ⟨rfl, _, SqL.of hF5⟩, _, rfl, fA, _, _, rfl, rfl, hF5, line_lt (by omega), ?_⟩
          refine ⟨_, _, _, xs ++ [V.ref cA], mergeK kvs acc, rfl, ((((s1.trans s13).fresh nM).mut nd0).mut nfA), upd_same, by rw [upd_ne hfd.symm, upd_same], ?_, ?_, fun v => ?_⟩
          · rw [ecnt, dd_snoc]
            unfold ins
            rw [if_neg (fun z => hin (mem_dd.mp z)), List.length_append, List.length_append, hx]
            rfl
          · have := length_mergeK acc kvs
            omega
          · rw [mem_mergeK, hm v, ham, memS v]
            have hv : Sum.inl (v : Int) ∈ (ys.map Sum.inl : List Key) ↔ v ∈ ks := by
              rw [List.mem_map]
              constructor
              · rintro ⟨y, hy, e⟩
                have e := Sum.inl.inj e
                subst e
                obtain ⟨u, hu', e2⟩ := List.mem_map.mp (perm.mem_iff.mp hy)
                rw [← Int.ofNat.inj e2]
                exact hu'
              · intro hv
                exact ⟨(v : Int), perm.mem_iff.mpr (List.mem_map.mpr ⟨v, hv, rfl⟩), rfl⟩
            rw [hv, hkm v]
            constructor
            · rintro (⟨a, b⟩ | ⟨a, b⟩)
              · exact ⟨a, .inl b⟩
              · exact ⟨a, .inr b⟩
            · rintro ⟨a, b | b⟩
              · exact .inl ⟨a, b⟩
              · exact .inr ⟨a, b⟩
    · rintro σ H1 ⟨v3, v4, v5, xs, kvs, rfl, s1, hF, hd, hx, hk, hm⟩
      rw [Int.toNat_natCast, hlen] at hx
      exact ⟨_, rfl, q H1 fA xs s1 nfA hF hx⟩
end
end K18

set_option Elab.async false
set_option linter.all false
set_option maxRecDepth 100000
set_option maxHeartbeats 4000000
/-! Web: made; its components and cycles. -/
namespace K18
open PySem PySem.Spec PyProof.Rows L2
theorem inV_vn (i : Nat) : ∀ F : List Nat, inV (vn i) (F.map vn) = decide (i ∈ F)
  | [] => by rw [decide_eq_false List.not_mem_nil]; rfl
  | j :: F => by
    have ih := inV_vn i F
    have e : inV (vn i) ((j :: F).map vn) = (((j : Int) == (i : Int)) || inV (vn i) (F.map vn)) := rfl
    rw [e, ih]
    by_cases h : j = i
    · subst h; simp
    · have h1 : ((j : Int) == (i : Int)) = false := beq_eq_false_iff_ne.mpr fun z => h (Int.ofNat.inj z)
      rw [h1, Bool.false_or]
      by_cases hm : i ∈ F
      · rw [decide_eq_true hm, decide_eq_true (List.mem_cons_of_mem _ hm)]
      · rw [decide_eq_false hm, decide_eq_false]
        exact fun z => (List.mem_cons.mp z).elim (fun y => h y.symm) hm
theorem flat_vns : ∀ F : List Nat, (F.map vn).all flatV = true
  | [] => rfl
  | _ :: F => by rw [List.map_cons, List.all_cons, flat_vns F]; rfl
theorem same_fr {H H' N : Hp} (n : New H N) (s : Same N H') : Same N (fr H H') := fun b o e => by
  unfold fr
  cases q : H b with
  | none => exact s _ _ e
  | some u => rw [n b u q] at e; cases e
def CycOk (es : List Edge) (i : Nat) (c : List (Nat × Int)) : Prop := ∃ t h r, es[i]? = some (t, h) ∧ c = (i, 1) :: r ∧ PathOk es h t r ∧ r.length ≤ 30
theorem outs_snoc (F : List Nat) (i : Nat) : outs F (i + 1) = outs F i ++ (if i ∉ F then [i] else []) := by
  unfold outs
  rw [List.range_succ, List.filter_append, List.filter_cons, List.filter_nil]
  by_cases h : i ∉ F
  · rw [if_pos (decide_eq_true h), if_pos h]
  · rw [if_neg (by rw [decide_eq_false h]; decide), if_neg h]
section
variable {P : Program} {w : World} {K : PySem.W.Frag} {mg : Str → Option Value} {base : Heap} {C : Addr}

/-! __init__ -/
abbrev Nin : List Str := ["self", "size", "edges", "modulus"]
theorem S_in : FnScope Nin Nin (defScope sW_init) := ⟨rfl, rfl, rfl, by decide +kernel, rfl, by decide +kernel, by decide +kernel⟩
def sp_init (C : Addr) : Sp := fun vs H Q _ => ∃ (H0 : Hp) (x dx ea : Addr) (n m : Nat) (es : List Edge), vs = [.ref x, vn n, .ref ea, vn m] ∧ Same H0 H ∧ H0 x = none ∧ H x = some (.ins C dx []) ∧ LsAt EdgeAt H0 ea es ∧ Ends n es ∧ es.length ≤ 60 ∧ 1 ≤ n ∧ n ≤ 30 ∧ (m = 0 ∨ (2 ≤ m ∧ m ≤ 60)) ∧
  ∀ H' N, Same H0 H' → New H0 N → Same N H' → (∀ G, Same G H0 → LsAt EdgeAt G ea es → WebAt C (join G N) x n m es) → Q .non H'
theorem ok_init {f : Addr} {fd : FuncData} {dvs : List V} {kws : List (Str × V)} (F : FunD K "__init__" "Web.__init__" (defArgs sW_init) (defBody sW_init) (defScope sW_init) dvs kws f fd) (B : Bt mg) (Z : Consts mg) (T : Wt K mg C) (c1 : C8.Cal P w K mg base 2 "is_within" sp_within []) (c2 : C8.Cal P w K mg base 4 "check_edges" sp_checkedges [])
    (c3 : C8.Cal P w K mg base 3 "is_modulus" sp_ismod []) (c4 : C8.Cal P w K mg base 1 "forest_of" sp_forest []) (c5 : C8.Cal P w K mg base 1 "links_of" sp_links []) : FnOk P w K mg base C8.CX0 5 f fd Nin (sp_init C) := by
  have S := S_in
  obtain ⟨t, hz⟩ := Z.nodes
  refine F.ok S (fun vs H Q E h => ?_) (fun cdv A outer s H vs Q E hr h => ?_)
  · obtain ⟨H0, x, dx, ea, n, m, es, rfl, _⟩ := h; rfl
  · obtain ⟨H0, x, dx, ea, n, m, es, rfl, s0, nx, hx, hE, he, hl, hn1, hn, hm, q⟩ := h
    refine ⟨_, PSs.nox (pss_cons (ps_if (pt_not (pt_val (C8.pe_c c1 hr (by decide) (by rfl) (pa_cons (pv 1) (pa_cons pe_int (pa_cons (pe_glob (v := .int 30) (by rfl) hz ⟨_, rfl⟩) pa_nil)))))) pss_never pss_nil)
      (pss_cons (ps_expr (C8.pe_c c2 hr (by decide) (by rfl) (pa_cons (pv 1) (pa_cons (pv 2) pa_nil))))
      (pss_cons (ps_if (pt_not (pt_val (C8.pe_c c3 hr (by decide) (by rfl) (pa_cons (pv 3) pa_nil)))) pss_never pss_nil)
      (pss_cons (ps_fld (pv 0) (pv 1) rfl)
      (pss_cons (ps_fld (pv 0) (pe_callTy call_list_of (by rfl) B.list bl_list (pa_cons (pv 2) pa_nil)) rfl)
      (pss_cons (ps_fld (pv 0) (pv 3) rfl)
      (pss_cons (ps_fld (pv 0) (C8.pe_c c4 hr (by decide) (by rfl) (pa_cons (pv 1) (pa_cons (pv 2) pa_nil))) rfl)
      (pss_one (ps_fld (pv 0) (C8.pe_c c5 hr (by decide) (by rfl) (pa_cons (pv 1) (pa_cons (pv 2) (pa_cons (pe_fld (pv 0) rfl) pa_nil)))) rfl))))))))), ?_⟩
    refine ⟨_, rfl, _, _, _, rfl, by omega, by omega, true, rfl, iteF ?_⟩
    refine ⟨_, rfl, _, rfl, n, ea, es, rfl, hE.same mono_edge s0, he, hl, fun H1 s1 => ?_⟩
    have hx1 := s1 _ _ hx
    have s01 := s0.trans s1
    refine ⟨_, rfl, m, rfl, hm, true, rfl, iteF ?_⟩
    -- self.own_size = size
    refine ⟨_, rfl, _, rfl, x, C, dx, _, rfl, hx1, T.cl, T.nS, by decide, ?_⟩
    have s2 : Same H0 (upd H1 x (.ins C dx (putF "own_size" (vn n) []))) := s01.mut nx
    -- self.own_edges = list(edges)
    obtain ⟨as, hea, hep⟩ := id hE
    refine ⟨_, rfl, ea, _, rfl, .inl (SqL.of (s2 _ _ hea)), fun eA neA => ?_⟩
    have nxe : x ≠ eA := ne_fresh upd_same neA
    have s3 := s2.fresh (o := .lst (as.map V.ref)) neA
    have neA0 : H0 eA = none := s2.free neA
    refine ⟨_, rfl, x, C, dx, _, rfl, by rw [upd_ne nxe, upd_same], T.cl, T.nE, by show 1 < 1000; decide, ?_⟩
    -- self.own_modulus = modulus
    refine ⟨_, rfl, _, rfl, x, C, dx, _, rfl, upd_same, T.cl, T.nM, by show 2 < 1000; decide, ?_⟩
    have s4 : Same H0 (upd (upd (upd (upd H1 x (.ins C dx (putF "own_size" (vn n) []))) eA (.lst (as.map V.ref))) x (.ins C dx (putF "own_edges" (.ref eA) (putF "own_size" (vn n) [])))) x (.ins C dx (putF "own_modulus" (vn m) (putF "own_edges" (.ref eA) (putF "own_size" (vn n) []))))) := (s3.mut nx).mut nx
    have he4 : (upd (upd (upd (upd H1 x (.ins C dx (putF "own_size" (vn n) []))) eA (.lst (as.map V.ref))) x (.ins C dx (putF "own_edges" (.ref eA) (putF "own_size" (vn n) [])))) x (.ins C dx (putF "own_modulus" (vn m) (putF "own_edges" (.ref eA) (putF "own_size" (vn n) []))))) eA = some (.lst (as.map V.ref)) := by
      rw [upd_ne nxe.symm, upd_ne nxe.symm, upd_same]
    have hx4 : (upd (upd (upd (upd H1 x (.ins C dx (putF "own_size" (vn n) []))) eA (.lst (as.map V.ref))) x (.ins C dx (putF "own_edges" (.ref eA) (putF "own_size" (vn n) [])))) x (.ins C dx (putF "own_modulus" (vn m) (putF "own_edges" (.ref eA) (putF "own_size" (vn n) []))))) x = _ := upd_same
    generalize (upd (upd (upd (upd H1 x (.ins C dx (putF "own_size" (vn n) []))) eA (.lst (as.map V.ref))) x (.ins C dx (putF "own_edges" (.ref eA) (putF "own_size" (vn n) [])))) x (.ins C dx (putF "own_modulus" (vn m) (putF "own_edges" (.ref eA) (putF "own_size" (vn n) []))))) = H4 at s4 he4 hx4 ⊢
    -- self.own_forest = forest_of(size, edges)
    refine ⟨_, rfl, _, rfl, n, ea, es, rfl, hE.same mono_edge s4, he, hl, hn, fun H5 fA s45 nfA hF => ?_⟩
    have hx5 := s45 _ _ hx4
    have he5 := s45 _ _ he4
    have nfA0 : H0 fA = none := s4.free nfA
    have nxf : x ≠ fA := ne_fresh hx4 nfA
    refine ⟨_, rfl, x, C, dx, _, rfl, hx5, T.cl, T.nF, by show 3 < 1000; decide, ?_⟩
    have s6 : Same H0 (upd H5 x (.ins C dx (putF "own_forest" (.ref fA) (putF "own_modulus" (vn m) (putF "own_edges" (.ref eA) (putF "own_size" (vn n) [])))))) := (s4.trans s45).mut nx
    have hx6 : (upd H5 x (.ins C dx (putF "own_forest" (.ref fA) (putF "own_modulus" (vn m) (putF "own_edges" (.ref eA) (putF "own_size" (vn n) [])))))) x = _ := upd_same
    have he6 : (upd H5 x (.ins C dx (putF "own_forest" (.ref fA) (putF "own_modulus" (vn m) (putF "own_edges" (.ref eA) (putF "own_size" (vn n) [])))))) eA = some (.lst (as.map V.ref)) := by rw [upd_ne nxe.symm]; exact he5
    have hF6 : RowAt (upd H5 x (.ins C dx (putF "own_forest" (.ref fA) (putF "own_modulus" (vn m) (putF "own_edges" (.ref eA) (putF "own_size" (vn n) [])))))) fA (frst es) := by
      show _ = _
      rw [upd_ne nxf.symm]; exact hF
    generalize (upd H5 x (.ins C dx (putF "own_forest" (.ref fA) (putF "own_modulus" (vn m) (putF "own_edges" (.ref eA) (putF "own_size" (vn n) [])))))) = H6 at s6 hx6 he6 hF6 ⊢
    -- self.links = links_of(size, edges, self.own_forest)
    refine ⟨_, rfl, _, rfl, _, rfl, x, C, dx, _, _, rfl, hx6, T.cl, T.nF, (by rfl : _ = some (V.ref fA)), n, ea, fA, es, rfl, hE.same mono_edge s6, hF6, he, hl, hn, fun H7 lA N s67 nN sN nlA hL => ?_⟩
    have hx7 := s67 _ _ hx6
    refine ⟨_, rfl, x, C, dx, _, rfl, hx7, T.cl, T.nL, by show 4 < 1000; decide, ?_⟩
    have nNx : N x = none := nN _ _ hx6
    refine q _ (fr H0 (upd H7 x (.ins C dx (wf n eA m fA lA)))) ((s6.trans s67).mut nx) fr_new fr_same fun G sG hG => ?_
    have sl : Same G (join G (fr H0 (upd H7 x (.ins C dx (wf n eA m fA lA))))) := same_join_l fr_new sG
    have sr : Same (fr H0 (upd H7 x (.ins C dx (wf n eA m fA lA)))) (join G (fr H0 (upd H7 x (.ins C dx (wf n eA m fA lA))))) := same_join_r
    refine ⟨he, hn, hl, dx, eA, fA, lA, ?_, ⟨as, ?_, ?_⟩, ?_, ?_⟩
    · refine sr _ _ ?_
      rw [fr_at nx, upd_same]
    · refine sr _ _ ?_
      rw [fr_at neA0, upd_ne nxe.symm]
      exact s67 _ _ he6
    · obtain ⟨as', h1, h2⟩ := hG
      have e1 := sG _ _ h1
      have := LsAt.at (R := EdgeAt) (H := G) (p := ea) (xs := es) ⟨as', h1, h2⟩ (as := as) (by
        rw [h1]
        rw [hea] at e1
        exact e1.symm)
      exact Paired.mapP this fun a b r => mono_edge _ _ _ _ sl r
    · refine sr _ _ ?_
      rw [fr_at nfA0, upd_ne nxf.symm]
      exact s67 _ _ hF6
    · refine LsAt.same (mono_ls mono_link) ?_ hL
      exact (same_fr (nN.mono s6) (sN.mut nNx)).trans sr

/-! components, cycles -/
def sp_wcomps (C : Addr) : Sp := fun vs H Q _ => ∃ (o : Addr) (n m : Nat) (es : List Edge), vs = [.ref o] ∧ WebAt C H o n m es ∧ ∀ H' p xs, Same H H' → H p = none → H' p = some (.lst xs) → xs.length = (dd ((List.range n).map (grp es))).length → Q (.ref p) H'
theorem m_comps (D : Mn K C "components" "Web.components" sW_components) (T : Wt K mg C) (c1 : C8.Cal P w K mg base 2 "components_of" sp_comps []) : C8.Met P w K mg base 3 C "components" (sp_wcomps C) [] := by
  refine met_mk D (ps := ["self"]) (fun _ _ _ _ _ _ us hl => match us, hl with | [_], _ => rfl) (N := ["self"]) ⟨rfl, rfl, rfl, by decide +kernel, rfl, by decide +kernel, by decide +kernel⟩ (fun vs H Q E h => ?_) (fun f cdv A outer s H vs Q E hr h => ?_)
  · obtain ⟨o, n, m, es, rfl, _⟩ := h; rfl
  · obtain ⟨o, n, m, es, rfl, ⟨he, hn, _, dx, eA, fA, lA, ho, _, _, hL⟩, q⟩ := h
    refine ⟨_, pss_one (ps_ret (C8.pe_c c1 hr (by decide) (by rfl) (pa_cons (pe_fld (pv 0) rfl) pa_nil))), ?_⟩
    exact ⟨_, rfl, o, C, dx, _, _, rfl, ho, T.cl, T.nL, wf_links, n, lA, es, rfl, hL, he, hn, q⟩
abbrev Ncy : List Str := ["self", "found", "number", "tail", "head"]
theorem S_cy : FnScope Ncy ["self"] (defScope sW_cycles) := ⟨rfl, rfl, rfl, by decide +kernel, rfl, by decide +kernel, by decide +kernel⟩
def sp_wcycles (C : Addr) : Sp := fun vs H Q _ => ∃ (o : Addr) (n m : Nat) (es : List Edge), vs = [.ref o] ∧ WebAt C H o n m es ∧ ∀ H' p css, Same H H' → H p = none → LsAt (LsAt StepAt) H' p css → Paired (CycOk es) (outs (frst es) es.length) css → Q (.ref p) H'
theorem m_cycles (D : Mn K C "cycles" "Web.cycles" sW_cycles) (B : Bt mg) (T : Wt K mg C) (c1 : C8.Cal P w K mg base 1 "walk_paths" sp_paths []) : C8.Met P w K mg base 2 C "cycles" (sp_wcycles C) [] := by
  have S := S_cy
  refine met_mk D (ps := ["self"]) (fun _ _ _ _ _ _ us hl => match us, hl with | [_], _ => rfl) S (fun vs H Q E h => ?_) (fun f cdv A outer s H vs Q E hr h => ?_)
  · obtain ⟨o, n, m, es, rfl, _⟩ := h; rfl
  · obtain ⟨o, n, m, es, rfl, ⟨he, hn, hl, dx, eA, fA, lA, ho, ⟨as, hE, hp⟩, hF, hL⟩, q⟩ := h
    have hu := hu_of hr
    refine ⟨_, pss_cons (ps_set (i := 1) S.nd rfl (Or.inl rfl) (pe_lst pa_nil))
      (pss_cons (ps_for PassesOwn.never rfl (pi_enum (by rfl) B.enumerate (pa_cons (pe_fld (pv 0) rfl) pa_nil))
          (pg_tup rfl (pgs_cons (pg_name (i := 2) S.nd rfl (Or.inl rfl)) (pgs_cons (pg_tup rfl (pgs_cons (pg_name (i := 3) S.nd rfl (Or.inl rfl)) (pgs_cons (pg_name (i := 4) S.nd rfl (Or.inl rfl)) pgs_nil))) pgs_nil)))
        (pss_one (ps_if (pt_cmpR op_notIn_seq (pv 2) (pe_fld (pv 0) rfl) rfl)
          (pss_one (ps_expr (pe_bm PySem.F.plainAttrs_list PySem.F.slot_list_append PySem.F.type_list_append mt_append (pv 1) (pa_cons
            (pe_op op_cat (pe_lst (pa_cons (pe_tup (pa_cons (pv 2) (pa_cons pe_int pa_nil))) pa_nil)) (pe_dget hu (C8.pe_c c1 hr (by decide) (by rfl) (pa_cons (pe_fld (pv 0) rfl) (pa_cons (pv 4) pa_nil))) (pv 3) (fun _ _ => rfl))) pa_nil)))) pss_nil)))
      (pss_one (ps_ret (pv 1)))), ?_⟩
    refine ⟨Nat.zero_le _, fun p np => ?_⟩
    have sp0 : Same H (upd H p (.lst [])) := same_new np
    refine ⟨_, rfl, o, C, dx, _, _, rfl, sp0 _ _ ho, T.cl, T.nE, wf_edges, eA, _, rfl, SqL.of (sp0 _ _ hE), for_it (n := (as.map V.ref).length) (walk_enum (K := K) (a := eA) (xs := as.map V.ref)) (fun i σ H' => ∃ (v2 v3 v4 : Option V) (bs : List Addr) (css : List (List (Nat × Int))) (G : Hp), σ = [some (.ref o), some (.ref p), v2, v3, v4] ∧ Same H H' ∧
      H' p = some (.lst (bs.map V.ref)) ∧ Same G H' ∧ G p = none ∧ Paired (LsAt StepAt G) bs css ∧ Paired (CycOk es) (outs (frst es) i) css ∧ css.length ≤ i) ⟨none, none, none, [], [], none_, rfl, sp0, upd_same, none_same, rfl, .nil, .nil, Nat.le_refl _⟩ (fun i σ H' _ ⟨_, _, _, _, _, _, _, s, _⟩ => SqL.of (s _ _ hE)) ?_ ?_⟩
    · rintro i x σ H1 H2 hi ⟨v2, v3, v4, bs, css, G, rfl, s1, hb, sG, nG, hcs, hok, hcl⟩ ⟨T2, x1, x2, rfl, nT, rfl, e1, e2⟩
      obtain ⟨a, ha, rfl⟩ := refs_item e2
      obtain rfl : V.int (i : Nat) = x1 := Option.some.inj e1
      obtain ⟨e, hie, hae⟩ := Paired.at' hp ha
      have hend := he e (List.mem_of_getElem? hie)
      have hilt : i < es.length := (List.getElem?_eq_some_iff.mp hie).1
      have sT : Same H1 (upd H1 T2 (.tup [V.int (i : Nat), .ref a])) := same_new nT
      have s2 := s1.trans sT
      have hb2 := sT _ _ hb
      have sG2 := sG.trans sT
      refine ⟨T2, _, rfl, .inl (.inl upd_same), rfl, _, _, rfl, _, _, rfl, a, _, rfl, .inl (.inl (s2 _ _ hae)), rfl, _, _, rfl, _, _, rfl, rfl, rfl, ?_⟩
      generalize upd H1 T2 (.tup [V.int (i : Nat), .ref a]) = H2 at s2 hb2 sG2 ⊢
      refine ⟨_, rfl, _, rfl, o, C, dx, _, _, rfl, s2 _ _ ho, T.cl, T.nF, wf_forest, fA, _, rfl, .inl (SqL.of (s2 _ _ hF)), rfl, flat_vns _, _, rfl, ?_⟩
      show if (!inV (vn i) ((frst es).map vn)) = true then _ else _
      rw [inV_vn]
      by_cases hiF : i ∈ frst es
      · rw [decide_eq_true hiF]
        refine iteF ⟨_, _, _, bs, css, G, rfl, s2, hb2, sG2, nG, hcs, ?_, by omega⟩
        rw [outs_snoc, if_neg (fun z => z hiF), List.append_nil]
        exact hok
      · rw [decide_eq_false hiF]
        refine iteT ?_
        refine ⟨_, rfl, .inl ⟨rfl, _, SqL.of hb2⟩, _, rfl, by show 2 ≤ sizeLine; decide, fun T3 nT3 => ?_⟩
        refine ⟨by show 1 ≤ sizeLine; decide, fun M nM => ?_⟩
        have sT3 : Same H2 (upd H2 T3 (.tup [V.int (i : Nat), .int 1])) := same_new nT3
        have sM : Same (upd H2 T3 (.tup [V.int (i : Nat), .int 1])) (upd (upd H2 T3 (.tup [V.int (i : Nat), .int 1])) M (.lst [.ref T3])) := same_new nM
        have hMT : T3 ≠ M := ne_fresh upd_same nM
        have hT4 : (upd (upd H2 T3 (.tup [V.int (i : Nat), .int 1])) M (.lst [.ref T3])) T3 = some (.tup [V.int (i : Nat), .int 1]) := by rw [upd_ne hMT, upd_same]
        have hM4 : (upd (upd H2 T3 (.tup [V.int (i : Nat), .int 1])) M (.lst [.ref T3])) M = some (.lst [.ref T3]) := upd_same
        have s24 := sT3.trans sM
        generalize (upd (upd H2 T3 (.tup [V.int (i : Nat), .int 1])) M (.lst [.ref T3])) = H4 at s24 hT4 hM4 ⊢
        have s4 := s2.trans s24
        refine ⟨_, rfl, o, C, dx, _, _, rfl, s4 _ _ ho, T.cl, T.nL, wf_links, _, rfl, n, lA, es, e.2, rfl, hL.same (mono_ls mono_link) s4, he, hn, hend.2, fun H5 pd kvs ks s45 npd hpd hkv hknd hkm => ?_⟩
        have htk : e.1 ∈ ks := (hkm e.1).mpr ⟨hend.1, grp_edge es e (List.mem_of_getElem? hie)⟩
        obtain ⟨pq, ss, ev, hpq, hpo, hsl⟩ := hkv.get htk
        obtain ⟨sas, hsas, hsp⟩ := hpq
        refine ⟨_, rfl, pd, _, rfl, by have z := DGet.k (k := Sum.inl (e.1 : Int)) hpd; rw [ev] at z; exact z, ?_⟩
        have hsal : (sas.map V.ref).length = ss.length := by rw [List.length_map]; exact Paired.len hsp
        refine ⟨M, pq, _, _, rfl, rfl, s45 _ _ hM4, hsas, by rw [hsal]; show 1 + ss.length ≤ sizeLine; exact line_big (by omega), fun c nc => ?_⟩
        have hbs : bs.length ≤ 60 := by have := Paired.len hcs; omega
        have hb5 := s45 _ _ (s24 _ _ hb2)
        have hpc : p ≠ c := ne_fresh hb5 nc
        have hb6 : upd H5 c (.lst ([V.ref T3] ++ sas.map V.ref)) p = some (.lst (bs.map V.ref)) := by rw [upd_ne hpc]; exact hb5
        refine ⟨p, _, _, rfl, rfl, hb6, by rw [List.length_map]; exact line_lt (by omega), ?_⟩
        have s5 := s4.trans s45
        have hpo2 : p ≠ pd := ne_fresh (s24 _ _ hb2) npd
        -- the snapshot: all that stands, but for found
        have sgh : Same G (hid H5 p) := fun b u z => by
          rw [hid_ne (fun y => by rw [y, nG] at z; cases z)]
          exact s45 _ _ (s24 _ _ (sG2 _ _ z))
        refine ⟨_, _, _, bs ++ [c], css ++ [(i, 1) :: ss], hid (upd H5 c (.lst ([V.ref T3] ++ sas.map V.ref))) p, rfl, (s5.fresh nc).mut np, ?_, hid_same.mut hid_at, hid_at, ?_, ?_, ?_⟩
        · rw [upd_same, List.map_append]; rfl
        · have sh : Same (hid H5 p) (hid (upd H5 c (.lst ([V.ref T3] ++ sas.map V.ref))) p) := Same.hid (same_new nc)
          refine Paired.snoc (Paired.mapP hcs fun a b r => LsAt.same mono_step (sgh.trans sh) r) ⟨T3 :: sas, ?_, .cons ?_ (Paired.mapP hsp fun a b r => ?_)⟩
          · rw [hid_ne hpc.symm, upd_same]; rfl
          · show _ = _
            have h5 := s45 _ _ hT4
            rw [hid_ne (ne_of h5 hb5 (by intro z; cases z)), upd_ne (ne_fresh h5 nc)]
            exact h5
          · have h5 : H5 a = some (.tup [vn b.1, .int b.2]) := r
            show _ = _
            rw [hid_ne (ne_of h5 hb5 (by intro z; cases z)), upd_ne (ne_fresh h5 nc)]
            exact h5
        · rw [outs_snoc, if_pos hiF]
          exact Paired.snoc hok ⟨e.1, e.2, ss, hie, rfl, hpo, by omega⟩
        · rw [List.length_append, List.length_singleton]; omega
    · rintro σ H1 ⟨v2, v3, v4, bs, css, G, rfl, s1, hb, sG, nG, hcs, hok, hcl⟩
      rw [List.length_map, Paired.len hp] at hok
      exact ⟨_, rfl, q H1 p css s1 np ⟨bs, hb, Paired.mapP hcs fun a b r => LsAt.same mono_step sG r⟩ hok⟩
end
end K18

set_option Elab.async false
set_option linter.all false
set_option maxRecDepth 100000
set_option maxHeartbeats 4000000
/-! Steps and walks; gains are checked; sums of walks. -/
namespace K18
open PySem PySem.Spec PyProof.Rows L2
theorem cut1 (xs : List V) : cutV xs (some 1) none = xs.drop 1 := by
  unfold cutV
  rw [show HT.sIx xs.length 0 (some 1) = min 1 xs.length from HT.sIx_nat xs.length 0 1, HT.sIx_none]
  cases xs with
  | nil => rfl
  | cons x r =>
    rw [show min 1 (x :: r).length = 1 by
      rw [List.length_cons]
      omega]
    show (List.take ((x :: r).length - 1) r) = r
    rw [List.length_cons, Nat.add_sub_cancel]
    exact List.take_length
/-! ### a list of pairs as data -/
def stepD (s : Nat × Int) : PyData := .tuple [.int s.1, .int s.2]
theorem lay_steps : ∀ ss : List (Nat × Int), PyData.canLayAll0 (ss.map stepD) = true
  | [] => by simp [PyData.canLayAll0]
  | s :: ss => by simp [PyData.canLayAll0, stepD, PyData.canLay0, lay_steps ss]
theorem depth_steps : ∀ ss : List (Nat × Int), PyData.depthAll (ss.map stepD) ≤ 1
  | [] => by simp [PyData.depthAll]
  | s :: ss => by
    have := depth_steps ss
    simp [PyData.depthAll, stepD, PyData.depth]
    omega
theorem shaped_steps (ss : List (Nat × Int)) : SeqAt.shaped (.list (ss.map stepD)) = true := by
  unfold SeqAt.shaped
  have h1 : PyData.canLay0 (.list (ss.map stepD)) = true := by rw [PyData.canLay0]; exact lay_steps ss
  have h2 : PyData.depth (.list (ss.map stepD)) ≤ 64 := by rw [PyData.depth]; have := depth_steps ss; omega
  rw [h1, decide_eq_true h2]; rfl
theorem shaped_nil : SeqAt.shaped (.list []) = true := shaped_steps []
theorem dp_steps {K : PySem.W.Frag} {H : Hp} : ∀ {as : List Addr} {ss : List (Nat × Int)}, Paired (StepAt H) as ss → DpAll K H (as.map V.ref) (ss.map stepD)
  | _, _, .nil => .nil
  | _, _, .cons r t => .cons (.tup (.inl (.inl r)) (.cons (.int _) (.cons (.int _) .nil))) (dp_steps t)
/-! ### chains -/
def Chain (es : List Edge) : Nat → Nat → List (Nat × Int) → List (Nat × Nat) → Prop
  | u, v, [], [] => u = v
  | u, v, s :: r, e :: eps => e.1 = u ∧ StepOk es s.1 s.2 e.1 e.2 ∧ Chain es e.2 v r eps
  | _, _, _, _ => False
theorem PathOk.chain {es : List Edge} {v : Nat} : ∀ {r : List (Nat × Int)} {u : Nat}, PathOk es u v r → ∃ eps, Chain es u v r eps
  | [], u, h => ⟨[], h⟩
  | s :: r, u, ⟨_, x, h2, h3⟩ => by
    obtain ⟨eps, h⟩ := PathOk.chain h3
    exact ⟨(u, x) :: eps, rfl, h2, h⟩
theorem Chain.steps {es : List Edge} {v : Nat} : ∀ {r : List (Nat × Int)} {u : Nat} {eps : List (Nat × Nat)}, Chain es u v r eps → Paired (fun s e => StepOk es s.1 s.2 e.1 e.2) r eps
  | [], _, [], _ => .nil
  | [], _, _ :: _, h => h.elim
  | _ :: _, _, [], h => h.elim
  | s :: r, u, e :: eps, ⟨_, h2, h3⟩ => .cons h2 (Chain.steps h3)
theorem Chain.meets {es : List Edge} {v : Nat} : ∀ {r : List (Nat × Int)} {u : Nat} {eps : List (Nat × Nat)}, Chain es u v r eps → ∀ (k : Nat) (a b : Nat × Nat), eps[k]? = some a → eps[k + 1]? = some b → a.2 = b.1
  | [], _, [], _, k, a, b, h, _ => by simp at h
  | [], _, _ :: _, h, _, _, _, _, _ => h.elim
  | _ :: _, _, [], h, _, _, _, _, _ => h.elim
  | s :: [], u, [e], _, k, a, b, _, h => by simp at h
  | s :: [], u, e :: f :: eps, ⟨_, _, h3⟩, _, _, _, _, _ => h3.elim
  | s :: t :: r, u, [e], ⟨_, _, h3⟩, _, _, _, _, _ => h3.elim
  | s :: t :: r, u, e :: f :: eps, ⟨_, _, h3⟩, 0, a, b, h1, h2 => by
    obtain rfl := Option.some.inj h1
    obtain rfl := Option.some.inj h2
    exact h3.1.symm
  | s :: t :: r, u, e :: f :: eps, ⟨_, _, h3⟩, k + 1, a, b, h1, h2 => Chain.meets h3 k a b h1 h2
theorem all_true : ∀ n : Nat, (List.replicate n true).all id = true
  | 0 => rfl
  | n + 1 => by rw [List.replicate_succ, List.all_cons, all_true n]; rfl
theorem rep_snoc (n : Nat) : List.replicate n (V.bl true) ++ [V.bl true] = List.replicate (n + 1) (V.bl true) := List.replicate_succ'.symm
theorem bls (n : Nat) : (List.replicate n true).map V.bl = List.replicate n (V.bl true) := List.map_replicate
section
variable {P : Program} {w : World} {K : PySem.W.Frag} {mg : Str → Option Value} {base : Heap} {C : Addr}

/-! is_step -/
def sp_isstep (C : Addr) : Sp := fun vs H Q _ => ∃ (o a : Addr) (n m : Nat) (es : List Edge) (s : Nat × Int), vs = [.ref o, .ref a] ∧ WebAt C H o n m es ∧ StepAt H a s ∧ s.1 < es.length ∧ (s.2 = 1 ∨ s.2 = -1) ∧ Q (.bl true) H
theorem c_isstep (D : Dn K mg "is_step" s_is_step) (B : Bt mg) (c1 : C8.Cal P w K mg base 2 "is_within" sp_within []) (m1 : C8.Met P w K mg base 1 C "__len__" (sp_wlen C) []) : C8.Cal P w K mg base 3 "is_step" (sp_isstep C) [] := by
  refine cal_mk D (ps := ["web", "thing"]) (fun _ _ _ _ _ _ us hl => match us, hl with | [_, _], _ => rfl) (N := ["web", "thing"]) ⟨rfl, rfl, rfl, by decide +kernel, rfl, by decide +kernel, by decide +kernel⟩ (fun vs H Q E h => ?_) (fun f cdv A outer s H vs Q E hr h => ?_)
  · obtain ⟨o, a, n, m, es, s, rfl, _⟩ := h; rfl
  · obtain ⟨o, a, n, m, es, st, rfl, hW, he, h1, h2, q⟩ := h
    have hT : SqT K H a [vn st.1, .int st.2] := .inl (.inl he)
    obtain ⟨_, _, hl60, dx, eA, fA, lA, ho, _⟩ := id hW
    refine ⟨_, pss_cons (ps_if (PW.pt (pw_or (pt_not (pt_val (pe_callB call_isi (by rfl) B.isinstance bl_isinstance (pa_cons (pv 1) (pa_cons (pe_bltn (v := .ty "tuple") (by rfl) B.tuple bl_tuple rfl) pa_nil)))))
        (pw_or1 (pt_cmpR op_ne (pe_callB call_len_seq (by rfl) B.len PySem.boot_len (pa_cons (pv 1) pa_nil)) pe_int (nomark _)))))
        (pss_one (ps_ret pe_bl)) pss_nil)
      (pss_one (ps_ret (pe_and (C8.pe_c c1 hr (by decide) (by rfl) (pa_cons (pe_ix ix_tup (pv 1) pe_int (fun _ _ => rfl)) (pa_cons pe_int (pa_cons (pe_op op_sub (pe_callB (call_lenM m1 hr (by decide)) (by rfl) B.len PySem.boot_len (pa_cons (pv 0) pa_nil)) pe_int) pa_nil))))
        (pe_and (C8.pe_c c1 hr (by decide) (by rfl) (pa_cons (pe_ix ix_tup (pv 1) pe_int (fun _ _ => rfl)) (pa_cons (pe_un un_neg pe_int) (pa_cons pe_int pa_nil))))
        (pe_one (pe_cmpR op_ne (pe_ix ix_tup (pv 1) pe_int (fun _ _ => rfl)) pe_int (nomark _))))))), ?_⟩
    refine ⟨_, rfl, _, _, _, _, _, rfl, .ty _, .base (.tup he), kit_ty kit_tuptup, true, rfl, iteF ?_⟩
    refine ⟨_, rfl, a, _, rfl, .inr hT, rfl, _, rfl, iteNS rfl ?_⟩
    refine ⟨_, rfl, a, _, 0, _, rfl, rfl, hT, atI_nat (j := 0) rfl, _, rfl, o, dx, _, rfl, ho, o, n, m, es, rfl, hW, _, rfl, ⟨by omega, by omega⟩, _, _, rfl, rfl, _, _, _, rfl, by omega, by omega, true, rfl, iteT ?_⟩
    refine ⟨_, rfl, a, _, 1, _, rfl, rfl, hT, atI_nat (j := 1) rfl, 1, rfl, _, _, _, rfl, ?_, ?_, true, rfl, iteT ?_⟩
    · show (-1 : Int) ≤ st.2; omega
    · omega
    refine ⟨_, rfl, a, _, 1, _, rfl, rfl, hT, atI_nat (j := 1) rfl, rfl, ?_⟩
    have e : (!decide (V.int st.2 = V.int 0)) = true := by
      rw [decide_eq_false fun z => ?_]
      · rfl
      · have := V.int.inj z
        omega
    show Q (.bl (!decide (V.int st.2 = V.int 0))) H
    rw [e]
    exact q

/-! step_ends -/
abbrev Nse : List Str := ["web", "step", "number", "way", "tail", "head"]
theorem S_se : FnScope Nse ["web", "step"] (defScope s_step_ends) := ⟨rfl, rfl, rfl, by decide +kernel, rfl, by decide +kernel, by decide +kernel⟩
def sp_stepends (C : Addr) : Sp := fun vs H Q _ => ∃ (o a : Addr) (n m : Nat) (es : List Edge) (s : Nat × Int) (u x : Nat), vs = [.ref o, .ref a] ∧ WebAt C H o n m es ∧ StepAt H a s ∧ StepOk es s.1 s.2 u x ∧ ∀ p, H p = none → Q (.ref p) (upd H p (.tup [vn u, vn x]))
theorem c_stepends (D : Dn K mg "step_ends" s_step_ends) (m1 : C8.Met P w K mg base 3 C "edge" (sp_wedge C) []) : C8.Cal P w K mg base 4 "step_ends" (sp_stepends C) [] := by
  have S := S_se
  refine cal_mk D (ps := ["web", "step"]) (fun _ _ _ _ _ _ us hl => match us, hl with | [_, _], _ => rfl) S (fun vs H Q E h => ?_) (fun f cdv A outer s H vs Q E hr h => ?_)
  · obtain ⟨o, a, n, m, es, s, u, x, rfl, _⟩ := h; rfl
  · obtain ⟨o, a, n, m, es, st, u, x, rfl, hW, hs, hk, q⟩ := h
    obtain ⟨_, _, hl60, dx, eA, fA, lA, ho, _⟩ := id hW
    refine ⟨_, pss_cons (ps_asg (pv 1) (pg_tup rfl (pgs_cons (pg_name (i := 2) S.nd rfl (Or.inl rfl)) (pgs_cons (pg_name (i := 3) S.nd rfl (Or.inl rfl)) pgs_nil))))
      (pss_cons (ps_asg (C8.pe_mt m1 hr (by decide) (pv 0) (pa_cons (pv 2) pa_nil)) (pg_tup rfl (pgs_cons (pg_name (i := 4) S.nd rfl (Or.inl rfl)) (pgs_cons (pg_name (i := 5) S.nd rfl (Or.inl rfl)) pgs_nil))))
      (pss_one (ps_ret (pe_ifExp (pt_cmpR op_eq (pv 3) pe_int (nomark _)) (pe_tup (pa_cons (pv 4) (pa_cons (pv 5) pa_nil))) (pe_tup (pa_cons (pv 5) (pa_cons (pv 4) pa_nil))))))), ?_⟩
    obtain ⟨e, hie⟩ : ∃ e, es[st.1]? = some e := by
      rcases hk with ⟨_, h⟩ | ⟨_, h⟩
      · exact ⟨_, h⟩
      · exact ⟨_, h⟩
    refine ⟨_, rfl, a, _, rfl, .inl (.inl hs), rfl, _, _, rfl, _, _, rfl, rfl, ?_⟩
    refine ⟨_, rfl, o, dx, _, rfl, ho, wf_no2, _, rfl, o, n, m, es, st.1, e, rfl, hW, hie, fun b hb => ?_⟩
    refine ⟨b, _, rfl, .inl (.inl hb), rfl, _, _, rfl, _, _, rfl, rfl, ?_⟩
    refine ⟨_, rfl, rfl, _, rfl, ?_⟩
    rcases hk with ⟨h1, h⟩ | ⟨h1, h⟩
    · obtain rfl := Option.some.inj (hie.symm.trans h)
      rw [h1]
      exact iteT ⟨_, rfl, _, rfl, by show 2 ≤ sizeLine; decide, q⟩
    · obtain rfl := Option.some.inj (hie.symm.trans h)
      rw [h1]
      exact iteF ⟨_, rfl, _, rfl, by show 2 ≤ sizeLine; decide, q⟩

/-! is_walk -/
abbrev Niw : List Str := ["web", "thing", "ends", "step", "one", "other"]
theorem S_iw : FnScope Niw ["web", "thing"] (defScope s_is_walk) := ⟨rfl, rfl, rfl, by decide +kernel, rfl, by decide +kernel, by decide +kernel⟩
def sp_iswalk (C : Addr) : Sp := fun vs H Q _ => ∃ (o a : Addr) (n m : Nat) (es : List Edge) (ss : List (Nat × Int)) (u v : Nat), vs = [.ref o, .ref a] ∧ WebAt C H o n m es ∧ LsAt StepAt H a ss ∧ ss ≠ [] ∧ ss.length ≤ 100 ∧ (∃ eps, Chain es u v ss eps) ∧ ∀ H', Same H H' → Q (.bl true) H'
theorem c_iswalk (D : Dn K mg "is_walk" s_is_walk) (B : Bt mg) (c1 : C8.Cal P w K mg base 3 "is_step" (sp_isstep C) []) (c2 : C8.Cal P w K mg base 4 "step_ends" (sp_stepends C) []) : C8.Cal P w K mg base 5 "is_walk" (sp_iswalk C) [] := by
  have S := S_iw
  refine cal_mk D (ps := ["web", "thing"]) (fun _ _ _ _ _ _ us hl => match us, hl with | [_, _], _ => rfl) S (fun vs H Q E h => ?_) (fun f cdv A outer s H vs Q E hr h => ?_)
  · obtain ⟨o, a, n, m, es, ss, u, v, rfl, _⟩ := h; rfl
  · obtain ⟨o, a, n, m, es, ss, u, v, rfl, hW, hS, hne, hlen, ⟨eps, hch⟩, q⟩ := h
    obtain ⟨as, hea, hap⟩ := id hS
    have he := hW.ends
    have hu : (A.deeper (envOfC "is_walk" (defScope s_is_walk) s.heap.objs.size f cdv)).units + 64 < cLine := hr.units
    refine ⟨_, pss_cons (ps_if (PW.pt (pw_or (pt_not (pt_val (pe_callB call_isi (by rfl) B.isinstance bl_isinstance (pa_cons (pv 1) (pa_cons (pe_bltn (v := .ty "list") (by rfl) B.list bl_list rfl) pa_nil)))))
        (pw_or1 (pt_cmpR (op_eqD hu) (pv 1) (pe_lst pa_nil) (nomark _)))))
        (pss_one (ps_ret pe_bl)) pss_nil)
      (pss_cons (ps_if (pt_not (pt_val (pe_callB (cr_all rfl) (by rfl) B.all bl_all (pa_cons (pe_lc (own := [("step", 3)]) (g := gName 3) (tt := tYes) rfl S.nd (pi_list (pv 1)) (blkOk_by (own := [("step", 3)]) (N := Niw) (sc := defScope s_is_walk) (by decide +kernel))
            (fun _ _ _ _ _ => pg_name (i := 3) S.nd rfl (Or.inl rfl)) (fun _ _ _ _ _ => pts_nil) (fun _ _ _ _ _ => C8.pe_c c1 hr (by decide) (by rfl) (pa_cons (pv 0) (pa_cons (pv 3) pa_nil)))) pa_nil))))
        (pss_one (ps_ret pe_bl)) pss_nil)
      (pss_cons (ps_setLc (i := 2) (own := [("step", 3)]) (g := gName 3) (tt := tYes) rfl S.nd rfl rfl (sw_true rfl rfl rfl (by decide +kernel)) (pi_list (pv 1)) (blkOk_by (own := [("step", 3)]) (N := Niw) (sc := defScope s_is_walk) (by decide +kernel))
            (fun _ _ _ _ _ => pg_name (i := 3) S.nd rfl (Or.inl rfl)) (fun _ _ _ _ _ => pts_nil) (fun _ _ _ _ _ => C8.pe_c c2 hr (by decide) (by rfl) (pa_cons (pv 0) (pa_cons (pv 3) pa_nil))))
      (pss_one (ps_ret (pe_callB (cr_all rfl) (by rfl) B.all bl_all (pa_cons (pe_lc (own := [("one", 4), ("other", 5)]) (g := gTup K 2 (gCons (gName 4) (gCons (gName 5) gNil))) (tt := tYes) rfl S.nd
            (pi_zip (by rfl) B.zip (pa_cons (pv 2) (pa_cons (pe_slice sl_list (pv 2) (po_some pe_int) po_none) pa_nil))) (blkOk_by (own := [("one", 4), ("other", 5)]) (N := Niw) (sc := defScope s_is_walk) (by decide +kernel))
            (fun _ _ _ _ _ => pg_tup rfl (pgs_cons (pg_name (i := 4) S.nd rfl (Or.inl rfl)) (pgs_cons (pg_name (i := 5) S.nd rfl (Or.inl rfl)) pgs_nil))) (fun _ _ _ _ _ => pts_nil)
            (fun _ _ _ _ _ => pe_cmpR op_eq (pe_ix (r := rIxT K) ix_tup (pv 4) pe_int (fun _ _ => rfl)) (pe_ix (r := rIxT K) ix_tup (pv 5) pe_int (fun _ _ => rfl)) (nomark _))) pa_nil)))))), ?_⟩
    -- not isinstance(thing, list) or thing == []
    refine ⟨_, rfl, _, _, _, _, _, rfl, .ty _, .base (.lst hea), kit_ty kit_listlist, true, rfl, iteF ?_⟩
    refine ⟨_, rfl, Nat.zero_le _, fun p0 n0 => ?_⟩
    have s1 : Same H (upd H p0 (.lst [])) := same_new n0
    have hea1 := s1 _ _ hea
    refine ⟨.list (ss.map stepD), .list [], .lst (SqL.of hea1) (dp_steps (Paired.mapP hap fun a b r => mono_step _ _ _ _ s1 r)), .lst (SqL.of upd_same) .nil, shaped_steps ss, shaped_nil, _, rfl, ?_⟩
    have e0 : PyData.eqv (.list (ss.map stepD)) (.list []) = false := by
      cases ss with
      | nil => exact absurd rfl hne
      | cons s ss => rw [PyData.eqv, List.map_cons, PyData.eqvAll]
    rw [e0]
    refine iteF ?_
    generalize upd H p0 (.lst []) = H1 at s1 hea1 ⊢
    have hsl : as.length = ss.length := Paired.len hap
    -- all of the steps
    refine ⟨_, rfl, a, rfl, ⟨_, SqL.of hea1⟩, fun D1 nD1 => lc_list (K := K) (a := a) (xs := as.map V.ref) (fun j H' => H' = upd H1 D1 (.lst (List.replicate j (.bl true)))) rfl (fun j H' _ e => by rw [e]; exact SqL.of ((same_new nD1) _ _ hea1)) ?_ ?_⟩
    · rintro j y H' hj rfl
      obtain ⟨b, hb, rfl⟩ := refs_item hj
      obtain ⟨st, hst, hbs⟩ := Paired.at' hap hb
      obtain ⟨e, _, hso⟩ := Paired.at' hch.steps hst
      have sD : Same H (upd H1 D1 (.lst (List.replicate j (.bl true)))) := s1.fresh nD1
      have hjl : j < ss.length := (List.getElem?_eq_some_iff.mp hst).1
      refine ⟨rfl, yes ?_⟩
      exact ⟨_, rfl, _, rfl, o, b, n, m, es, st, rfl, hW.same sD, sD _ _ hbs, (hso.lt he).1, hso.way, _, upd_same, by rw [List.length_replicate]; exact line_lt (by omega), by rw [upd_upd, rep_snoc]⟩
    rintro H' rfl
    rw [List.length_map, hsl]
    refine ⟨D1, List.replicate ss.length true, rfl, SqL.of (by rw [bls]; exact upd_same), true, by rw [all_true], iteF ?_⟩
    have s2 : Same H (upd H1 D1 (.lst (List.replicate ss.length (.bl true)))) := s1.fresh nD1
    generalize upd H1 D1 (.lst (List.replicate ss.length (.bl true))) = H2 at s2 ⊢
    have hea2 := s2 _ _ hea
    have hepl : eps.length = ss.length := (Paired.len hch.steps).symm
    -- the ends
    refine ⟨_, rfl, a, rfl, ⟨_, SqL.of hea2⟩, fun D2 nD2 => lc_list (K := K) (a := a) (xs := as.map V.ref) (fun j H' => Same H H' ∧ ∃ bs : List Addr, H' D2 = some (.lst (bs.map V.ref)) ∧ Paired (EdgeAt H') bs (eps.take j)) ⟨s2.fresh nD2, [], upd_same, .nil⟩ (fun j H' _ e => SqL.of (e.1 _ _ hea)) ?_ ?_⟩
    · rintro j y H' hj ⟨sH, bs, hbs, hbp⟩
      obtain ⟨b, hb, rfl⟩ := refs_item hj
      obtain ⟨st, hst, hbst⟩ := Paired.at' hap hb
      obtain ⟨e, hje, hso⟩ := Paired.at' hch.steps hst
      refine ⟨rfl, yes ?_⟩
      refine ⟨_, rfl, _, rfl, o, b, n, m, es, st, e.1, e.2, rfl, hW.same sH, sH _ _ hbst, hso, fun p np => ?_⟩
      have hDp : D2 ≠ p := ne_fresh hbs np
      have hbl : bs.length ≤ 100 := by
        rw [Paired.len hbp, List.length_take]; omega
      refine ⟨_, by rw [upd_ne hDp]; exact hbs, by rw [List.length_map]; exact line_lt (by omega), (sH.fresh np).mut (s2.free nD2), bs ++ [p], by rw [upd_same, List.map_append]; rfl, ?_⟩
      rw [take_snoc hje]
      refine Paired.snoc (Paired.mapP hbp fun a b r => ?_) ?_
      · have r' : H' a = some (.tup [vn b.1, vn b.2]) := r
        show _ = _
        rw [upd_ne (ne_of r' hbs (by intro z; cases z)), upd_ne (ne_fresh r' np)]
        exact r'
      · show _ = _
        rw [upd_ne hDp.symm, upd_same]
    rintro H3 ⟨s3, bs, hbs, hbp⟩
    rw [List.length_map, hsl, ← hepl, List.take_length] at hbp
    have hbl : bs.length = eps.length := Paired.len hbp
    -- neighbours meet
    refine ⟨_, rfl, _, rfl, 1, rfl, D2, _, rfl, SqL.of hbs, fun c nc => ?_⟩
    rw [cut1]
    have s4 : Same H3 (upd H3 c (.lst ((bs.map V.ref).drop 1))) := same_new nc
    refine ⟨D2, c, bs.map V.ref, (bs.map V.ref).drop 1, rfl, SqL.of (s4 _ _ hbs), SqL.of upd_same, fun D3 nD3 => lc_it (walk_zip (K := K) (a := D2) (b := c) (xs := bs.map V.ref) (ys := (bs.map V.ref).drop 1) (n := bs.length - 1) (by rw [List.length_map, List.length_drop, List.length_map]; omega)) (fun j H' => Same (upd H3 c (.lst ((bs.map V.ref).drop 1))) H' ∧ H' D3 = some (.lst (List.replicate j (.bl true)))) ⟨same_new nD3, upd_same⟩
      (fun j H' _ e => ⟨SqL.of (e.1 _ _ (s4 _ _ hbs)), SqL.of (e.1 _ _ upd_same)⟩) ?_ ?_⟩
    · rintro j x H5 H6 hj ⟨s5, hD5⟩ ⟨T, x1, x2, rfl, nT, rfl, e1, e2⟩
      obtain ⟨b1, hb1, rfl⟩ := refs_item e1
      have e2' : (bs.map V.ref)[1 + j]? = some x2 := by rw [← List.getElem?_drop]; exact e2
      obtain ⟨b2, hb2, rfl⟩ := refs_item e2'
      obtain ⟨p1, hp1, hq1⟩ := Paired.at' hbp hb1
      obtain ⟨p2, hp2, hq2⟩ := Paired.at' hbp hb2
      have hm := hch.meets j p1 p2 hp1 (by rw [Nat.add_comm j 1]; exact hp2)
      have s6 : Same H3 (upd H5 T (.tup [.ref b1, .ref b2])) := (s4.trans s5).fresh nT
      have t1 : SqT K (upd H5 T (.tup [.ref b1, .ref b2])) b1 [vn p1.1, vn p1.2] := .inl (.inl (s6 _ _ hq1))
      have t2 : SqT K (upd H5 T (.tup [.ref b1, .ref b2])) b2 [vn p2.1, vn p2.2] := .inl (.inl (s6 _ _ hq2))
      have hDT : D3 ≠ T := ne_fresh hD5 nT
      refine ⟨T, _, rfl, .inl (.inl upd_same), rfl, _, _, rfl, _, _, rfl, rfl, rfl, yes ?_⟩
      refine ⟨_, rfl, b1, _, 1, _, rfl, rfl, t1, atI_nat (j := 1) rfl, _, rfl, b2, _, 0, _, rfl, rfl, t2, atI_nat (j := 0) rfl, rfl, ?_⟩
      rw [dec_vn, decide_eq_true hm]
      exact ⟨_, by rw [upd_ne hDT]; exact hD5, by rw [List.length_replicate]; exact line_lt (by omega), (s5.fresh nT).mut nD3, by rw [upd_same, rep_snoc]⟩
    rintro H5 ⟨s5, hD5⟩
    refine ⟨D3, List.replicate (bs.length - 1) true, rfl, SqL.of (by rw [bls]; exact hD5), ?_⟩
    rw [all_true]
    exact q H5 ((s3.trans s4).trans s5)
end
end K18

set_option Elab.async false
set_option linter.all false
set_option maxRecDepth 100000
set_option maxHeartbeats 4000000
/-! Gains are checked; sums of walks and cycles; normal gains; the three counts. -/
namespace K18
open PySem PySem.Spec PyProof.Rows L2
def wsum (g : List Nat) (ss : List (Nat × Int)) : Int := (ss.map fun s => s.2 * (g.getD s.1 0 : Int)).sum
theorem wsum_cons (g : List Nat) (s : Nat × Int) (ss : List (Nat × Int)) : wsum g (s :: ss) = s.2 * (g.getD s.1 0 : Int) + wsum g ss := by unfold wsum; rw [List.map_cons, List.sum_cons]
/-- what the sum of a cycle may be -/
def CycVal (m : Nat) (es : List Edge) (g : List Nat) (i x : Nat) : Prop := ∃ t h r, es[i]? = some (t, h) ∧ PathOk es h t r ∧ x = low m ((g.getD i 0 : Int) + wsum g r)
theorem flat_sum {es : List Edge} {g : List Nat} (hf : flat (frst es) g = true) {v : Nat} : ∀ {r : List (Nat × Int)} {u : Nat}, PathOk es u v r → wsum g r = 0
  | [], _, _ => rfl
  | s :: r, u, ⟨h1, x, _, h3⟩ => by
    rw [wsum_cons, flat_sum hf h3, flat_iff.mp hf s.1 h1]
    simp
/-- the gains that are 0 but at the places is, where they are xs -/
def fillr : List Nat → List Nat → List Nat → List Nat
  | r, i :: is, x :: xs => fillr (r.set i x) is xs
  | r, _, _ => r
theorem fillr_len : ∀ (is xs r : List Nat), (fillr r is xs).length = r.length
  | [], _, _ => rfl
  | _ :: _, [], _ => rfl
  | i :: is, x :: xs, r => by rw [fillr, fillr_len is xs, List.length_set]
theorem fillr_out : ∀ (is xs r : List Nat) (k : Nat), k ∉ is → (fillr r is xs).getD k 0 = r.getD k 0
  | [], _, _, _, _ => rfl
  | _ :: _, [], _, _, _ => rfl
  | i :: is, x :: xs, r, k, h => by
    rw [fillr, fillr_out is xs _ k fun z => h (List.mem_cons_of_mem _ z), List.getD_eq_getElem?_getD, List.getD_eq_getElem?_getD, List.getElem?_set_ne]
    exact fun e => h (e ▸ List.mem_cons_self)
theorem fillr_in : ∀ (is xs r : List Nat) (j k x : Nat), is.Nodup → is[j]? = some k → xs[j]? = some x → k < r.length → (fillr r is xs).getD k 0 = x
  | [], _, _, _, _, _, _, h, _, _ => by simp at h
  | _ :: _, [], _, _, _, _, _, _, h, _ => by simp at h
  | i :: is, y :: xs, r, 0, k, x, nd, h1, h2, hk => by
    obtain rfl := Option.some.inj h1
    obtain rfl := Option.some.inj h2
    rw [fillr, fillr_out is xs _ _ (List.nodup_cons.mp nd).1, List.getD_eq_getElem?_getD, List.getElem?_set_self hk]
    rfl
  | i :: is, y :: xs, r, j + 1, k, x, nd, h1, h2, hk => fillr_in is xs (r.set i y) j k x (List.nodup_cons.mp nd).2 h1 h2 (by rw [List.length_set]; exact hk)
theorem fillr_snoc : ∀ (is xs r : List Nat) (i x : Nat), is.length = xs.length → fillr r (is ++ [i]) (xs ++ [x]) = (fillr r is xs).set i x
  | [], [], r, i, x, _ => rfl
  | [], _ :: _, _, _, _, h => by simp at h
  | _ :: _, [], _, _, _, h => by simp at h
  | j :: is, y :: xs, r, i, x, h => by
    show fillr (r.set j y) (is ++ [i]) (xs ++ [x]) = (fillr (r.set j y) is xs).set i x
    exact fillr_snoc is xs _ i x (by simpa using h)
theorem normal_ok {m : Nat} (hm : 0 < m) {es : List Edge} {g sums : List Nat} (hg : g ∈ allv m es.length) (hs : sums.length = (outs (frst es) es.length).length) (hc : ∀ (j i x : Nat), (outs (frst es) es.length)[j]? = some i → sums[j]? = some x → CycVal m es g i x) :
    Nrm m es g (fillr (List.replicate es.length 0) (outs (frst es) es.length) sums) := by
  obtain ⟨hgl, hgx⟩ := mem_allv.mp hg
  have hl : (fillr (List.replicate es.length 0) (outs (frst es) es.length) sums).length = es.length := by rw [fillr_len, List.length_replicate]
  have zero : ∀ i, (List.replicate es.length 0).getD i 0 = 0 := fun i => by
    rw [List.getD_eq_getElem?_getD, List.getElem?_replicate]
    split <;> rfl
  -- the value at a place
  have val : ∀ i, i < es.length → i ∉ frst es → ∃ x, (fillr (List.replicate es.length 0) (outs (frst es) es.length) sums).getD i 0 = x ∧ CycVal m es g i x := by
    intro i hi hF
    obtain ⟨j, hj⟩ := List.getElem?_of_mem (mem_outs.mpr ⟨hi, hF⟩)
    have hjl := (List.getElem?_eq_some_iff.mp hj).1
    have hx : sums[j]? = some sums[j] := List.getElem?_eq_getElem (by omega)
    exact ⟨_, fillr_in _ _ _ j i _ (nodup_outs _ _) hj hx (by rw [List.length_replicate]; exact hi), hc j i _ hj hx⟩
  have flatN : ∀ i, i ∈ frst es → (fillr (List.replicate es.length 0) (outs (frst es) es.length) sums).getD i 0 = 0 := fun i hi => by
    rw [fillr_out _ _ _ i (fun z => (mem_outs.mp z).2 hi), zero]
  refine ⟨mem_allv.mpr ⟨hl, fun x hx => ?_⟩, flat_iff.mpr flatN, fun hf => ?_⟩
  · obtain ⟨i, hi⟩ := List.getElem?_of_mem hx
    have hil := (List.getElem?_eq_some_iff.mp hi).1
    have e : (fillr (List.replicate es.length 0) (outs (frst es) es.length) sums).getD i 0 = x := by rw [List.getD_eq_getElem?_getD, hi]; rfl
    by_cases hF : i ∈ frst es
    · rw [flatN i hF] at e; omega
    · obtain ⟨y, hy, t, h, r, _, _, hv⟩ := val i (by omega) hF
      rw [← e, hy, hv]
      exact low_lt hm _
  · refine ext_getD (k := es.length) hl hgl fun i hi => ?_
    by_cases hF : i ∈ frst es
    · rw [flatN i hF, flat_iff.mp hf i hF]
    · obtain ⟨y, hy, t, h, r, _, hp, hv⟩ := val i hi hF
      rw [hy, hv, flat_sum hf hp, Int.add_zero]
      unfold low
      have := get_lt hg hi
      rw [Int.emod_eq_of_lt (by omega) (by omega)]
      omega
section
variable {P : Program} {w : World} {K : PySem.W.Frag} {mg : Str → Option Value} {base : Heap} {C : Addr}

/-! are_residues, is_gains, check_gains -/
abbrev Nar : List Str := ["web", "thing", "count", "one"]
theorem S_ar : FnScope Nar ["web", "thing", "count"] (defScope s_are_residues) := ⟨rfl, rfl, rfl, by decide +kernel, rfl, by decide +kernel, by decide +kernel⟩
def sp_areres (C : Addr) : Sp := fun vs H Q _ => ∃ (o a : Addr) (n m : Nat) (es : List Edge) (g : List Nat) (k : Nat), vs = [.ref o, .ref a, vn k] ∧ WebAt C H o n m es ∧ RowAt H a g ∧ g ∈ allv m k ∧ k ≤ 100 ∧ 0 < m ∧ ∀ H', Same H H' → Q (.bl true) H'
theorem c_areres (D : Dn K mg "are_residues" s_are_residues) (B : Bt mg) (c1 : C8.Cal P w K mg base 3 "is_residue" (sp_isres C) []) : C8.Cal P w K mg base 4 "are_residues" (sp_areres C) [] := by
  have S := S_ar
  refine cal_mk D (ps := ["web", "thing", "count"]) (fun _ _ _ _ _ _ us hl => match us, hl with | [_, _, _], _ => rfl) S (fun vs H Q E h => ?_) (fun f cdv A outer s H vs Q E hr h => ?_)
  · obtain ⟨o, a, n, m, es, g, k, rfl, _⟩ := h; rfl
  · obtain ⟨o, a, n, m, es, g, k, rfl, hW, hR, hg, hk, hm, q⟩ := h
    obtain ⟨hgl, hgx⟩ := mem_allv.mp hg
    refine ⟨_, pss_one (ps_ret (pe_and (pe_callB call_isi (by rfl) B.isinstance bl_isinstance (pa_cons (pv 1) (pa_cons (pe_bltn (v := .ty "list") (by rfl) B.list bl_list rfl) pa_nil)))
      (pe_and (pe_cmpR op_eq (pe_callB call_len_seq (by rfl) B.len PySem.boot_len (pa_cons (pv 1) pa_nil)) (pv 2) (nomark _))
      (pe_one (pe_callB (cr_all rfl) (by rfl) B.all bl_all (pa_cons (pe_lc (own := [("one", 3)]) (g := gName 3) (tt := tYes) rfl S.nd (pi_list (pv 1)) (blkOk_by (own := [("one", 3)]) (N := Nar) (sc := defScope s_are_residues) (by decide +kernel))
            (fun _ _ _ _ _ => pg_name (i := 3) S.nd rfl (Or.inl rfl)) (fun _ _ _ _ _ => pts_nil) (fun _ _ _ _ _ => C8.pe_c c1 hr (by decide) (by rfl) (pa_cons (pv 0) (pa_cons (pv 3) pa_nil)))) pa_nil)))))), ?_⟩
    refine ⟨_, rfl, _, _, _, _, _, rfl, .ty _, .base (.lst hR), kit_ty kit_listlist, true, rfl, iteT ?_⟩
    have hgl2 : (g.map vn).length = k := by rw [List.length_map, hgl]
    refine ⟨_, rfl, a, _, rfl, .inl (SqL.of hR), _, rfl, rfl, true, ?_, iteT ?_⟩
    · rw [hgl2, decide_eq_true rfl]
    refine ⟨_, rfl, a, rfl, ⟨_, SqL.of hR⟩, fun D1 nD1 => lc_list (K := K) (a := a) (xs := g.map vn) (fun j H' => H' = upd H D1 (.lst (List.replicate j (.bl true)))) rfl (fun j H' _ e => by rw [e]; exact SqL.of ((same_new nD1) _ _ hR)) ?_ ?_⟩
    · rintro j y H' hj rfl
      obtain ⟨x, hx, rfl⟩ := vns_item hj
      have hjl : j < g.length := (List.getElem?_eq_some_iff.mp hx).1
      refine ⟨rfl, yes ?_⟩
      exact ⟨_, rfl, _, rfl, o, n, m, es, x, rfl, hW.same (same_new nD1), hgx x (List.mem_of_getElem? hx), _, upd_same, by rw [List.length_replicate]; exact line_lt (by omega), by rw [upd_upd, rep_snoc]⟩
    rintro H' rfl
    refine ⟨D1, List.replicate (g.map vn).length true, rfl, SqL.of (by rw [bls]; exact upd_same), ?_⟩
    rw [all_true]
    exact q _ (same_new nD1)
def sp_isgains (C : Addr) : Sp := fun vs H Q _ => ∃ (o a : Addr) (n m : Nat) (es : List Edge) (g : List Nat), vs = [.ref o, .ref a] ∧ WebAt C H o n m es ∧ RowAt H a g ∧ g ∈ allv m es.length ∧ 0 < m ∧ ∀ H', Same H H' → Q (.bl true) H'
theorem c_isgains (D : Dn K mg "is_gains" s_is_gains) (B : Bt mg) (c1 : C8.Cal P w K mg base 4 "are_residues" (sp_areres C) []) (m1 : C8.Met P w K mg base 1 C "__len__" (sp_wlen C) []) : C8.Cal P w K mg base 5 "is_gains" (sp_isgains C) [] := by
  refine cal_mk D (ps := ["web", "thing"]) (fun _ _ _ _ _ _ us hl => match us, hl with | [_, _], _ => rfl) (N := ["web", "thing"]) ⟨rfl, rfl, rfl, by decide +kernel, rfl, by decide +kernel, by decide +kernel⟩ (fun vs H Q E h => ?_) (fun f cdv A outer s H vs Q E hr h => ?_)
  · obtain ⟨o, a, n, m, es, g, rfl, _⟩ := h; rfl
  · obtain ⟨o, a, n, m, es, g, rfl, hW, hR, hg, hm, q⟩ := h
    obtain ⟨_, _, hl60, dx, eA, fA, lA, ho, _⟩ := id hW
    refine ⟨_, pss_one (ps_ret (C8.pe_c c1 hr (by decide) (by rfl) (pa_cons (pv 0) (pa_cons (pv 1) (pa_cons (pe_callB (call_lenM m1 hr (by decide)) (by rfl) B.len PySem.boot_len (pa_cons (pv 0) pa_nil)) pa_nil))))), ?_⟩
    exact ⟨_, rfl, _, rfl, _, rfl, o, dx, _, rfl, ho, o, n, m, es, rfl, hW, _, rfl, ⟨by omega, by omega⟩, o, a, n, m, es, g, es.length, rfl, hW, hR, hg, by omega, hm, q⟩
def sp_checkgains (C : Addr) : Sp := fun vs H Q _ => ∃ (o a : Addr) (n m : Nat) (es : List Edge) (g : List Nat), vs = [.ref o, .ref a] ∧ WebAt C H o n m es ∧ RowAt H a g ∧ g ∈ allv m es.length ∧ 0 < m ∧ ∀ H', Same H H' → Q .non H'
theorem c_checkgains (D : Dn K mg "check_gains" s_check_gains) (c1 : C8.Cal P w K mg base 5 "is_gains" (sp_isgains C) []) : C8.Cal P w K mg base 6 "check_gains" (sp_checkgains C) [] := by
  refine cal_mk D (ps := ["web", "gains"]) (fun _ _ _ _ _ _ us hl => match us, hl with | [_, _], _ => rfl) (N := ["web", "gains"]) ⟨rfl, rfl, rfl, by decide +kernel, rfl, by decide +kernel, by decide +kernel⟩ (fun vs H Q E h => ?_) (fun f cdv A outer s H vs Q E hr h => ?_)
  · obtain ⟨o, a, n, m, es, g, rfl, _⟩ := h; rfl
  · obtain ⟨o, a, n, m, es, g, rfl, hW, hR, hg, hm, q⟩ := h
    refine ⟨_, pss_one (ps_if (pt_not (pt_val (C8.pe_c c1 hr (by decide) (by rfl) (pa_cons (pv 0) (pa_cons (pv 1) pa_nil))))) pss_never pss_nil), ?_⟩
    exact ⟨_, rfl, _, rfl, o, a, n, m, es, g, rfl, hW, hR, hg, hm, fun H' s' => ⟨true, rfl, iteF (q H' s')⟩⟩

/-! walk_sum -/
abbrev Nws : List Str := ["web", "gains", "walk", "number", "way"]
theorem S_ws : FnScope Nws ["web", "gains", "walk"] (defScope s_walk_sum) := ⟨rfl, rfl, rfl, by decide +kernel, rfl, by decide +kernel, by decide +kernel⟩
def sp_walksum (C : Addr) : Sp := fun vs H Q _ => ∃ (o a b : Addr) (n m : Nat) (es : List Edge) (g : List Nat) (ss : List (Nat × Int)) (u v : Nat), vs = [.ref o, .ref a, .ref b] ∧ WebAt C H o n m es ∧ RowAt H a g ∧ g ∈ allv m es.length ∧ 0 < m ∧ LsAt StepAt H b ss ∧ ss ≠ [] ∧ ss.length ≤ 100 ∧ (∃ eps, Chain es u v ss eps) ∧
  ∀ H', Same H H' → Q (vn (low m (wsum g ss))) H'
theorem c_walksum (D : Dn K mg "walk_sum" s_walk_sum) (B : Bt mg) (c1 : C8.Cal P w K mg base 6 "check_gains" (sp_checkgains C) []) (c2 : C8.Cal P w K mg base 5 "is_walk" (sp_iswalk C) []) (c3 : C8.Cal P w K mg base 2 "residue" (sp_residue C) []) : C8.Cal P w K mg base 7 "walk_sum" (sp_walksum C) [] := by
  have S := S_ws
  refine cal_mk D (ps := ["web", "gains", "walk"]) (fun _ _ _ _ _ _ us hl => match us, hl with | [_, _, _], _ => rfl) S (fun vs H Q E h => ?_) (fun f cdv A outer s H vs Q E hr h => ?_)
  · obtain ⟨o, a, b, n, m, es, g, ss, u, v, rfl, _⟩ := h; rfl
  · obtain ⟨o, a, b, n, m, es, g, ss, u, v, rfl, hW, hR, hg, hm, hS, hne, hlen, hch, q⟩ := h
    obtain ⟨hgl, hgx⟩ := mem_allv.mp hg
    refine ⟨_, pss_cons (ps_expr (C8.pe_c c1 hr (by decide) (by rfl) (pa_cons (pv 0) (pa_cons (pv 1) pa_nil))))
      (pss_cons (ps_if (pt_not (pt_val (C8.pe_c c2 hr (by decide) (by rfl) (pa_cons (pv 0) (pa_cons (pv 2) pa_nil))))) pss_never pss_nil)
      (pss_one (ps_ret (C8.pe_c c3 hr (by decide) (by rfl) (pa_cons (pv 0) (pa_cons (pe_callB (cr_sum rfl) (by rfl) B.sum bl_sum (pa_cons
        (pe_lc (own := [("number", 3), ("way", 4)]) (g := gTup K 2 (gCons (gName 3) (gCons (gName 4) gNil))) (tt := tYes) rfl S.nd (pi_list (pv 2)) (blkOk_by (own := [("number", 3), ("way", 4)]) (N := Nws) (sc := defScope s_walk_sum) (by decide +kernel))
          (fun _ _ _ _ _ => pg_tup rfl (pgs_cons (pg_name (i := 3) S.nd rfl (Or.inl rfl)) (pgs_cons (pg_name (i := 4) S.nd rfl (Or.inl rfl)) pgs_nil))) (fun _ _ _ _ _ => pts_nil)
          (fun _ _ _ _ _ => pe_op op_mul (pv 4) (pe_ix (r := rIxL K) ix_list (pv 1) (pv 3) (fun _ _ => rfl)))) pa_nil)) pa_nil)))))), ?_⟩
    refine ⟨_, rfl, _, rfl, o, a, n, m, es, g, rfl, hW, hR, hg, hm, fun H1 s1 => ?_⟩
    refine ⟨_, rfl, _, rfl, o, b, n, m, es, ss, u, v, rfl, hW.same s1, hS.same mono_step s1, hne, hlen, hch, fun H2 s12 => ⟨true, rfl, iteF ?_⟩⟩
    have s2 := s1.trans s12
    obtain ⟨as, hea, hap⟩ := id hS
    have hea2 := s2 _ _ hea
    have hR2 := s2 _ _ hR
    obtain ⟨eps, hc⟩ := hch
    refine ⟨_, rfl, _, rfl, b, rfl, ⟨_, SqL.of hea2⟩, fun D1 nD1 => lc_list (K := K) (a := b) (xs := as.map V.ref) (fun j H' => H' = upd H2 D1 (.lst ((ss.take j).map fun s => V.int (s.2 * (g.getD s.1 0 : Int))))) rfl (fun j H' _ e => by rw [e]; exact SqL.of ((same_new nD1) _ _ hea2)) ?_ ?_⟩
    · rintro j y H' hj rfl
      obtain ⟨x, hx, rfl⟩ := refs_item hj
      obtain ⟨st, hst, hbs⟩ := Paired.at' hap hx
      obtain ⟨e, _, hso⟩ := Paired.at' hc.steps hst
      have hil := (hso.lt hW.ends).1
      have sD : Same H (upd H2 D1 (.lst ((ss.take j).map fun s => V.int (s.2 * (g.getD s.1 0 : Int))))) := s2.fresh nD1
      have hgi : (g.map vn)[st.1]? = some (vn (g.getD st.1 0)) := by
        rw [List.getElem?_map, List.getD_eq_getElem?_getD, List.getElem?_eq_getElem (by omega)]; rfl
      have hjl : (ss.take j).length ≤ 100 := by rw [List.length_take]; omega
      refine ⟨x, _, rfl, .inl (.inl (sD _ _ hbs)), rfl, _, _, rfl, _, _, rfl, rfl, rfl, yes ?_⟩
      refine ⟨_, rfl, _, rfl, _, rfl, a, _, _, _, rfl, rfl, SqL.of (sD _ _ hR), atI_nat hgi, _, _, rfl, rfl, .inl ?_, _, upd_same, by rw [List.length_map]; exact line_lt (by omega), ?_⟩
      · rcases hso.way with h | h
        · rw [h]; exact ⟨by decide, by decide⟩
        · rw [h]; exact ⟨by decide, by decide⟩
      · rw [upd_upd, take_snoc hst, List.map_append]
        rfl
    rintro H' rfl
    rw [List.length_map, Paired.len hap, List.take_length]
    have e : (ss.map fun s => V.int (s.2 * (g.getD s.1 0 : Int))) = (ss.map fun s => s.2 * (g.getD s.1 0 : Int)).map V.int := by rw [List.map_map]; rfl
    refine ⟨D1, ss.map fun s => s.2 * (g.getD s.1 0 : Int), rfl, SqL.of (by rw [← e]; exact upd_same), ?_⟩
    refine ⟨o, n, m, es, _, rfl, hW.same (s2.fresh nD1), hm, ?_⟩
    have z := q _ (s2.fresh (o := .lst (ss.map fun s => V.int (s.2 * (g.getD s.1 0 : Int)))) nD1)
    have e2 : vn (low m (wsum g ss)) = V.int (wsum g ss % (m : Int)) := congrArg V.int (low_cast hm _)
    rw [e2] at z
    exact z

/-! cycle_sums -/
abbrev Ncs : List Str := ["web", "gains", "cycle"]
theorem S_cs : FnScope Ncs ["web", "gains"] (defScope s_cycle_sums) := ⟨rfl, rfl, rfl, by decide +kernel, rfl, by decide +kernel, by decide +kernel⟩
def sp_cycsums (C : Addr) : Sp := fun vs H Q _ => ∃ (o a : Addr) (n m : Nat) (es : List Edge) (g : List Nat), vs = [.ref o, .ref a] ∧ WebAt C H o n m es ∧ RowAt H a g ∧ g ∈ allv m es.length ∧ 0 < m ∧
  ∀ H' p sums, Same H H' → H p = none → RowAt H' p sums → Paired (CycVal m es g) (outs (frst es) es.length) sums → Q (.ref p) H'
theorem outs_le (F : List Nat) (k : Nat) : (outs F k).length ≤ k := by
  have := List.length_filter_le (fun i => decide (i ∉ F)) (List.range k)
  rw [List.length_range] at this
  exact this
theorem Paired.take {α β : Type} {F : α → β → Prop} : ∀ {l : List α} {k : List β} (n : Nat), Paired F l k → Paired F (l.take n) (k.take n)
  | _, _, 0, _ => .nil
  | _, _, _ + 1, .nil => .nil
  | _, _, n + 1, .cons r t => .cons r (Paired.take n t)
theorem c_cycsums (D : Dn K mg "cycle_sums" s_cycle_sums) (c1 : C8.Cal P w K mg base 6 "check_gains" (sp_checkgains C) []) (c2 : C8.Cal P w K mg base 7 "walk_sum" (sp_walksum C) []) (m1 : C8.Met P w K mg base 2 C "cycles" (sp_wcycles C) []) : C8.Cal P w K mg base 8 "cycle_sums" (sp_cycsums C) [] := by
  have S := S_cs
  refine cal_mk D (ps := ["web", "gains"]) (fun _ _ _ _ _ _ us hl => match us, hl with | [_, _], _ => rfl) S (fun vs H Q E h => ?_) (fun f cdv A outer s H vs Q E hr h => ?_)
  · obtain ⟨o, a, n, m, es, g, rfl, _⟩ := h; rfl
  · obtain ⟨o, a, n, m, es, g, rfl, hW, hR, hg, hm, q⟩ := h
    obtain ⟨_, _, hl60, dx, eA, fA, lA, ho, _⟩ := id hW
    refine ⟨_, pss_cons (ps_expr (C8.pe_c c1 hr (by decide) (by rfl) (pa_cons (pv 0) (pa_cons (pv 1) pa_nil))))
      (pss_one (ps_ret (pe_lc (own := [("cycle", 2)]) (g := gName 2) (tt := tYes) rfl S.nd (pi_list (C8.pe_mt0 m1 hr (by decide) (pv 0))) (blkOk_by (own := [("cycle", 2)]) (N := Ncs) (sc := defScope s_cycle_sums) (by decide +kernel))
          (fun _ _ _ _ _ => pg_name (i := 2) S.nd rfl (Or.inl rfl)) (fun _ _ _ _ _ => pts_nil) (fun _ _ _ _ _ => C8.pe_c c2 hr (by decide) (by rfl) (pa_cons (pv 0) (pa_cons (pv 1) (pa_cons (pv 2) pa_nil))))))), ?_⟩
    refine ⟨_, rfl, _, rfl, o, a, n, m, es, g, rfl, hW, hR, hg, hm, fun H1 s1 => ?_⟩
    refine ⟨_, rfl, o, dx, _, rfl, s1 _ _ ho, wf_no5, o, n, m, es, rfl, hW.same s1, fun H2 pc css s12 npc hcs hco => ?_⟩
    have s2 := s1.trans s12
    obtain ⟨cas, hca, hcp⟩ := hcs
    have hcl : css.length = (outs (frst es) es.length).length := (Paired.len hco).symm
    have ho60 := outs_le (frst es) es.length
    refine ⟨pc, rfl, ⟨_, SqL.of hca⟩, fun D1 nD1 => lc_list (K := K) (a := pc) (xs := cas.map V.ref) (fun j H' => Same H2 H' ∧ ∃ sums, RowAt H' D1 sums ∧ Paired (CycVal m es g) ((outs (frst es) es.length).take j) sums) ⟨same_new nD1, [], upd_same, .nil⟩ (fun j H' _ e => SqL.of (e.1 _ _ hca)) ?_ ?_⟩
    · rintro j y H' hj ⟨sH, sums, hs, hsp⟩
      obtain ⟨x, hx, rfl⟩ := refs_item hj
      obtain ⟨c, hc, hxc⟩ := Paired.at' hcp hx
      obtain ⟨i, hi, t, h, r, hie, rfl, hpo, hrl⟩ := Paired.at hco hc
      obtain ⟨eps, hch⟩ := hpo.chain
      have sA := s2.trans sH
      refine ⟨rfl, yes ?_⟩
      refine ⟨_, rfl, _, rfl, _, rfl, o, a, x, n, m, es, g, (i, 1) :: r, t, t, rfl, hW.same sA, sA _ _ hR, hg, hm, hxc.same mono_step sH, List.cons_ne_nil _ _, by rw [List.length_cons]; omega, ⟨(t, h) :: eps, rfl, .inl ⟨rfl, hie⟩, hch⟩, fun H3 s3 => ?_⟩
      have hsl : sums.length ≤ 60 := by
        rw [← Paired.len hsp, List.length_take]; omega
      refine ⟨_, s3 _ _ hs, by rw [List.length_map]; exact line_lt (by omega), (sH.trans s3).mut (nD1), sums ++ [low m (wsum g ((i, 1) :: r))], ?_, ?_⟩
      · show _ = _
        rw [upd_same, List.map_append]; rfl
      · rw [take_snoc hi]
        refine Paired.snoc hsp ⟨t, h, r, hie, hpo, ?_⟩
        rw [wsum_cons, Int.one_mul]
    · rintro H' ⟨sH, sums, hs, hsp⟩
      rw [List.length_map, Paired.len hcp, hcl, List.take_length] at hsp
      exact q H' D1 sums (s2.trans sH) (s2.free nD1) hs hsp

/-! normal -/
abbrev Nno : List Str := ["web", "gains", "sums", "found", "cycle", "total"]
theorem S_no : FnScope Nno ["web", "gains"] (defScope s_normal) := ⟨rfl, rfl, rfl, by decide +kernel, rfl, by decide +kernel, by decide +kernel⟩
def sp_normal (C : Addr) : Sp := fun vs H Q _ => ∃ (o a : Addr) (n m : Nat) (es : List Edge) (g : List Nat), vs = [.ref o, .ref a] ∧ WebAt C H o n m es ∧ RowAt H a g ∧ g ∈ allv m es.length ∧ 0 < m ∧
  ∀ H' p r, Same H H' → H p = none → RowAt H' p r → Nrm m es g r → Q (.ref p) H'
theorem rep_flat (k : Nat) : (List.replicate k [V.int 0]).flatten = (List.replicate k 0).map vn := by
  induction k with
  | zero => rfl
  | succ k ih => rw [List.replicate_succ, List.flatten_cons, ih, List.replicate_succ, List.map_cons]; rfl
theorem c_normal (D : Dn K mg "normal" s_normal) (B : Bt mg) (c1 : C8.Cal P w K mg base 8 "cycle_sums" (sp_cycsums C) []) (m1 : C8.Met P w K mg base 2 C "cycles" (sp_wcycles C) []) (m2 : C8.Met P w K mg base 1 C "__len__" (sp_wlen C) []) : C8.Cal P w K mg base 9 "normal" (sp_normal C) [] := by
  have S := S_no
  refine cal_mk D (ps := ["web", "gains"]) (fun _ _ _ _ _ _ us hl => match us, hl with | [_, _], _ => rfl) S (fun vs H Q E h => ?_) (fun f cdv A outer s H vs Q E hr h => ?_)
  · obtain ⟨o, a, n, m, es, g, rfl, _⟩ := h; rfl
  · obtain ⟨o, a, n, m, es, g, rfl, hW, hR, hg, hm, q⟩ := h
    obtain ⟨_, _, hl60, dx, eA, fA, lA, ho, _⟩ := id hW
    refine ⟨_, pss_cons (ps_set (i := 2) S.nd rfl (Or.inl rfl) (C8.pe_c c1 hr (by decide) (by rfl) (pa_cons (pv 0) (pa_cons (pv 1) pa_nil))))
      (pss_cons (ps_set (i := 3) S.nd rfl (Or.inl rfl) (pe_op op_rep (pe_lst (pa_cons pe_int pa_nil)) (pe_callB (call_lenM m2 hr (by decide)) (by rfl) B.len PySem.boot_len (pa_cons (pv 0) pa_nil))))
      (pss_cons (ps_for PassesOwn.never rfl (pi_zip (by rfl) B.zip (pa_cons (C8.pe_mt0 m1 hr (by decide) (pv 0)) (pa_cons (pv 2) pa_nil)))
          (pg_tup rfl (pgs_cons (pg_name (i := 4) S.nd rfl (Or.inl rfl)) (pgs_cons (pg_name (i := 5) S.nd rfl (Or.inl rfl)) pgs_nil)))
        (pss_one (ps_asg (pv 5) (pg_sub (pv 3) (pe_ix ix_tup (pe_ix ix_list (pv 4) pe_int (fun _ _ => rfl)) pe_int (fun _ _ => rfl)) set_list))))
      (pss_one (ps_ret (pv 3))))), ?_⟩
    refine ⟨_, rfl, _, rfl, o, a, n, m, es, g, rfl, hW, hR, hg, hm, fun H1 pS sums s1 npS hS hSv => ?_⟩
    refine ⟨by show 1 ≤ sizeLine; decide, fun l0 nl0 => ?_⟩
    have s2 := s1.fresh (o := .lst [V.int 0]) nl0
    refine ⟨_, rfl, o, dx, _, rfl, s2 _ _ ho, o, n, m, es, rfl, hW.same s2, _, rfl, ⟨by omega, by omega⟩, l0, _, _, rfl, rfl, upd_same, by omega, by omega, ?_, fun fA' nfA' => ?_⟩
    · rw [Int.toNat_natCast]
      show 1 * es.length ≤ sizeLine
      exact line_big (by omega)
    rw [Int.toNat_natCast, rep_flat]
    have nfA0 : H fA' = none := s2.free nfA'
    have s3 := s2.fresh (o := .lst ((List.replicate es.length 0).map vn)) nfA'
    have hS3 : upd (upd H1 l0 (.lst [V.int 0])) fA' (.lst ((List.replicate es.length 0).map vn)) pS = some (.lst (sums.map vn)) := ((same_new nl0).trans (same_new nfA')) _ _ hS
    have hf3 : upd (upd H1 l0 (.lst [V.int 0])) fA' (.lst ((List.replicate es.length 0).map vn)) fA' = some (.lst ((List.replicate es.length 0).map vn)) := upd_same
    have hSf : pS ≠ fA' := ne_fresh (same_new nl0 _ _ hS) nfA'
    generalize upd (upd H1 l0 (.lst [V.int 0])) fA' (.lst ((List.replicate es.length 0).map vn)) = H3 at s3 hS3 hf3 ⊢
    have hslen : sums.length = (outs (frst es) es.length).length := (Paired.len hSv).symm
    -- the loop
    refine ⟨_, rfl, o, dx, _, rfl, s3 _ _ ho, wf_no5, o, n, m, es, rfl, hW.same s3, fun H4 pc css s34 npc hcs hco => ?_⟩
    obtain ⟨cas, hca, hcp⟩ := hcs
    have hcl : cas.length = sums.length := by rw [Paired.len hcp, ← Paired.len hco, hslen]
    have hcf : pc ≠ fA' := fun e => by rw [e, hf3] at npc; cases npc
    have hGs : RowAt (hid H4 fA') pS sums := by
      show _ = _
      rw [hid_ne hSf]; exact s34 _ _ hS3
    have hGc : hid H4 fA' pc = some (.lst (cas.map V.ref)) := by rw [hid_ne hcf]; exact hca
    have hGp : Paired (LsAt StepAt (hid H4 fA')) cas css := by
      have step : ∀ a b, StepAt H4 a b → StepAt (hid H4 fA') a b := fun a b h => by
        have h' : H4 a = some (.tup [vn b.1, .int b.2]) := h
        show _ = _
        rw [hid_ne (ne_of h' (s34 _ _ hf3) (by intro z; cases z))]
        exact h'
      -- no cycle is the list at fA': it is never empty, its items are no numbers
      have clst : ∀ (x : Addr) (c : List (Nat × Int)), LsAt StepAt H4 x c → c ≠ [] → LsAt StepAt (hid H4 fA') x c := fun x c ⟨bs, e1, e2⟩ hne => by
        refine ⟨bs, ?_, Paired.mapP e2 step⟩
        rw [hid_ne ?_]
        · exact e1
        · refine ne_of e1 (s34 _ _ hf3) fun z => ?_
          have z2 := HO.lst.inj z
          cases bs with
          | nil => cases e2; exact hne rfl
          | cons b bs =>
            cases es with
            | nil => cases z2
            | cons _ _ => cases z2
      have go : ∀ {l : List Addr} {k : List (List (Nat × Int))} {is : List Nat}, Paired (LsAt StepAt H4) l k → Paired (CycOk es) is k → Paired (LsAt StepAt (hid H4 fA')) l k := by
        intro l
        induction l with
        | nil => intro k is h _; cases h; exact .nil
        | cons a l ih =>
          intro k is h hc
          cases h with
          | cons r t =>
            cases hc with
            | cons rc tc =>
              obtain ⟨t', h', r', _, ec, _⟩ := rc
              exact .cons (clst _ _ r (by rw [ec]; exact List.cons_ne_nil _ _)) (ih t tc)
      exact go hcp hco
    have nG : hid H4 fA' fA' = none := hid_at
    have s4 := s3.trans s34
    have sG4 : Same (hid H4 fA') H4 := hid_same
    generalize hid H4 fA' = G at hGs hGc hGp nG sG4
    refine ⟨_, rfl, pc, pS, cas.map V.ref, sums.map vn, rfl, SqL.of hca, SqL.of (s34 _ _ hS3), for_it (walk_zip (K := K) (a := pc) (b := pS) (xs := cas.map V.ref) (ys := sums.map vn) (n := sums.length) (by rw [List.length_map, List.length_map]; omega)) (fun j σ H' => ∃ (v4 v5 : Option V), σ = [some (.ref o), some (.ref a), some (.ref pS), some (.ref fA'), v4, v5] ∧ Same H H' ∧ Same G H' ∧
      H' fA' = some (.lst ((fillr (List.replicate es.length 0) ((outs (frst es) es.length).take j) (sums.take j)).map vn))) ⟨none, none, rfl, s4, sG4, s34 _ _ hf3⟩ (fun j σ H' _ ⟨_, _, _, _, sG, _⟩ => ⟨SqL.of (sG _ _ hGc), SqL.of (sG _ _ hGs)⟩) ?_ ?_⟩
    · rintro j x σ H5 H6 hj ⟨v4, v5, rfl, sH, sG, hf⟩ ⟨T, x1, x2, rfl, nT, rfl, e1, e2⟩
      obtain ⟨b, hb, rfl⟩ := refs_item e1
      obtain ⟨tot, htot, rfl⟩ := vns_item e2
      obtain ⟨c, hc, hbc⟩ := Paired.at' hGp hb
      obtain ⟨i, hi, t', h', r', hie, rfl, _, _⟩ := Paired.at hco hc
      obtain ⟨bs, hbs, hbsp⟩ := hbc
      cases hbsp with
      | @cons b0 _ bs' _ hb0 _ =>
        have hbs5 := sG _ _ hbs
        have hb05 : H5 b0 = some (.tup [vn i, .int 1]) := sG _ _ hb0
        have sT : Same H5 (upd H5 T (.tup [.ref b, vn tot])) := same_new nT
        have hf6 := sT _ _ hf
        have hil : i < es.length := (List.getElem?_eq_some_iff.mp hie).1
        have hrl : (fillr (List.replicate es.length 0) ((outs (frst es) es.length).take j) (sums.take j)).length = es.length := by rw [fillr_len, List.length_replicate]
        refine ⟨T, _, rfl, .inl (.inl upd_same), rfl, _, _, rfl, _, _, rfl, rfl, ?_⟩
        refine ⟨_, rfl, _, rfl, _, rfl, b, _, 0, _, rfl, rfl, SqL.of (sT _ _ hbs5), atI_nat (j := 0) rfl, b0, _, 0, _, rfl, rfl, .inl (.inl (sT _ _ hb05)), atI_nat (j := 0) rfl, fA', _, _, i, rfl, rfl, hf6, ?_, ?_⟩
        · rw [List.length_map, hrl]
          unfold ixN
          rw [if_pos (by omega), if_pos (by omega), Int.toNat_natCast]
        · refine ⟨_, _, rfl, (sH.fresh nT).mut nfA0, (sG.fresh nT).mut nG, ?_⟩
          rw [upd_same, take_snoc hi, take_snoc htot, fillr_snoc _ _ _ _ _ (by rw [take_len hi, take_len htot]), List.map_set]
    · rintro σ H' ⟨v4, v5, rfl, sH, sG, hf⟩
      rw [List.take_length, hslen, List.take_length] at hf
      exact ⟨_, rfl, q H' fA' _ sH nfA0 hf (normal_ok hm hg hslen fun j i x h1 h2 => by
        obtain ⟨i', hi', hv⟩ := Paired.at hSv h2
        rw [h1] at hi'
        rw [Option.some.inj hi']
        exact hv)⟩

/-! the counts -/
def sp_size (C : Addr) : Sp := fun vs H Q _ => ∃ (o : Addr) (n m : Nat) (es : List Edge), vs = [.ref o] ∧ WebAt C H o n m es ∧ m ≤ 60 ∧ ∀ H', Same H H' → Q (pw m (frst es).length) H'
theorem c_size (D : Dn K mg "class_size" s_class_size) (B : Bt mg) (c1 : C8.Cal P w K mg base 2 "power_of" (sp_power C) []) (m1 : C8.Met P w K mg base 1 C "forest" (sp_wforest C) []) : C8.Cal P w K mg base 3 "class_size" (sp_size C) [] := by
  refine cal_mk D (ps := ["web"]) (fun _ _ _ _ _ _ us hl => match us, hl with | [_], _ => rfl) (N := ["web"]) ⟨rfl, rfl, rfl, by decide +kernel, rfl, by decide +kernel, by decide +kernel⟩ (fun vs H Q E h => ?_) (fun f cdv A outer s H vs Q E hr h => ?_)
  · obtain ⟨o, n, m, es, rfl, _⟩ := h; rfl
  · obtain ⟨o, n, m, es, rfl, hW, hm, q⟩ := h
    obtain ⟨_, _, hl60, dx, eA, fA, lA, ho, _⟩ := id hW
    have := frst_le_len es
    refine ⟨_, pss_one (ps_ret (C8.pe_c c1 hr (by decide) (by rfl) (pa_cons (pv 0) (pa_cons (pe_callB call_len_seq (by rfl) B.len PySem.boot_len (pa_cons (C8.pe_mt0 m1 hr (by decide) (pv 0)) pa_nil)) pa_nil)))), ?_⟩
    refine ⟨_, rfl, _, rfl, o, dx, _, rfl, ho, wf_no4, o, n, m, es, rfl, hW, fun p np => ⟨p, _, rfl, .inl (SqL.of upd_same), o, n, m, es, (frst es).length, ?_, hW.same (same_new np), hm, by omega, q _ (same_new np)⟩⟩
    rw [List.length_map]
    rfl
def sp_count (C : Addr) : Sp := fun vs H Q _ => ∃ (o : Addr) (n m : Nat) (es : List Edge), vs = [.ref o] ∧ WebAt C H o n m es ∧ m ≤ 60 ∧ ∀ H', Same H H' → Q (pw m (es.length - (frst es).length)) H'
theorem c_count (D : Dn K mg "class_count" s_class_count) (B : Bt mg) (c1 : C8.Cal P w K mg base 2 "power_of" (sp_power C) []) (m1 : C8.Met P w K mg base 1 C "forest" (sp_wforest C) []) (m2 : C8.Met P w K mg base 1 C "__len__" (sp_wlen C) []) : C8.Cal P w K mg base 3 "class_count" (sp_count C) [] := by
  refine cal_mk D (ps := ["web"]) (fun _ _ _ _ _ _ us hl => match us, hl with | [_], _ => rfl) (N := ["web"]) ⟨rfl, rfl, rfl, by decide +kernel, rfl, by decide +kernel, by decide +kernel⟩ (fun vs H Q E h => ?_) (fun f cdv A outer s H vs Q E hr h => ?_)
  · obtain ⟨o, n, m, es, rfl, _⟩ := h; rfl
  · obtain ⟨o, n, m, es, rfl, hW, hm, q⟩ := h
    obtain ⟨_, _, hl60, dx, eA, fA, lA, ho, _⟩ := id hW
    have hle := frst_le_len es
    refine ⟨_, pss_one (ps_ret (C8.pe_c c1 hr (by decide) (by rfl) (pa_cons (pv 0) (pa_cons (pe_op op_sub (pe_callB (call_lenM m2 hr (by decide)) (by rfl) B.len PySem.boot_len (pa_cons (pv 0) pa_nil)) (pe_callB call_len_seq (by rfl) B.len PySem.boot_len (pa_cons (C8.pe_mt0 m1 hr (by decide) (pv 0)) pa_nil))) pa_nil)))), ?_⟩
    refine ⟨_, rfl, _, rfl, o, dx, _, rfl, ho, o, n, m, es, rfl, hW, _, rfl, ⟨by omega, by omega⟩, _, rfl, o, dx, _, rfl, ho, wf_no4, o, n, m, es, rfl, hW, fun p np => ⟨p, _, rfl, .inl (SqL.of upd_same), _, _, rfl, rfl, o, n, m, es, es.length - (frst es).length, ?_, hW.same (same_new np), hm, by omega, q _ (same_new np)⟩⟩
    rw [List.length_map]
    have e : (es.length : Int) - ((frst es).length : Int) = ((es.length - (frst es).length : Nat) : Int) := by omega
    show [V.ref o, V.int ((es.length : Int) - ((frst es).length : Int))] = _
    rw [e]
def sp_pots (C : Addr) : Sp := fun vs H Q _ => ∃ (o : Addr) (n m : Nat) (es : List Edge), vs = [.ref o] ∧ WebAt C H o n m es ∧ m ≤ 60 ∧ ∀ H', Same H H' → Q (pw m (n - (frst es).length)) H'
theorem c_pots (D : Dn K mg "potential_count" s_potential_count) (B : Bt mg) (c1 : C8.Cal P w K mg base 2 "power_of" (sp_power C) []) (m1 : C8.Met P w K mg base 3 C "components" (sp_wcomps C) []) : C8.Cal P w K mg base 4 "potential_count" (sp_pots C) [] := by
  refine cal_mk D (ps := ["web"]) (fun _ _ _ _ _ _ us hl => match us, hl with | [_], _ => rfl) (N := ["web"]) ⟨rfl, rfl, rfl, by decide +kernel, rfl, by decide +kernel, by decide +kernel⟩ (fun vs H Q E h => ?_) (fun f cdv A outer s H vs Q E hr h => ?_)
  · obtain ⟨o, n, m, es, rfl, _⟩ := h; rfl
  · obtain ⟨o, n, m, es, rfl, hW, hm, q⟩ := h
    obtain ⟨_, hn, hl60, dx, eA, fA, lA, ho, _⟩ := id hW
    refine ⟨_, pss_one (ps_ret (C8.pe_c c1 hr (by decide) (by rfl) (pa_cons (pv 0) (pa_cons (pe_callB call_len_seq (by rfl) B.len PySem.boot_len (pa_cons (C8.pe_mt0 m1 hr (by decide) (pv 0)) pa_nil)) pa_nil)))), ?_⟩
    refine ⟨_, rfl, _, rfl, o, dx, _, rfl, ho, wf_no3, o, n, m, es, rfl, hW, fun H1 p xs s1 np hp hx => ⟨p, _, rfl, .inl (SqL.of hp), o, n, m, es, n - (frst es).length, ?_, hW.same s1, hm, by omega, q _ s1⟩⟩
    rw [hx, comps_count hW.ends]
    rfl
end
end K18

set_option Elab.async false
set_option linter.all false
set_option maxRecDepth 100000
set_option maxHeartbeats 4000000
/-! The law's own helpers: the pool, links, what a potential leads to, all rows, how many unlike rows. -/
namespace K18
open PySem PySem.Spec PyProof.Rows L2
theorem fr_old {H H' : Hp} {p : Addr} {o u : HO} (h : H p = some u) : fr H (upd H' p o) = fr H H' := by
  funext b
  unfold fr
  cases q : H b with
  | none => exact upd_ne (fun e => by rw [e, h] at q; cases q)
  | some _ => rfl
/-! ### rows as texts -/
def rowD (r : List Nat) : PyData := .list (r.map fun x : Nat => .int (x : Int))
theorem dp_row {K : PySem.W.Frag} {H : Hp} : ∀ r : List Nat, DpAll K H (r.map vn) (r.map fun x : Nat => PyData.int (x : Int))
  | [] => .nil
  | x :: r => .cons (.int _) (dp_row r)
theorem depth_row : ∀ r : List Nat, PyData.depthAll (r.map fun x : Nat => PyData.int (x : Int)) = 0
  | [] => by simp [PyData.depthAll]
  | x :: r => by simp [PyData.depthAll, PyData.depth, depth_row r]
theorem dict_row : ∀ r : List Nat, PyData.hasDictAll (r.map fun x : Nat => PyData.int (x : Int)) = false
  | [] => by simp [PyData.hasDictAll]
  | x :: r => by simp [PyData.hasDictAll, PyData.hasDict, dict_row r]
theorem show_row : ∀ r : List Nat, (∀ x ∈ r, x < 2 ^ 1000) → PyData.showableAll (r.map fun x : Nat => PyData.int (x : Int)) = true
  | [], _ => by simp [PyData.showableAll]
  | x :: r, h => by
    have h1 : x < 2 ^ 1000 := h x List.mem_cons_self
    have h2 : Nat.log2 x < 1920 := by
      by_cases h0 : x = 0
      · subst h0; decide
      · exact Nat.lt_of_lt_of_le ((Nat.log2_lt h0).mpr h1) (by decide)
    rw [List.map_cons, PyData.showableAll, PyData.showable, show_row r fun y hy => h y (List.mem_cons_of_mem _ hy)]
    rw [show ((x : Int).natAbs) = x from Int.natAbs_natCast x, decide_eq_true h2]
    rfl
theorem text_len {B : Nat} : ∀ (ts : List Str) (k : Nat) (acc : Str), (∀ t ∈ ts, t.length ≤ B) → (textFrom k acc ts).length ≤ acc.length + ts.length * (B + 2)
  | [], k, acc, _ => by show acc.length ≤ _; simp
  | t :: ts, k, acc, h => by
    have ih := text_len ts (k + 1) (acc ++ (if k > 0 then ", " else "" : String) ++ t) fun y hy => h y (List.mem_cons_of_mem _ hy)
    have e : (acc ++ (if k > 0 then ", " else "" : String) ++ t).length = acc.length + (if k > 0 then 2 else 0) + t.length := by
      rw [strLen_append, strLen_append]
      split <;> rfl
    rw [e] at ih
    have hB := h t List.mem_cons_self
    have h2 : (if k > 0 then 2 else 0) ≤ 2 := by split <;> decide
    show (textFrom (k + 1) _ ts).length ≤ _
    rw [List.length_cons, Nat.succ_mul]
    omega
theorem shownAll_row : ∀ r : List Nat, PyData.shownAll (r.map fun x : Nat => PyData.int (x : Int)) = r.map fun x : Nat => Str.ofString (toString (x : Int))
  | [] => by simp [PyData.shownAll]
  | x :: r => by rw [List.map_cons, PyData.shownAll, shownAll_row r, PyData.shown]; rfl
theorem shown_row (r : List Nat) : (rowD r).shown = listText (r.map fun x : Nat => Str.ofString (toString (x : Int))) := by
  unfold rowD
  rw [PyData.shown, shownAll_row]
theorem shown_fit {r : List Nat} (h : ∀ x ∈ r, x < 2 ^ 1000) (hl : r.length ≤ 1000) : (rowD r).shown.length ≤ sizeLine := by
  rw [shown_row]
  have h1 := text_len (B := 1921) (r.map fun x : Nat => Str.ofString (toString (x : Int))) 0 "[" fun t ht => by
    obtain ⟨x, hx, rfl⟩ := List.mem_map.mp ht
    refine int_text_len_1921 ?_
    have h1 : x < 2 ^ 1000 := h x hx
    rw [Int.natAbs_natCast]
    by_cases h0 : x = 0
    · subst h0; decide
    · exact Nat.lt_of_lt_of_le ((Nat.log2_lt h0).mpr h1) (by decide)
  rw [List.length_map] at h1
  have h2 : (listText (r.map fun x : Nat => Str.ofString (toString (x : Int)))).length = (textFrom 0 "[" (r.map fun x : Nat => Str.ofString (toString (x : Int)))).length + 1 := by
    unfold listText
    rw [strLen_append]; rfl
  have h3 : ("[" : Str).length = 1 := rfl
  rw [h2, sizeLine_eq]
  have : r.length * (1921 + 2) ≤ 1000 * 1923 := Nat.mul_le_mul hl (Nat.le_refl _)
  omega
/-- the digits of a text -/
def digs (z : Str) : List Nat := (z.cps.toList.filter fun c => decide (48 ≤ c ∧ c ≤ 57)).map fun c => c - 48
theorem digs_app (a b : Str) : digs (a ++ b) = digs a ++ digs b := by
  unfold digs
  have e : (a ++ b).cps.toList = a.cps.toList ++ b.cps.toList := PySem.W.KT.app_list _ _
  rw [e, List.filter_append, List.map_append]
theorem digs_text : ∀ (ts : List Str) (k : Nat) (acc : Str), digs (textFrom k acc ts) = digs acc ++ ts.flatMap digs
  | [], k, acc => by show digs acc = _; simp
  | t :: ts, k, acc => by
    show digs (textFrom (k + 1) _ ts) = _
    rw [digs_text ts, digs_app, digs_app, List.flatMap_cons]
    have e : digs (Str.ofString (if k > 0 then ", " else "" : String)) = [] := by split <;> decide +kernel
    rw [e, List.append_nil, List.append_assoc]
theorem digs_num : ∀ x : Nat, x < 10 → digs (Str.ofString (toString (x : Int))) = [x] := by
  have h : ∀ x : Fin 10, digs (Str.ofString (toString ((x.val : Nat) : Int))) = [x.val] := by decide +kernel
  intro x hx
  exact h ⟨x, hx⟩
theorem digs_row {r : List Nat} (h : ∀ x ∈ r, x < 10) : digs (rowD r).shown = r := by
  rw [shown_row]
  unfold listText
  rw [digs_app, digs_text]
  have e1 : digs "[" = [] := by decide +kernel
  have e2 : digs "]" = [] := by decide +kernel
  rw [e1, e2, List.append_nil, List.nil_append]
  induction r with
  | nil => rfl
  | cons x r ih =>
    rw [List.map_cons, List.flatMap_cons, digs_num x (h x List.mem_cons_self), ih fun y hy => h y (List.mem_cons_of_mem _ hy)]
    rfl
theorem row_inj {r q : List Nat} (h1 : ∀ x ∈ r, x < 10) (h2 : ∀ x ∈ q, x < 10) (h : (rowD r).shown = (rowD q).shown) : r = q := by
  rw [← digs_row h1, ← digs_row h2, h]
section
variable {P : Program} {w : World} {K : PySem.W.Frag} {mg : Str → Option Value} {base : Heap}

/-! _law_pool -/
abbrev Npo : List Str := ["_law_script", "_law_k", "_law_cell", "_law_seed"]
theorem S_po : FnScope Npo ["_law_script", "_law_k"] (defScope s_law_pool) := ⟨rfl, rfl, rfl, by decide +kernel, rfl, by decide +kernel, by decide +kernel⟩
def sp_pool (K : PySem.W.Frag) : Sp := fun vs H Q _ => ∃ (a : Addr) (ns : List Int) (k : Nat), vs = [.ref a, vn k] ∧ SqL K H a (ns.map V.int) ∧ k ≤ 2 ∧ ∀ p x y, H p = none → Q (.ref p) (upd H p (.lst [.int x, .int y]))
theorem c_pool (D : Dn K mg "_law_pool" s_law_pool) (B : Bt mg) : C8.Cal P w K mg base 1 "_law_pool" (sp_pool K) [] := by
  have S := S_po
  refine cal_mk D (ps := ["_law_script", "_law_k"]) (fun _ _ _ _ _ _ us hl => match us, hl with | [_, _], _ => rfl) S (fun vs H Q E h => ?_) (fun f cdv A outer s H vs Q E hr h => ?_)
  · obtain ⟨a, ns, k, rfl, _⟩ := h; rfl
  · obtain ⟨a, ns, k, rfl, hS, hk, q⟩ := h
    refine ⟨_, pss_cons (ps_set (i := 2) S.nd rfl (Or.inl rfl) pe_int)
      (pss_cons (ps_if (pt_cmpR op_lt (pv 1) (pe_callB call_len_seq (by rfl) B.len PySem.boot_len (pa_cons (pv 0) pa_nil)) (nomark _)) (pss_one (ps_set (i := 2) S.nd rfl (Or.inl rfl) (pe_ix ix_list (pv 0) (pv 1) (fun _ _ => rfl)))) pss_nil)
      (pss_cons (ps_set (i := 3) S.nd rfl (Or.inl rfl) (pe_op op_mod (pe_op op_mul (pe_op op_add (pe_op op_add (pe_op op_mod (pv 2) pe_int) (pe_op op_mul (pe_op op_mul pe_int (pv 1)) (pv 1))) pe_int) pe_int) pe_int))
      (pss_cons (ps_if (pt_cmpR op_lt (pv 2) (pe_op op_pow pe_int pe_int) (nomark _)) (pss_one (ps_set (i := 2) S.nd rfl (Or.inl rfl) pe_int)) pss_nil)
      (pss_one (ps_ret (pe_lst (pa_cons (pv 2) (pa_cons (pe_op op_add (pe_op op_mod (pe_op op_mul (pv 3) (pv 3)) pe_int) pe_int) pa_nil)))))))), ?_⟩
    refine ⟨_, rfl, _, rfl, a, _, rfl, .inl hS, _, _, rfl, rfl, _, rfl, ite2 (fun hlt => ?_) (fun hlt => ?_)⟩
    · have hlt := of_decide_eq_true hlt
      rw [List.length_map] at hlt
      have hk' : k < ns.length := by omega
      have hx : (ns.map V.int)[k]? = some (V.int ns[k]) := by rw [List.getElem?_map, List.getElem?_eq_getElem hk']; rfl
      refine ⟨_, rfl, _, rfl, a, _, _, _, rfl, rfl, hS, atI_nat hx, ?_⟩
      refine ⟨_, rfl, _, _, rfl, rfl, by show (0 : Int) < 2147483629; decide, _, rfl, _, _, rfl, rfl, .inl ⟨by decide, by decide⟩, _, rfl, _, _, rfl, rfl, .inr ⟨by omega, by omega⟩, _, _, rfl, rfl, _, _, rfl, rfl, _, _, rfl, rfl, .inr ⟨by decide, by decide⟩, _, _, rfl, rfl, by show (0 : Int) < 2147483647; decide, ?_⟩
      generalize hsd : (ns[k] % 2147483629 + 7919 * (k : Int) * (k : Int) + 13) * 48271 % 2147483647 = sd
      have b1 : 0 ≤ sd := by rw [← hsd]; exact Int.emod_nonneg _ (by decide)
      have b2 : sd < 2147483647 := by rw [← hsd]; exact Int.emod_lt_of_pos _ (by decide)
      refine ⟨_, rfl, _, _, rfl, rfl, ⟨by decide, by decide, by decide⟩, _, _, rfl, rfl, _, rfl, ite2 (fun _ => ?_) (fun _ => ?_)⟩
      · exact ⟨_, rfl, _, rfl, _, rfl, _, _, rfl, rfl, .inl ⟨by omega, by omega⟩, _, _, rfl, rfl, by show (0 : Int) < 2147483587; decide, _, _, rfl, rfl, by show 2 ≤ sizeLine; decide, fun p np => q p _ _ np⟩
      · exact ⟨_, rfl, _, rfl, _, rfl, _, _, rfl, rfl, .inl ⟨by omega, by omega⟩, _, _, rfl, rfl, by show (0 : Int) < 2147483587; decide, _, _, rfl, rfl, by show 2 ≤ sizeLine; decide, fun p np => q p _ _ np⟩
    · refine ⟨_, rfl, _, _, rfl, rfl, by show (0 : Int) < 2147483629; decide, _, rfl, _, _, rfl, rfl, .inl ⟨by decide, by decide⟩, _, rfl, _, _, rfl, rfl, .inr ⟨by omega, by omega⟩, _, _, rfl, rfl, _, _, rfl, rfl, _, _, rfl, rfl, .inr ⟨by decide, by decide⟩, _, _, rfl, rfl, by show (0 : Int) < 2147483647; decide, ?_⟩
      generalize hsd : ((0 : Int) % 2147483629 + 7919 * (k : Int) * (k : Int) + 13) * 48271 % 2147483647 = sd
      have b1 : 0 ≤ sd := by rw [← hsd]; exact Int.emod_nonneg _ (by decide)
      have b2 : sd < 2147483647 := by rw [← hsd]; exact Int.emod_lt_of_pos _ (by decide)
      refine ⟨_, rfl, _, _, rfl, rfl, ⟨by decide, by decide, by decide⟩, _, _, rfl, rfl, _, rfl, ite2 (fun _ => ?_) (fun _ => ?_)⟩
      · exact ⟨_, rfl, _, rfl, _, rfl, _, _, rfl, rfl, .inl ⟨by omega, by omega⟩, _, _, rfl, rfl, by show (0 : Int) < 2147483587; decide, _, _, rfl, rfl, by show 2 ≤ sizeLine; decide, fun p np => q p _ _ np⟩
      · exact ⟨_, rfl, _, rfl, _, rfl, _, _, rfl, rfl, .inl ⟨by omega, by omega⟩, _, _, rfl, rfl, by show (0 : Int) < 2147483587; decide, _, _, rfl, rfl, by show 2 ≤ sizeLine; decide, fun p np => q p _ _ np⟩

/-! _law_take -/
abbrev Nta : List Str := ["_law_pool_here", "_law_sides", "_law_found"]
theorem S_ta : FnScope Nta ["_law_pool_here", "_law_sides"] (defScope s_law_take) := ⟨rfl, rfl, rfl, by decide +kernel, rfl, by decide +kernel, by decide +kernel⟩
def sp_take : Sp := fun vs H Q _ => ∃ (p : Addr) (x y : Int) (s : Nat), vs = [.ref p, vn s] ∧ H p = some (.lst [.int x, .int y]) ∧ 0 < s ∧ s < 1000000 ∧ ∀ (v : Nat) (x' y' : Int), v < s → Q (vn v) (upd H p (.lst [.int x', .int y']))
theorem nat_mod {a : Int} {s : Nat} (h : 0 < s) : ∃ v : Nat, a % (s : Int) = (v : Int) ∧ v < s := ⟨(a % (s : Int)).toNat, by have := Int.emod_nonneg a (b := (s : Int)) (by omega); omega, by have := Int.emod_nonneg a (b := (s : Int)) (by omega); have := Int.emod_lt_of_pos a (b := (s : Int)) (by omega); omega⟩
theorem c_take (D : Dn K mg "_law_take" s_law_take) : C8.Cal P w K mg base 1 "_law_take" sp_take [] := by
  have S := S_ta
  refine cal_mk D (ps := ["_law_pool_here", "_law_sides"]) (fun _ _ _ _ _ _ us hl => match us, hl with | [_, _], _ => rfl) S (fun vs H Q E h => ?_) (fun f cdv A outer s0 H vs Q E hr h => ?_)
  · obtain ⟨p, x, y, s, rfl, _⟩ := h; rfl
  · obtain ⟨p, x, y, s, rfl, hp, hs, hs2, q⟩ := h
    have sq : SqL K H p [V.int x, .int y] := SqL.of hp
    refine ⟨_, pss_cons (ps_if (pt_cmpR op_gt (pe_ix ix_list (pv 0) pe_int (fun _ _ => rfl)) pe_int (nomark _))
        (pss_cons (ps_set (i := 2) S.nd rfl (Or.inl rfl) (pe_op op_mod (pe_ix ix_list (pv 0) pe_int (fun _ _ => rfl)) (pv 1)))
        (pss_cons (ps_asg (pe_op op_fdiv (pe_ix ix_list (pv 0) pe_int (fun _ _ => rfl)) (pv 1)) (pg_sub (pv 0) pe_int set_list))
        (pss_one (ps_ret (pv 2))))) pss_nil)
      (pss_cons (ps_asg (pe_op op_mod (pe_op op_add (pe_op op_mul (pe_ix ix_list (pv 0) pe_int (fun _ _ => rfl)) pe_int) pe_int) pe_int) (pg_sub (pv 0) pe_int set_list))
      (pss_one (ps_ret (pe_op op_mod (pe_op op_fdiv (pe_op op_mod (pe_op op_mul (pe_ix ix_list (pv 0) pe_int (fun _ _ => rfl)) (pe_ix ix_list (pv 0) pe_int (fun _ _ => rfl))) pe_int) pe_int) (pv 1))))), ?_⟩
    refine ⟨_, rfl, p, _, 0, _, rfl, rfl, sq, atI_nat (j := 0) rfl, _, _, rfl, rfl, _, rfl, ite2 (fun _ => ?_) (fun _ => ?_)⟩
    · obtain ⟨v, hv, hvs⟩ := nat_mod (a := x) hs
      refine ⟨_, rfl, p, _, 0, _, rfl, rfl, sq, atI_nat (j := 0) rfl, _, rfl, _, _, rfl, rfl, by omega, ?_⟩
      refine ⟨_, rfl, p, _, 0, _, rfl, rfl, sq, atI_nat (j := 0) rfl, _, rfl, _, _, rfl, rfl, ⟨by omega, by omega⟩, _, rfl, p, _, 0, 0, rfl, rfl, hp, rfl, ?_⟩
      refine ⟨_, rfl, ?_⟩
      show Q (V.int (x % (s : Int))) _
      rw [hv]
      exact q v _ _ hvs
    · refine ⟨_, rfl, p, _, 1, _, rfl, rfl, sq, atI_nat (j := 1) rfl, _, _, rfl, rfl, .inr ⟨by decide, by decide⟩, _, _, rfl, rfl, _, _, rfl, rfl, by show (0 : Int) < 2147483647; decide, _, rfl, p, _, 1, 1, rfl, rfl, hp, rfl, ?_⟩
      dsimp only [List.set]
      generalize hsd : (y * 48271 + 11) % 2147483647 = sd
      have b1 : 0 ≤ sd := by rw [← hsd]; exact Int.emod_nonneg _ (by decide)
      have b2 : sd < 2147483647 := by rw [← hsd]; exact Int.emod_lt_of_pos _ (by decide)
      have sq2 : SqL K (upd H p (.lst [V.int x, .int sd])) p [V.int x, .int sd] := SqL.of upd_same
      obtain ⟨v, hv, hvs⟩ := nat_mod (a := sd * sd % 2147483629 / 64) hs
      refine ⟨_, rfl, p, _, 1, _, rfl, rfl, sq2, atI_nat (j := 1) rfl, _, rfl, p, _, 1, _, rfl, rfl, sq2, atI_nat (j := 1) rfl, _, _, rfl, rfl, .inl ⟨by omega, by omega⟩, _, _, rfl, rfl, by show (0 : Int) < 2147483629; decide, _, _, rfl, rfl, ⟨by decide, by decide⟩, _, rfl, _, _, rfl, rfl, by omega, ?_⟩
      show Q (V.int (sd * sd % 2147483629 / 64 % (s : Int))) _
      rw [hv]
      exact q v _ _ hvs

/-! _law_links -/
abbrev Nli : List Str := ["_law_pool_here", "_law_nodes", "_law_most", "_law_found", "_law_turn"]
theorem S_li : FnScope Nli ["_law_pool_here", "_law_nodes", "_law_most"] (defScope s_law_links) := ⟨rfl, rfl, rfl, by decide +kernel, rfl, by decide +kernel, by decide +kernel⟩
def sp_llinks : Sp := fun vs H Q _ => ∃ (p : Addr) (x y : Int) (n k : Nat), vs = [.ref p, vn n, vn k] ∧ H p = some (.lst [.int x, .int y]) ∧ 0 < n ∧ n < 1000 ∧ k < 1000 ∧
  ∀ H' q es N x' y', Same (hid H p) (hid H' p) → H' p = some (.lst [.int x', .int y']) → New H N → Same N H' → H q = none → LsAt EdgeAt N q es → Ends n es → es.length ≤ k → Q (.ref q) H'
theorem c_llinks (D : Dn K mg "_law_links" s_law_links) (B : Bt mg) (c1 : C8.Cal P w K mg base 1 "_law_take" sp_take []) : C8.Cal P w K mg base 2 "_law_links" sp_llinks [] := by
  have S := S_li
  refine cal_mk D (ps := ["_law_pool_here", "_law_nodes", "_law_most"]) (fun _ _ _ _ _ _ us hl => match us, hl with | [_, _, _], _ => rfl) S (fun vs H Q E h => ?_) (fun f cdv A outer s0 H vs Q E hr h => ?_)
  · obtain ⟨p, x, y, n, k, rfl, _⟩ := h; rfl
  · obtain ⟨p, x, y, n, k, rfl, hp, hn, hn2, hk, q⟩ := h
    refine ⟨_, pss_cons (ps_set (i := 3) S.nd rfl (Or.inl rfl) (pe_lst pa_nil))
      (pss_cons (ps_for PassesOwn.never rfl (pi_range1 (by rfl) B.range (pa_cons (C8.pe_c c1 hr (by decide) (by rfl) (pa_cons (pv 0) (pa_cons (pe_op op_add (pv 2) pe_int) pa_nil))) pa_nil)) (pg_name (i := 4) S.nd rfl (Or.inl rfl))
        (pss_one (ps_expr (pe_bm PySem.F.plainAttrs_list PySem.F.slot_list_append PySem.F.type_list_append mt_append (pv 3) (pa_cons (pe_tup (pa_cons (C8.pe_c c1 hr (by decide) (by rfl) (pa_cons (pv 0) (pa_cons (pv 1) pa_nil))) (pa_cons (C8.pe_c c1 hr (by decide) (by rfl) (pa_cons (pv 0) (pa_cons (pv 1) pa_nil))) pa_nil))) pa_nil)))))
      (pss_one (ps_ret (pv 3)))), ?_⟩
    refine ⟨Nat.zero_le _, fun fA nfA => ?_⟩
    have hpf : p ≠ fA := ne_fresh hp nfA
    have hp1 : upd H fA (.lst []) p = some (.lst [.int x, .int y]) := by rw [upd_ne hpf]; exact hp
    have ek : V.int ((k : Int) + 1) = vn (k + 1) := by show V.int _ = V.int _; rw [Int.natCast_add]; rfl
    refine ⟨_, rfl, _, rfl, _, _, rfl, rfl, p, x, y, k + 1, by rw [← ek]; rfl, hp1, by omega, by omega, fun c x1 y1 hc => ?_⟩
    refine ⟨_, rfl, by omega, by omega, for_range (lo := 0) (n := (c : Int).toNat) (fun i σ H' => ∃ (v4 : Option V) (a b : Int) (as : List Addr) (es : List Edge), σ = [some (.ref p), some (vn n), some (vn k), some (.ref fA), v4] ∧ Same (hid H p) (hid H' p) ∧ H' p = some (.lst [.int a, .int b]) ∧ H' fA = some (.lst (as.map V.ref)) ∧ Paired (EdgeAt (fr H H')) as es ∧ Ends n es ∧ es.length = i)
      ⟨none, x1, y1, [], [], rfl, ?_, upd_same, by rw [upd_ne hpf.symm, upd_same]; rfl, .nil, fun e he => absurd he List.not_mem_nil, rfl⟩ ?_ ?_⟩
    · rw [hid_upd]; exact Same.hid (same_new nfA)
    · rintro i σ H1 hi ⟨v4, a, b, as, es, rfl, sH, hpp, hF, hE, he, hel⟩
      rw [Int.toNat_natCast] at hi
      refine ⟨_, rfl, .inl ⟨rfl, _, SqL.of hF⟩, _, rfl, _, rfl, p, a, b, n, rfl, hpp, hn, by omega, fun t a1 b1 ht => ?_⟩
      refine ⟨_, rfl, _, rfl, p, a1, b1, n, rfl, upd_same, hn, by omega, fun h a2 b2 hh => ?_⟩
      rw [upd_upd]
      refine ⟨by show 2 ≤ sizeLine; decide, fun T nT => ?_⟩
      have hpT : p ≠ T := ne_fresh upd_same nT
      have nT1 : H1 T = none := by rw [upd_ne hpT.symm] at nT; exact nT
      have hfT : fA ≠ T := ne_fresh hF nT1
      have nT0 : H T = none := by
        cases z : H T with
        | none => rfl
        | some o =>
          have := sH T o (by rw [hid_ne hpT.symm]; exact z)
          rw [hid_ne hpT.symm, nT1] at this
          cases this
      have hF2 : upd (upd H1 p (.lst [.int a2, .int b2])) T (.tup [vn t, vn h]) fA = some (.lst (as.map V.ref)) := by rw [upd_ne hfT, upd_ne hpf.symm]; exact hF
      refine ⟨fA, _, _, rfl, rfl, hF2, by rw [List.length_map, Paired.len hE]; exact line_lt (by omega), ?_⟩
      refine ⟨_, a2, b2, as ++ [T], es ++ [(t, h)], rfl, ?_, ?_, ?_, ?_, ?_, by rw [List.length_append, hel]; rfl⟩
      · have nf1 : hid H p fA = none := by rw [hid_ne hpf.symm]; exact nfA
        have nt1 : hid H p T = none := by rw [hid_ne hpT.symm]; exact nT0
        have z : Same (hid H p) (upd (upd (hid H1 p) T (.tup [vn t, vn h])) fA (.lst (as.map V.ref ++ [V.ref T]))) := (sH.mut nt1).mut nf1
        refine fun bb o e => ?_
        have hb : bb ≠ p := fun z => by rw [z, hid_at] at e; cases e
        have z2 := z bb o e
        rw [hid_ne hb]
        by_cases h1 : bb = fA
        · rw [h1, nf1] at e; cases e
        · by_cases h2 : bb = T
          · rw [h2, nt1] at e; cases e
          · rw [upd_ne h1, upd_ne h2, hid_ne hb] at z2
            rw [upd_ne h1, upd_ne h2, upd_ne hb]
            exact z2
      · rw [upd_ne hpf, upd_ne hpT, upd_same]
      · rw [upd_same, List.map_append]; rfl
      · rw [fr_upd nfA, fr_upd nT0, fr_old hp]
        refine Paired.snoc (Paired.mapP hE fun aa e r => ?_) ?_
        · have r' : fr H H1 aa = some (.tup [vn e.1, vn e.2]) := r
          have r2 := fr_same _ _ r'
          show _ = _
          rw [upd_ne (ne_of r2 hF (by intro z; cases z)), upd_ne (ne_fresh r2 nT1)]
          exact r'
        · show _ = _
          rw [upd_ne hfT.symm, upd_same]
      · intro e hem
        rcases List.mem_append.mp hem with z | z
        · exact he e z
        · rw [List.mem_singleton] at z; subst z; exact ⟨ht, hh⟩
    · rintro σ H1 ⟨v4, a, b, as, es, rfl, sH, hpp, hF, hE, he, hel⟩
      rw [Int.toNat_natCast] at hel
      exact ⟨_, rfl, q H1 fA es (fr H H1) a b sH hpp fr_new fr_same nfA ⟨as, by rw [fr_at nfA]; exact hF, hE⟩ he (by omega)⟩

/-! _law_low, _law_put -/
def sp_low : Sp := fun vs H Q _ => ∃ (a : Int) (m : Nat), vs = [.int a, vn m] ∧ 0 < m ∧ Q (vn (low m a)) H
theorem c_low (D : Dn K mg "_law_low" s_law_low) : C8.Cal P w K mg base 1 "_law_low" sp_low [] := by
  refine cal_mk D (ps := ["_law_number_here", "_law_dial"]) (fun _ _ _ _ _ _ us hl => match us, hl with | [_, _], _ => rfl) (N := ["_law_number_here", "_law_dial"]) ⟨rfl, rfl, rfl, by decide +kernel, rfl, by decide +kernel, by decide +kernel⟩ (fun vs H Q E h => ?_) (fun f cdv A outer s H vs Q E hr h => ?_)
  · obtain ⟨a, m, rfl, _⟩ := h; rfl
  · obtain ⟨a, m, rfl, hm, q⟩ := h
    refine ⟨_, pss_one (ps_ret (pe_ifExp (pt_cmpR op_gt (pv 1) pe_int (nomark _)) (pe_op op_mod (pv 0) (pv 1)) (pv 0))), ?_⟩
    refine ⟨_, rfl, _, _, rfl, rfl, _, rfl, ?_⟩
    rw [decide_eq_true (by omega)]
    refine iteT ?_
    refine ⟨_, rfl, _, rfl, _, _, rfl, rfl, by omega, ?_⟩
    have e : vn (low m a) = V.int (a % (m : Int)) := congrArg V.int (low_cast hm a)
    rw [e] at q
    exact q
abbrev Npu : List Str := ["_law_links_here", "_law_dial", "_law_gains_here", "_law_levels", "_law_found", "_law_gain", "_law_tail", "_law_head"]
theorem S_pu : FnScope Npu ["_law_links_here", "_law_dial", "_law_gains_here", "_law_levels"] (defScope s_law_put) := ⟨rfl, rfl, rfl, by decide +kernel, rfl, by decide +kernel, by decide +kernel⟩
def sp_put : Sp := fun vs H Q _ => ∃ (ea ga la : Addr) (m : Nat) (es : List Edge) (g p : List Nat), vs = [.ref ea, vn m, .ref ga, .ref la] ∧ LsAt EdgeAt H ea es ∧ RowAt H ga g ∧ RowAt H la p ∧ Ends p.length es ∧ g.length = es.length ∧ es.length ≤ 100 ∧ 0 < m ∧
  ∀ H' q, Same H H' → H q = none → RowAt H' q (put m es g p) → Q (.ref q) H'
theorem put_take {m : Nat} {es : List Edge} {g p : List Nat} {i : Nat} {e : Edge} {x : Nat} (he : es[i]? = some e) (hx : g[i]? = some x) : (put m es g p).take (i + 1) = (put m es g p).take i ++ [low m ((x : Int) + (p.getD e.1 0 : Int) - (p.getD e.2 0 : Int))] := by
  refine take_snoc ?_
  unfold put
  rw [List.getElem?_zipWith, he, hx]
theorem c_put (D : Dn K mg "_law_put" s_law_put) (B : Bt mg) (c1 : C8.Cal P w K mg base 1 "_law_low" sp_low []) : C8.Cal P w K mg base 2 "_law_put" sp_put [] := by
  have S := S_pu
  refine cal_mk D (ps := ["_law_links_here", "_law_dial", "_law_gains_here", "_law_levels"]) (fun _ _ _ _ _ _ us hl => match us, hl with | [_, _, _, _], _ => rfl) S (fun vs H Q E h => ?_) (fun f cdv A outer s H vs Q E hr h => ?_)
  · obtain ⟨ea, ga, la, m, es, g, p, rfl, _⟩ := h; rfl
  · obtain ⟨ea, ga, la, m, es, g, p, rfl, ⟨as, hE, hep⟩, hG, hP, he, hgl, hl, hm, q⟩ := h
    refine ⟨_, pss_cons (ps_set (i := 4) S.nd rfl (Or.inl rfl) (pe_lst pa_nil))
      (pss_cons (ps_for PassesOwn.never rfl (pi_zip (by rfl) B.zip (pa_cons (pv 2) (pa_cons (pv 0) pa_nil)))
          (pg_tup rfl (pgs_cons (pg_name (i := 5) S.nd rfl (Or.inl rfl)) (pgs_cons (pg_tup rfl (pgs_cons (pg_name (i := 6) S.nd rfl (Or.inl rfl)) (pgs_cons (pg_name (i := 7) S.nd rfl (Or.inl rfl)) pgs_nil))) pgs_nil)))
        (pss_one (ps_expr (pe_bm PySem.F.plainAttrs_list PySem.F.slot_list_append PySem.F.type_list_append mt_append (pv 4) (pa_cons (C8.pe_c c1 hr (by decide) (by rfl) (pa_cons
          (pe_op op_sub (pe_op op_add (pv 5) (pe_ix ix_list (pv 3) (pv 6) (fun _ _ => rfl))) (pe_ix ix_list (pv 3) (pv 7) (fun _ _ => rfl))) (pa_cons (pv 1) pa_nil))) pa_nil)))))
      (pss_one (ps_ret (pv 4)))), ?_⟩
    refine ⟨Nat.zero_le _, fun fA nfA => ?_⟩
    have s1 : Same H (upd H fA (.lst [])) := same_new nfA
    have hal : as.length = es.length := Paired.len hep
    refine ⟨_, rfl, _, rfl, ga, ea, _, _, rfl, SqL.of (s1 _ _ hG), SqL.of (s1 _ _ hE), for_it (walk_zip (K := K) (a := ga) (b := ea) (xs := g.map vn) (ys := as.map V.ref) (n := es.length) (by rw [List.length_map, List.length_map]; omega)) (fun i σ H' => ∃ (v5 v6 v7 : Option V), σ = [some (.ref ea), some (vn m), some (.ref ga), some (.ref la), some (.ref fA), v5, v6, v7] ∧ Same H H' ∧ RowAt H' fA ((put m es g p).take i))
      ⟨none, none, none, rfl, s1, upd_same⟩ (fun i σ H' _ ⟨_, _, _, _, sH, _⟩ => ⟨SqL.of (sH _ _ hG), SqL.of (sH _ _ hE)⟩) ?_ ?_⟩
    · rintro i x σ H1 H2 hi ⟨v5, v6, v7, rfl, sH, hF⟩ ⟨T, x1, x2, rfl, nT, rfl, e1, e2⟩
      obtain ⟨gx, hgx, rfl⟩ := vns_item e1
      obtain ⟨a, ha, rfl⟩ := refs_item e2
      obtain ⟨e, hie, hae⟩ := Paired.at' hep ha
      have hend := he e (List.mem_of_getElem? hie)
      have sT := sH.fresh (o := .tup [vn gx, .ref a]) nT
      have hF2 : upd H1 T (.tup [vn gx, .ref a]) fA = _ := same_new nT _ _ hF
      have item : ∀ v, v < p.length → (p.map vn)[v]? = some (vn (p.getD v 0)) := fun v hv => by rw [List.getElem?_map, List.getD_eq_getElem?_getD, List.getElem?_eq_getElem hv]; rfl
      refine ⟨T, _, rfl, .inl (.inl upd_same), rfl, _, _, rfl, _, _, rfl, a, _, rfl, .inl (.inl (sT _ _ hae)), rfl, _, _, rfl, _, _, rfl, rfl, rfl, ?_⟩
      have hpl : (put m es g p).length = es.length := put_len hgl
      refine ⟨_, rfl, .inl ⟨rfl, _, SqL.of hF2⟩, _, rfl, _, rfl, _, rfl, la, _, _, _, rfl, rfl, SqL.of (sT _ _ hP), atI_nat (item _ hend.1), _, _, rfl, rfl, _, rfl, _, rfl, la, _, _, _, rfl, rfl, SqL.of (sT _ _ hP), atI_nat (item _ hend.2), _, _, rfl, rfl, _, rfl, _, m, rfl, hm, fA, _, _, rfl, rfl, hF2, by rw [List.length_map, List.length_take]; exact line_lt (by omega), ?_⟩
      refine ⟨_, _, _, rfl, sT.mut nfA, ?_⟩
      show _ = _
      rw [upd_same, put_take hie hgx, List.map_append]
      rfl
    · rintro σ H1 ⟨v5, v6, v7, rfl, sH, hF⟩
      have hpl : (put m es g p).length = es.length := put_len hgl
      rw [List.take_of_length_le (by omega)] at hF
      exact ⟨_, rfl, q H1 fA sH nfA hF⟩
end
end K18

set_option Elab.async false
set_option linter.all false
set_option maxRecDepth 100000
set_option maxHeartbeats 4000000
/-! All rows; how many unlike rows. -/
namespace K18
open PySem PySem.Spec PyProof.Rows L2
/-- a snapshot of new things: none of what stood in H, all as in H' -/
structure Snap (H G H' : Hp) : Prop where
  new : New H G
  same : Same G H'
theorem Snap.fresh {H G H' : Hp} {p : Addr} {o : HO} (s : Snap H G H') (sm : Same H H') (n : H' p = none) : Snap H (upd G p o) (upd H' p o) := ⟨s.new.upd (sm.free n), s.same.both⟩
theorem Snap.keep {H G H' : Hp} {p : Addr} {o : HO} (s : Snap H G H') (n : H' p = none) : Snap H G (upd H' p o) := ⟨s.new, s.same.fresh n⟩
section
variable {P : Program} {w : World} {K : PySem.W.Frag} {mg : Str → Option Value} {base : Heap}
abbrev Nal : List Str := ["_law_count", "_law_dial", "_law_found", "_law_turn", "_law_longer", "_law_row", "_law_one"]
theorem S_al : FnScope Nal ["_law_count", "_law_dial"] (defScope s_law_all) := ⟨rfl, rfl, rfl, by decide +kernel, rfl, by decide +kernel, by decide +kernel⟩
def sp_all : Sp := fun vs H Q _ => ∃ (k m : Nat), vs = [vn k, vn m] ∧ k ≤ 4 ∧ m ≤ 4 ∧ ∀ H' q N, Same H H' → New H N → Same N H' → H q = none → LsAt RowAt N q (allv m k) → Q (.ref q) H'
theorem len_small {m k : Nat} (hm : m ≤ 4) (hk : k ≤ 4) : (allv m k).length ≤ 256 := by
  rw [len_allv]
  exact Nat.le_trans (Nat.pow_le_pow_left hm k) (Nat.pow_le_pow_right (n := 4) (by decide) hk)
def ext (m : Nat) (r : List Nat) : List (List Nat) := (List.range m).map fun c => r ++ [c]
theorem allv_succ (m k : Nat) : allv m (k + 1) = (allv m k).flatMap (ext m) := rfl
theorem c_all (D : Dn K mg "_law_all" s_law_all) (B : Bt mg) : C8.Cal P w K mg base 1 "_law_all" sp_all [] := by
  have S := S_al
  refine cal_mk D (ps := ["_law_count", "_law_dial"]) (fun _ _ _ _ _ _ us hl => match us, hl with | [_, _], _ => rfl) S (fun vs H Q E h => ?_) (fun f cdv A outer s0 H vs Q E hr h => ?_)
  · obtain ⟨k, m, rfl, _⟩ := h; rfl
  · obtain ⟨k, m, rfl, hk, hm, q⟩ := h
    refine ⟨_, pss_cons (ps_set (i := 2) S.nd rfl (Or.inl rfl) (pe_lst (pa_cons (pe_lst pa_nil) pa_nil)))
      (pss_cons (ps_for PassesOwn.never rfl (pi_range1 (by rfl) B.range (pa_cons (pv 0) pa_nil)) (pg_name (i := 3) S.nd rfl (Or.inl rfl))
        (pss_cons (ps_set (i := 4) S.nd rfl (Or.inl rfl) (pe_lst pa_nil))
        (pss_cons (ps_for PassesOwn.never rfl (pi_list (pv 2)) (pg_name (i := 5) S.nd rfl (Or.inr rfl))
          (pss_one (ps_set (i := 4) S.nd rfl (Or.inl rfl) (pe_op op_cat (pv 4) (pe_lc (own := [("_law_one", 6)]) (g := gName 6) (tt := tYes) rfl S.nd (pi_range1 (by rfl) B.range (pa_cons (pv 1) pa_nil)) (blkOk_by (own := [("_law_one", 6)]) (N := Nal) (sc := defScope s_law_all) (by decide +kernel))
            (fun _ _ _ _ _ => pg_name (i := 6) S.nd rfl (Or.inl rfl)) (fun _ _ _ _ _ => pts_nil) (fun _ _ _ _ _ => pe_op (r := rCat) op_cat (pv 5) (pe_lst (pa_cons (pv 6) pa_nil))))))))
        (pss_one (ps_set (i := 2) S.nd rfl (Or.inl rfl) (pv 4))))))
      (pss_one (ps_ret (pv 2)))), ?_⟩
    refine ⟨Nat.zero_le _, fun e0 ne0 => ⟨by show 1 ≤ sizeLine; decide, fun f0 nf0 => ?_⟩⟩
    have s1 : Same H (upd H e0 (.lst [])) := same_new ne0
    have he0 : upd (upd H e0 (.lst [])) f0 (.lst [.ref e0]) e0 = some (.lst []) := by rw [upd_ne (ne_fresh upd_same nf0), upd_same]
    have sn0 : Snap H (upd (upd none_ e0 (.lst [])) f0 (.lst [.ref e0])) (upd (upd H e0 (.lst [])) f0 (.lst [.ref e0])) := by
      have a : Snap H none_ H := ⟨new_none, none_same⟩
      exact (a.fresh (Same.refl H) ne0).fresh s1 nf0
    refine ⟨_, rfl, _, rfl, by omega, by omega, for_range (lo := 0) (n := (k : Int).toNat) (fun i σ H' => ∃ (v3 v4 v5 v6 : Option V) (f0 : Addr) (G : Hp), σ = [some (vn k), some (vn m), some (.ref f0), v3, v4, v5, v6] ∧ Same H H' ∧ H f0 = none ∧ Snap H G H' ∧ LsAt RowAt G f0 (allv m i))
      ⟨none, none, none, none, f0, _, rfl, s1.fresh nf0, s1.free nf0, sn0, [e0], upd_same, .cons ?_ .nil⟩ ?_ ?_⟩
    · show _ = _
      rw [upd_ne (ne_fresh upd_same nf0), upd_same]
      rfl
    · rintro i σ H1 hi ⟨v3, v4, v5, v6, f0, G, rfl, sH, nf0, sG, hL⟩
      rw [Int.toNat_natCast] at hi
      refine ⟨Nat.zero_le _, fun l0 nl0 => ?_⟩
      obtain ⟨as, hf, hap⟩ := id hL
      have hsm := len_small hm (show i ≤ 4 by omega)
      have hal : as.length = (allv m i).length := Paired.len hap
      have sG1 : Snap H (upd G l0 (.lst [])) (upd H1 l0 (.lst [])) := sG.fresh sH nl0
      have keep0 : Same G (upd G l0 (.lst [])) := same_new (sG.same.free nl0)
      refine ⟨_, rfl, f0, rfl, ⟨_, SqL.of (sG1.same _ _ (keep0 _ _ hf))⟩, for_list (K := K) (a := f0) (xs := as.map V.ref) (fun j σ H' => ∃ (v5 v6 : Option V) (l0 : Addr) (G' : Hp), σ = [some (vn k), some (vn m), some (.ref f0), some (V.int (0 + (i : Int))), some (.ref l0), v5, v6] ∧ Same H H' ∧ H l0 = none ∧ Snap H G' H' ∧ Same G G' ∧ LsAt RowAt G' l0 (((allv m i).take j).flatMap (ext m)))
        ⟨v5, v6, l0, _, rfl, sH.fresh nl0, sH.free nl0, sG1, keep0, [], upd_same, .nil⟩ (fun j σ H' _ ⟨_, _, _, G', _, _, _, sn, kp, _⟩ => SqL.of (sn.same _ _ (kp _ _ hf))) ?_ ?_⟩
      · rintro j y σ H2 hj ⟨v5, v6, l0, G', rfl, sH2, nl0, sn, kp, ⟨ls, hl0, hlp⟩⟩
        obtain ⟨a, ha, rfl⟩ := refs_item hj
        obtain ⟨r, hr', har⟩ := Paired.at' hap ha
        have hrr : RowAt G' a r := kp _ _ har
        refine ⟨_, rfl, _, rfl, _, rfl, by omega, by omega, fun Dd nD => lc_range (lo := 0) (n := (m : Int).toNat) (fun c H' => ∃ (bs : List Addr) (G2 : Hp), Same H H' ∧ H' Dd = some (.lst (bs.map V.ref)) ∧ Snap H G2 H' ∧ Same G' G2 ∧ G2 Dd = none ∧ Paired (RowAt G2) bs ((List.range c).map fun c => r ++ [c])) ⟨[], G', sH2.fresh nD, upd_same, sn.keep nD, Same.refl _, sn.same.free nD, .nil⟩ ?_ ?_⟩
        · rintro c H3 hc ⟨bs, G2, sH3, hbs, sn2, kp2, nG2, hbp⟩
          have hrl : r.length ≤ 4 := by
            have := (mem_allv.mp (List.mem_of_getElem? hr')).1
            omega
          refine ⟨rfl, yes ?_⟩
          refine ⟨_, rfl, _, rfl, by show 1 ≤ sizeLine; decide, fun M nM => ?_⟩
          have hDM : Dd ≠ M := ne_fresh hbs nM
          have ha3 : (upd H3 M (.lst [V.int (0 + (c : Int))])) a = some (.lst (r.map vn)) := (same_new nM) _ _ (sn2.same _ _ (kp2 _ _ hrr))
          refine ⟨a, M, _, _, rfl, rfl, ha3, upd_same, by rw [List.length_map, List.length_singleton]; exact line_big (by omega), fun p np => ?_⟩
          have sHM := sH3.fresh (o := .lst [V.int (0 + (c : Int))]) nM
          have snM : Snap H G2 (upd H3 M (.lst [V.int (0 + (c : Int))])) := sn2.keep nM
          have hbsM : upd H3 M (.lst [V.int (0 + (c : Int))]) Dd = some (.lst (bs.map V.ref)) := by rw [upd_ne hDM]; exact hbs
          have hDp : Dd ≠ p := ne_fresh hbsM np
          have snp := snM.fresh (o := .lst (r.map vn ++ [V.int (0 + (c : Int))])) sHM np
          have npG : G2 p = none := snM.same.free np
          have nDp : upd G2 p (.lst (r.map vn ++ [V.int (0 + (c : Int))])) Dd = none := by rw [upd_ne hDp]; exact nG2
          have nH : H Dd = none := sH2.free nD
          have hcl : bs.length = c := by rw [Paired.len hbp, List.length_map, List.length_range]
          refine ⟨_, by rw [upd_ne hDp]; exact hbsM, by rw [List.length_map]; exact line_lt (by omega), bs ++ [p], _, (sHM.fresh np).mut nH, by rw [upd_same, List.map_append]; rfl, ⟨snp.new, snp.same.mut nDp⟩, kp2.trans (same_new npG), nDp, ?_⟩
          rw [List.range_succ, List.map_append]
          refine Paired.snoc (Paired.mapP hbp fun x y z => mono_row _ _ _ _ (same_new npG) z) ?_
          show _ = _
          rw [upd_same, List.map_append, Int.zero_add]
          rfl
        · rintro H3 ⟨bs, G2, sH3, hbs, sn2, kp2, nG2, hbp⟩
          rw [Int.toNat_natCast] at hbp
          have hl3 := sn2.same _ _ (kp2 _ _ hl0)
          have hbl : bs.length = m := by rw [Paired.len hbp, List.length_map, List.length_range]
          have hll : ls.length ≤ 1024 := by
            have h1 : ls.length = (((allv m i).take j).flatMap (ext m)).length := Paired.len hlp
            rw [h1, List.length_flatMap, sum_const (c := m) (fun b _ => by unfold ext; simp)]
            have : ((allv m i).take j).length ≤ 256 := by rw [List.length_take]; omega
            exact Nat.le_trans (Nat.mul_le_mul this hm) (by decide)
          refine ⟨l0, Dd, _, _, rfl, rfl, hl3, hbs, by rw [List.length_map, List.length_map]; exact line_big (by omega), fun p np => ?_⟩
          have snp := sn2.fresh (o := .lst (ls.map V.ref ++ bs.map V.ref)) sH3 np
          have npG : G2 p = none := sn2.same.free np
          refine ⟨_, _, p, _, rfl, sH3.fresh np, sH3.free np, snp, (kp.trans kp2).trans (same_new npG), ls ++ bs, by rw [upd_same, List.map_append], ?_⟩
          rw [take_snoc hr', List.flatMap_append, List.flatMap_singleton]
          exact Paired.app (Paired.mapP hlp fun x y z => mono_row _ _ _ _ (kp2.trans (same_new npG)) z) (Paired.mapP hbp fun x y z => mono_row _ _ _ _ (same_new npG) z)
      · rintro σ H2 ⟨v5, v6, l0, G', rfl, sH2, nl0, sn, kp, hl⟩
        rw [List.length_map, hal, List.take_length] at hl
        exact ⟨_, rfl, _, _, _, _, l0, G', rfl, sH2, nl0, sn, hl⟩
    · rintro σ H1 ⟨v3, v4, v5, v6, f0, G, rfl, sH, nf0, sG, hL⟩
      rw [Int.toNat_natCast] at hL
      exact ⟨_, rfl, q H1 f0 G sH sG.new sG.same nf0 hL⟩

/-! _law_unlike: around it no repr runs -/
abbrev Nun : List Str := ["_law_rows", "_law_seen", "_law_row"]
theorem S_un : FnScope Nun ["_law_rows"] (defScope s_law_unlike) := ⟨rfl, rfl, rfl, by decide +kernel, rfl, by decide +kernel, by decide +kernel⟩
def sp_unlike : Sp := fun vs H Q _ => ∃ (a : Addr) (rs : List (List Nat)), vs = [.ref a] ∧ LsAt RowAt H a rs ∧ (∀ r ∈ rs, r.length ≤ 4 ∧ ∀ x ∈ r, x < 10) ∧ rs.length ≤ 256 ∧ ∀ H', Same H H' → Q (vn (dd rs).length) H'
theorem dd_le {α : Type} [DecidableEq α] (l : List α) : (dd l).length ≤ l.length := nodup_sub_len (nodup_dd l) fun a ha => mem_dd.mp ha
theorem c_unlike (D : Dn K mg "_law_unlike" s_law_unlike) (B : Bt mg) : CalG P w K mg base 1 "_law_unlike" sp_unlike := by
  have S := S_un
  refine calG_mk D (ps := ["_law_rows"]) (fun _ _ _ _ _ _ us hl => match us, hl with | [_], _ => rfl) S (fun vs H Q E h => ?_) (fun f cdv A outer s0 H vs Q hr hg h => ?_)
  · obtain ⟨a, rs, rfl, _⟩ := h; rfl
  · obtain ⟨a, rs, rfl, ⟨as, ha, hap⟩, hsm, hl, q⟩ := h
    have hu := hu_of hr
    have hu64 : (A.deeper (envOfC "_law_unlike" (defScope s_law_unlike) s0.heap.objs.size f cdv)).units + 64 < cLine := hr.units
    have hgA : (A.deeper (envOfC "_law_unlike" (defScope s_law_unlike) s0.heap.objs.size f cdv)).guards = some [] := hg
    refine ⟨_, pss_cons (ps_set (i := 1) S.nd rfl (Or.inl rfl) pe_dnewK)
      (pss_cons (ps_for PassesOwn.never rfl (pi_list (pv 0)) (pg_name (i := 2) S.nd rfl (Or.inl rfl))
        (pss_one (ps_dput hu (pv 1) (pe_callB (call_reprD hgA hu64) (by rfl) B.repr bl_repr (pa_cons (pv 2) pa_nil)) pe_bl rfl)))
      (pss_one (ps_ret (pe_callB call_lenD (by rfl) B.len PySem.boot_len (pa_cons (pv 1) pa_nil))))), ?_⟩
    refine fun d nd => ?_
    have s1 : Same H (upd H d (.dK [])) := same_new nd
    refine ⟨_, rfl, a, rfl, ⟨_, SqL.of (s1 _ _ ha)⟩, for_list (K := K) (a := a) (xs := as.map V.ref) (fun i σ H' => ∃ (v2 : Option V) (kvs : List (Key × V)), σ = [some (.ref a), some (.ref d), v2] ∧ Same H H' ∧ H' d = some (.dK kvs) ∧ kvs.map (·.1) = (dd (rs.take i)).map fun r => Sum.inr (rowD r).shown)
      ⟨none, [], rfl, s1, upd_same, rfl⟩ (fun i σ H' _ ⟨_, _, _, sH, _⟩ => SqL.of (sH _ _ ha)) ?_ ?_⟩
    · rintro i y σ H1 hi ⟨v2, kvs, rfl, sH, hd, hk⟩
      obtain ⟨b, hb, rfl⟩ := refs_item hi
      obtain ⟨r, hr', hbr⟩ := Paired.at' hap hb
      obtain ⟨hrl, hrx⟩ := hsm r (List.mem_of_getElem? hr')
      have hbig : ∀ x ∈ r, x < 2 ^ 1000 := fun x hx => Nat.lt_of_lt_of_le (hrx x hx) (by decide)
      have hrow := sH _ _ hbr
      refine ⟨_, rfl, _, rfl, b, rowD r, rfl, .lst (SqL.of hrow) (dp_row r), by unfold rowD; rw [PyData.showable]; exact show_row r hbig, by unfold rowD; rw [PyData.hasDict]; exact dict_row r, by unfold rowD; rw [PyData.depth, depth_row]; decide, shown_fit hbig (by omega), ?_⟩
      have hkl : kvs.length ≤ 256 := by
        have e := congrArg List.length hk
        rw [List.length_map, List.length_map] at e
        rw [e]
        have h1 := dd_le (rs.take i)
        rw [List.length_take] at h1
        omega
      refine ⟨d, _, rfl, DPut.k (k := Sum.inr (rowD r).shown) hd (line_lt (by omega)), ?_⟩
      refine ⟨_, _, rfl, sH.mut nd, upd_same, ?_⟩
      rw [take_snoc hr', dd_snoc]
      unfold ins
      -- is the text there, if and only if the row is
      have hin : Sum.inr (rowD r).shown ∈ kvs.map (·.1) ↔ r ∈ dd (rs.take i) := by
        rw [hk, List.mem_map]
        constructor
        · rintro ⟨r', hr2, e⟩
          have e := Sum.inr.inj e
          obtain ⟨_, hx'⟩ := hsm r' (List.mem_of_mem_take (mem_dd.mp hr2))
          rw [← row_inj hx' hrx e]
          exact hr2
        · intro h
          exact ⟨r, h, rfl⟩
      by_cases hm : r ∈ dd (rs.take i)
      · rw [if_pos hm, ← hk]
        unfold putK
        rw [valV_any]
        have hv : (valV kvs (Sum.inr (rowD r).shown)).isSome = true := by
          cases e : valV kvs (Sum.inr (rowD r).shown) with
          | none => exact absurd (hin.mpr hm) (valV_not e)
          | some v => rfl
        rw [if_pos hv, List.map_map]
        refine List.map_congr_left fun kv _ => ?_
        show (if kv.1 = Sum.inr (rowD r).shown then (kv.1, V.bl true) else kv).1 = kv.1
        split <;> rfl
      · rw [if_neg hm, List.map_append, ← hk]
        have hv : valV kvs (Sum.inr (rowD r).shown) = none := by
          cases e : valV kvs (Sum.inr (rowD r).shown) with
          | none => rfl
          | some v => exact absurd (hin.mp (valV_in e)) hm
        rw [putK_new _ hv, List.map_append]
        rfl
    · rintro σ H1 ⟨v2, kvs, rfl, sH, hd, hk⟩
      rw [List.length_map, Paired.len hap, List.take_length] at hk
      have e := congrArg List.length hk
      rw [List.length_map, List.length_map] at e
      refine ⟨_, rfl, d, kvs, rfl, hd, ?_⟩
      rw [e]
      exact q H1 sH
end
end K18

set_option Elab.async false
set_option linter.all false
set_option maxRecDepth 100000
set_option maxHeartbeats 4000000
/-! _law_endless. -/
namespace K18
open PySem PySem.Spec PyProof.Rows L2
/-- webs may be made -/
structure WebMk (P : Program) (w : World) (K : PySem.W.Frag) (mg : Str → Option Value) (base : Heap) (C : Addr) : Prop where
  ex : ∃ f fd, Mk K C f ∧ FnOk P w K mg base C8.CX0 5 f fd Nin (sp_init C) ∧ (∃ ds, Vals [V.int 0] ds ∧ Binds K fd Nin ds) ∧ KBn K fd Nin 3 [("modulus" : Str)] (fun us ws => us ++ ws) (fun vs zs => vs ++ zs)
  mgC : mg "Web" = some (.ref C)
section
variable {X : Cx} {C : Addr} {j : Nat} {p pos : Pos} {e e2 : Expr} {t tk : TA} {kws : List Keyword}
theorem pe_web (W : WebMk X.prog X.w X.K X.mg X.base C) (hr : Room j X.A) (hj : 6 ≤ j) (hg : Gl X "Web") (ha : PA X [e, e2] t) (he : starEach [e, e2] X.env = (false, eval e X.env) :: starEach [e2] X.env := by rfl) (hpl : (backTo pos (starEach [e2] X.env)).any (·.1) = false := by rfl) :
    PE X (.Call (.Name "Web" p) [e, e2] [] pos) (tMake C (sp_init C) [V.int 0] C8.E0 t) := by
  obtain ⟨f, fd, M, F, ⟨ds, hd, hb⟩, _⟩ := W.ex
  exact pe_make M F (hr.mono hj) hg W.mgC hb hd C8.pass0 ha (by decide) he hpl
theorem pe_webK (W : WebMk X.prog X.w X.K X.mg X.base C) (hr : Room j X.A) (hj : 6 ≤ j) (hg : Gl X "Web") (ha : PA X [e, e2] t) (hk : PK X kws tk)
    (hall : (backToKw pos (keywordEach kws X.env)).all (·.1.isSome) = true := by rfl) (hks : (backToKw pos (keywordEach kws X.env)).filterMap (·.1) = [("modulus" : Str)] := by rfl)
    (he : starEach [e, e2] X.env = (false, eval e X.env) :: starEach [e2] X.env := by rfl) (hpl : ((backTo pos (starEach [e, e2] X.env)).any (·.1) || (backToKw pos (keywordEach kws X.env)).any (·.1.isNone)) = false := by rfl) :
    PE X (.Call (.Name "Web" p) [e, e2] kws pos) (tMakeN C 2 1 (sp_init C) (fun vs zs => vs ++ zs) C8.E0 t tk) := by
  obtain ⟨f, fd, M, F, _, hb⟩ := W.ex
  exact pe_makeN M F (hr.mono hj) hg W.mgC hb C8.pass0 ha hk hall hks (by decide) he hpl
end
theorem Same.of_hid {H0 H H' : Hp} {p : Addr} (s : Same H0 H) (n : H0 p = none) (h : Same (hid H p) (hid H' p)) : Same H0 H' := fun b o e => by
  have hb : b ≠ p := fun z => by rw [z, n] at e; cases e
  have := h b o (by rw [hid_ne hb]; exact s _ _ e)
  rwa [hid_ne hb] at this
/-! one or None -/
def ov (b : Bool) : V := if b then .int 1 else .non
def od (b : Bool) : PyData := if b then .int 1 else .none
theorem dp_ov {K : PySem.W.Frag} {H : Hp} (b : Bool) : Dp K H (ov b) (od b) := by
  cases b
  · exact .non
  · exact .int _
theorem pw_zero (k : Nat) : pw 0 k = ov (decide (k = 0)) := by
  by_cases h : k = 0
  · rw [decide_eq_true h]; unfold pw; rw [if_pos rfl, if_pos h]; rfl
  · rw [decide_eq_false h]; unfold pw; rw [if_pos rfl, if_neg h]; rfl
theorem shaped_od (a b : Bool) : SeqAt.shaped (.list [od a, od b, .none]) = true := by cases a <;> cases b <;> decide +kernel
theorem eqv_od (a b : Bool) : PyData.eqv (.list [od a, od b, .none]) (.list [od a, od b, .none]) = true := by cases a <;> cases b <;> decide +kernel
theorem ite_ov {b : Bool} {σ : L2.St} {H : Hp} {Q : VK} (h : Q (ov b) H) : if (!b) = true then tC .non σ H Q else tC (.int 1) σ H Q := by
  cases b
  · exact iteT h
  · exact iteF h
theorem ite_ov2 {b : Bool} {σ : L2.St} {H : Hp} {Q : VK} (h : Q (ov b) H) : if b = true then tC (.int 1) σ H Q else tC .non σ H Q := by
  cases b
  · exact iteF h
  · exact iteT h
def es2 (fs : List Edge) : List (Nat × Int) := fs.map fun e => (e.1, (e.2 : Int))
theorem paired_es2 {H : Hp} : ∀ {bs : List Addr} {fs : List Edge}, Paired (EdgeAt H) bs fs → Paired (StepAt H) bs (es2 fs)
  | _, _, .nil => .nil
  | _, _, .cons r t => .cons r (paired_es2 t)
section
variable {P : Program} {w : World} {K : PySem.W.Frag} {mg : Str → Option Value} {base : Heap} {C : Addr}
abbrev Nen : List Str := ["_law_pool_here", "_law_nodes", "_law_links_here", "_law_web", "_law_flat", "_law_due", "_law_link"]
theorem S_en : FnScope Nen ["_law_pool_here"] (defScope s_law_endless) := ⟨rfl, rfl, rfl, by decide +kernel, rfl, by decide +kernel, by decide +kernel⟩
def sp_last : Sp := fun vs H Q _ => ∃ (p : Addr) (x y : Int), vs = [.ref p] ∧ H p = some (.lst [.int x, .int y]) ∧ ∀ H' x' y', Same (hid H p) (hid H' p) → H' p = some (.lst [.int x', .int y']) → Q (.bl true) H'
theorem vn_succ (v k : Nat) : V.int ((k : Int) + (v : Int)) = vn (k + v) := by show V.int _ = V.int _; rw [Int.natCast_add]
theorem c_endless (D : Dn K mg "_law_endless" s_law_endless) (B : Bt mg) (W : WebMk P w K mg base C) (c1 : C8.Cal P w K mg base 1 "_law_take" sp_take []) (c2 : C8.Cal P w K mg base 2 "_law_links" sp_llinks []) (m1 : C8.Met P w K mg base 1 C "forest" (sp_wforest C) [])
    (c3 : C8.Cal P w K mg base 3 "class_size" (sp_size C) []) (c4 : C8.Cal P w K mg base 3 "class_count" (sp_count C) []) (c5 : C8.Cal P w K mg base 4 "potential_count" (sp_pots C) []) : C8.Cal P w K mg base 7 "_law_endless" sp_last [] := by
  have S := S_en
  refine cal_mk D (ps := ["_law_pool_here"]) (fun _ _ _ _ _ _ us hl => match us, hl with | [_], _ => rfl) S (fun vs H Q E h => ?_) (fun f cdv A outer s0 H vs Q E hr h => ?_)
  · obtain ⟨p, x, y, rfl, _⟩ := h; rfl
  · obtain ⟨p, x, y, rfl, hp, q⟩ := h
    have hu : (A.deeper (envOfC "_law_endless" (defScope s_law_endless) s0.heap.objs.size f cdv)).units + 64 < cLine := hr.units
    refine ⟨_, pss_cons (ps_set (i := 1) S.nd rfl (Or.inl rfl) (pe_op op_add pe_int (C8.pe_c c1 hr (by decide) (by rfl) (pa_cons (pv 0) (pa_cons pe_int pa_nil)))))
      (pss_cons (ps_set (i := 2) S.nd rfl (Or.inl rfl) (C8.pe_c c2 hr (by decide) (by rfl) (pa_cons (pv 0) (pa_cons (pv 1) (pa_cons (pe_ix ix_list (pe_lst (pa_cons pe_int (pa_cons pe_int pa_nil))) (C8.pe_c c1 hr (by decide) (by rfl) (pa_cons (pv 0) (pa_cons pe_int pa_nil))) (fun _ _ => rfl)) pa_nil)))))
      (pss_cons (ps_set (i := 3) S.nd rfl (Or.inl rfl) (pe_web W hr (by decide) (by rfl) (pa_cons (pv 1) (pa_cons (pv 2) pa_nil))))
      (pss_cons (ps_setLc (i := 4) (own := [("_law_link", 6)]) (g := gName 6) (tt := tTest (tOp rNe (tOp (rIxT K) (tVar 6) (tC (.int 0))) (tOp (rIxT K) (tVar 6) (tC (.int 1))))) rfl S.nd rfl rfl (sw_true rfl rfl rfl (by decide +kernel)) (pi_list (pv 2)) (blkOk_by (own := [("_law_link", 6)]) (N := Nen) (sc := defScope s_law_endless) (by decide +kernel))
          (fun _ _ _ _ _ => pg_name (i := 6) S.nd rfl (Or.inl rfl)) (fun _ _ _ _ _ => pts_one (pt_cmpR op_ne (pe_ix (r := rIxT K) ix_tup (pv 6) pe_int (fun _ _ => rfl)) (pe_ix (r := rIxT K) ix_tup (pv 6) pe_int (fun _ _ => rfl)) (nomark _))) (fun _ _ _ _ _ => pv 6))
      (pss_cons (ps_set (i := 5) S.nd rfl (Or.inl rfl) (pe_lst (pa_cons (pe_ifExp (pt_cmpR (op_neD hu) (pv 4) (pe_lst pa_nil) (nomark _)) pe_non pe_int)
          (pa_cons (pe_ifExp (pt_cmpR op_eq (pe_callB call_len_seq (by rfl) B.len PySem.boot_len (pa_cons (C8.pe_mt0 m1 hr (by decide) (pv 3)) pa_nil)) (pe_callB call_len_seq (by rfl) B.len PySem.boot_len (pa_cons (pv 2) pa_nil)) (nomark _)) pe_int pe_non) (pa_cons pe_non pa_nil)))))
      (pss_one (ps_ret (pe_cmpR (op_eqD hu) (pe_lst (pa_cons (C8.pe_c c3 hr (by decide) (by rfl) (pa_cons (pv 3) pa_nil)) (pa_cons (C8.pe_c c4 hr (by decide) (by rfl) (pa_cons (pv 3) pa_nil)) (pa_cons (C8.pe_c c5 hr (by decide) (by rfl) (pa_cons (pv 3) pa_nil)) pa_nil)))) (pv 5) (nomark _)))))))), ?_⟩
    -- nodes
    refine ⟨_, rfl, p, x, y, 30, rfl, hp, by decide, by decide, fun v x1 y1 hv => ?_⟩
    refine ⟨_, _, rfl, rfl, ?_⟩
    have en : V.int (1 + (v : Int)) = vn (1 + v) := vn_succ v 1
    show tSeq _ _ _ [some (V.ref p), some (V.int (1 + (v : Int))), none, none, none, none, none] _
    rw [en]
    obtain ⟨n, hn, hn0, hn30⟩ : ∃ n, 1 + v = n ∧ 0 < n ∧ n ≤ 30 := ⟨_, rfl, by omega, by omega⟩
    rw [hn]
    -- links
    have hp1 : upd H p (.lst [.int x1, .int y1]) p = some (.lst [.int x1, .int y1]) := upd_same
    have sh1 : Same (hid H p) (hid (upd H p (.lst [.int x1, .int y1])) p) := by rw [hid_upd]; exact Same.refl _
    generalize upd H p (.lst [.int x1, .int y1]) = H1 at hp1 sh1 ⊢
    refine ⟨_, rfl, _, rfl, by show 2 ≤ sizeLine; decide, fun lt nlt => ?_⟩
    have hpl : p ≠ lt := ne_fresh hp1 nlt
    have hp2 : upd H1 lt (.lst [.int 2, .int 60]) p = some (.lst [.int x1, .int y1]) := by rw [upd_ne hpl]; exact hp1
    have sh2 : Same (hid H p) (hid (upd H1 lt (.lst [.int 2, .int 60])) p) := sh1.trans (Same.hid (same_new nlt))
    refine ⟨_, rfl, p, x1, y1, 2, rfl, hp2, by decide, by decide, fun v2 x2 y2 hv2 => ?_⟩
    have hlt : upd (upd H1 lt (.lst [.int 2, .int 60])) p (.lst [.int x2, .int y2]) lt = some (.lst [.int 2, .int 60]) := by rw [upd_ne hpl.symm, upd_same]
    have hp3 : upd (upd H1 lt (.lst [.int 2, .int 60])) p (.lst [.int x2, .int y2]) p = some (.lst [.int x2, .int y2]) := upd_same
    have sh3 : Same (hid H p) (hid (upd (upd H1 lt (.lst [.int 2, .int 60])) p (.lst [.int x2, .int y2])) p) := by rw [hid_upd]; exact sh2
    generalize upd (upd H1 lt (.lst [.int 2, .int 60])) p (.lst [.int x2, .int y2]) = H3 at hlt hp3 sh3 ⊢
    obtain ⟨k, hk, hk60⟩ : ∃ k : Nat, ([V.int 2, V.int 60] : List V)[v2]? = some (vn k) ∧ k ≤ 60 := by
      match v2, hv2 with
      | 0, _ => exact ⟨2, rfl, by decide⟩
      | 1, _ => exact ⟨60, rfl, by decide⟩
    refine ⟨lt, _, _, vn k, rfl, rfl, SqL.of hlt, atI_nat hk, p, x2, y2, n, k, rfl, hp3, hn0, by omega, by omega, fun H4 ea es N4 x4 y4 sh4 hp4 nN4 sN4 nea hE he hel => ?_⟩
    have sh5 := sh3.trans sh4
    have hE4 := hE.same mono_edge sN4
    -- the web
    refine ⟨_, rfl, _, rfl, fun o dx no ndx hdo => ?_⟩
    refine ⟨H4, o, dx, ea, n, 0, es, rfl, (same_new ndx).trans (same_new (by rw [upd_ne hdo.symm]; exact no)), no, upd_same, hE4, he, by omega, hn0, hn30, .inl rfl, fun H5 N5 s45 nN5 sN5 hW => ⟨rfl, ?_⟩⟩
    have hW5 : WebAt C H5 o n 0 es := (hW H4 (Same.refl _) hE4).same (join_same s45 sN5)
    have hE5 := hE4.same mono_edge s45
    have sh6 := sh5.trans (Same.hid s45)
    have hp5 := s45 _ _ hp4
    obtain ⟨as, hea, hep⟩ := id hE5
    -- flat
    refine ⟨_, rfl, ea, rfl, ⟨_, SqL.of hea⟩, fun D1 nD1 => lc_list (K := K) (a := ea) (xs := as.map V.ref) (fun j H' => ∃ bs : List Addr, H' = upd H5 D1 (.lst (bs.map V.ref)) ∧ Paired (EdgeAt H5) bs ((es.take j).filter fun e => decide (e.1 ≠ e.2))) ⟨[], rfl, .nil⟩ (fun j H' _ ⟨bs, e, _⟩ => by rw [e]; exact SqL.of ((same_new nD1) _ _ hea)) ?_ ?_⟩
    · rintro j y' H' hj ⟨bs, rfl, hbs⟩
      obtain ⟨b, hb, rfl⟩ := refs_item hj
      obtain ⟨e, hje, hbe⟩ := Paired.at' hep hb
      have hT : SqT K (upd H5 D1 (.lst (bs.map V.ref))) b [vn e.1, vn e.2] := .inl (.inl ((same_new nD1) _ _ hbe))
      refine ⟨rfl, ?_⟩
      refine ⟨_, rfl, b, _, 0, _, rfl, rfl, hT, atI_nat (j := 0) rfl, _, rfl, b, _, 1, _, rfl, rfl, hT, atI_nat (j := 1) rfl, rfl, _, rfl, ?_⟩
      rw [dec_vn]
      have hbl : bs.length ≤ 60 := by
        rw [Paired.len hbs]
        have := List.length_filter_le (fun e : Edge => decide (e.1 ≠ e.2)) (es.take j)
        rw [List.length_take] at this
        omega
      by_cases hq : e.1 = e.2
      · rw [decide_eq_true hq]
        refine iteF ⟨bs, rfl, ?_⟩
        rw [take_snoc hje, List.filter_append, List.filter_cons, if_neg (by rw [decide_eq_false (fun z => z hq)]; decide)]
        simpa using hbs
      · rw [decide_eq_false hq]
        refine iteT ⟨_, rfl, _, upd_same, by rw [List.length_map]; exact line_lt (by omega), bs ++ [b], by rw [upd_upd, List.map_append]; rfl, ?_⟩
        rw [take_snoc hje, List.filter_append, List.filter_cons, if_pos (decide_eq_true hq)]
        exact Paired.snoc hbs hbe
    rintro H' ⟨bs, rfl, hbs⟩
    rw [List.length_map, Paired.len hep, List.take_length] at hbs
    generalize hfs : (es.filter fun e => decide (e.1 ≠ e.2)) = fs at hbs
    have s56 : Same H5 (upd H5 D1 (.lst (bs.map V.ref))) := same_new nD1
    have hfl : upd H5 D1 (.lst (bs.map V.ref)) D1 = some (.lst (bs.map V.ref)) := upd_same
    generalize upd H5 D1 (.lst (bs.map V.ref)) = H6 at s56 hfl ⊢
    have hb6 : Paired (StepAt H6) bs (es2 fs) := paired_es2 (Paired.mapP hbs fun a b r => mono_edge _ _ _ _ s56 r)
    -- due
    refine ⟨_, rfl, Nat.zero_le _, fun e0 ne0 => ?_⟩
    have s67 : Same H6 (upd H6 e0 (.lst [])) := same_new ne0
    refine ⟨.list ((es2 fs).map stepD), .list [], .lst (SqL.of (s67 _ _ hfl)) (dp_steps (Paired.mapP hb6 fun a b r => mono_step _ _ _ _ s67 r)), .lst (SqL.of upd_same) .nil, shaped_steps _, shaped_nil, _, rfl, ?_⟩
    generalize upd H6 e0 (.lst []) = H7 at s67 ⊢
    have s57 := s56.trans s67
    have flatE : PyData.eqv (.list ((es2 fs).map stepD)) (.list []) = decide ((frst es).length = 0) := by
      cases fs with
      | nil =>
        rw [decide_eq_true]
        · rw [PyData.eqv, es2, List.map_nil, List.map_nil, PyData.eqvAll]
        · have h1 : ∀ e ∈ es, e.1 = e.2 := fun e hem => by
            have := List.filter_eq_nil_iff.mp hfs e hem
            simpa using this
          rw [(frst_loops es).mpr h1]; rfl
      | cons f fs =>
        rw [decide_eq_false]
        · rw [PyData.eqv, es2, List.map_cons, List.map_cons, PyData.eqvAll]
        · intro z
          have h1 := (frst_loops es).mp (List.eq_nil_of_length_eq_zero z)
          have hm : f ∈ es.filter fun e => decide (e.1 ≠ e.2) := by rw [hfs]; exact List.mem_cons_self
          obtain ⟨h2, h3⟩ := List.mem_filter.mp hm
          exact (of_decide_eq_true h3) (h1 f h2)
    rw [flatE]
    refine ite_ov ?_
    obtain ⟨_, _, hl60, dxo, eA, fA, lA, ho, _⟩ := id hW5
    have hle := frst_le_len es
    have hcl := frst_le hW5.ends
    have hcp := comps_pos (n := n) (es := es) hn0
    rw [comps_count hW5.ends] at hcp
    refine ⟨_, rfl, o, dxo, _, rfl, s57 _ _ ho, wf_no4, o, n, 0, es, rfl, hW5.same s57, fun c nc => ?_⟩
    have s78 : Same H7 (upd H7 c (.lst ((frst es).map vn))) := same_new nc
    refine ⟨c, _, rfl, .inl (SqL.of upd_same), _, rfl, ea, _, rfl, .inl (SqL.of (s78 _ _ (s57 _ _ hea))), rfl, _, rfl, ?_⟩
    generalize upd H7 c (.lst ((frst es).map vn)) = H8 at s78 ⊢
    rw [List.length_map, List.length_map, Paired.len hep]
    refine ite_ov2 ?_
    have ed : decide (V.int ((frst es).length : Nat) = V.int (es.length : Nat)) = decide (es.length - (frst es).length = 0) := by
      rw [show decide (V.int ((frst es).length : Nat) = V.int (es.length : Nat)) = decide ((frst es).length = es.length) from dec_vn _ _]
      by_cases z : (frst es).length = es.length
      · rw [decide_eq_true z, decide_eq_true (by omega)]
      · rw [decide_eq_false z, decide_eq_false (by omega)]
    rw [ed]
    refine ⟨by show 3 ≤ sizeLine; decide, fun du ndu => ?_⟩
    have s89 : Same H8 (upd H8 du (.lst [ov (decide ((frst es).length = 0)), ov (decide (es.length - (frst es).length = 0)), .non])) := same_new ndu
    have hdu : upd H8 du (.lst [ov (decide ((frst es).length = 0)), ov (decide (es.length - (frst es).length = 0)), .non]) du = some (.lst [ov (decide ((frst es).length = 0)), ov (decide (es.length - (frst es).length = 0)), .non]) := upd_same
    have s59 := (s57.trans s78).trans s89
    generalize upd H8 du (.lst [ov (decide ((frst es).length = 0)), ov (decide (es.length - (frst es).length = 0)), .non]) = H9 at s59 hdu
    -- the three counts
    refine ⟨_, rfl, o, n, 0, es, rfl, hW5.same s59, by decide, fun Ha sa => ?_⟩
    have s5a := s59.trans sa
    refine ⟨_, rfl, o, n, 0, es, rfl, hW5.same s5a, by decide, fun Hb sb => ?_⟩
    have s5b := s5a.trans sb
    refine ⟨_, rfl, o, n, 0, es, rfl, hW5.same s5b, by decide, fun Hc sc => ?_⟩
    have s5c := s5b.trans sc
    rw [pw_zero, pw_zero, pw_zero, decide_eq_false (show ¬ n - (frst es).length = 0 by omega)]
    refine ⟨by show 3 ≤ sizeLine; decide, fun re nre => ?_⟩
    have scd : Same Hc (upd Hc re (.lst [ov (decide ((frst es).length = 0)), ov (decide (es.length - (frst es).length = 0)), ov false])) := same_new nre
    have hdu2 := scd _ _ (sc _ _ (sb _ _ (sa _ _ hdu)))
    refine ⟨_, rfl, .list [od (decide ((frst es).length = 0)), od (decide (es.length - (frst es).length = 0)), .none], .list [od (decide ((frst es).length = 0)), od (decide (es.length - (frst es).length = 0)), .none], .lst (SqL.of upd_same) (.cons (dp_ov _) (.cons (dp_ov _) (.cons .non .nil))), .lst (SqL.of hdu2) (.cons (dp_ov _) (.cons (dp_ov _) (.cons .non .nil))), shaped_od _ _, shaped_od _ _, ?_⟩
    rw [eqv_od]
    have s5d := s5c.trans scd
    exact q _ _ _ (sh6.trans (Same.hid s5d)) (s5d _ _ hp5)
end
end K18

set_option Elab.async false
set_option linter.all false
set_option maxRecDepth 100000
set_option maxHeartbeats 4000000
/-! _law_great. -/
namespace K18
open PySem PySem.Spec PyProof.Rows L2
theorem pow_big {m e : Nat} (hm : m ≤ 60) (he : e ≤ 60) : m ^ e < 2 ^ 1000 :=
  Nat.lt_of_le_of_lt (Nat.le_trans (Nat.pow_le_pow_left hm e) (Nat.pow_le_pow_right (n := 60) (by decide) he)) (by decide +kernel)
section
variable {P : Program} {w : World} {K : PySem.W.Frag} {mg : Str → Option Value} {base : Heap} {C : Addr}
abbrev Ngr : List Str := ["_law_pool_here", "_law_nodes", "_law_dial", "_law_links_here", "_law_names", "_law_tied", "_law_tail", "_law_head", "_law_due", "_law_times", "_law_power", "_law_turn", "_law_web", "_law_name"]
theorem S_gr : FnScope Ngr ["_law_pool_here"] (defScope s_law_great) := ⟨rfl, rfl, rfl, by decide +kernel, rfl, by decide +kernel, by decide +kernel⟩
theorem c_great (D : Dn K mg "_law_great" s_law_great) (B : Bt mg) (W : WebMk P w K mg base C) (c1 : C8.Cal P w K mg base 1 "_law_take" sp_take []) (c2 : C8.Cal P w K mg base 2 "_law_links" sp_llinks [])
    (c3 : C8.Cal P w K mg base 3 "class_size" (sp_size C) []) (c4 : C8.Cal P w K mg base 3 "class_count" (sp_count C) []) (c5 : C8.Cal P w K mg base 4 "potential_count" (sp_pots C) []) : CalG P w K mg base 7 "_law_great" sp_last := by
  have S := S_gr
  refine calG_mk D (ps := ["_law_pool_here"]) (fun _ _ _ _ _ _ us hl => match us, hl with | [_], _ => rfl) S (fun vs H Q E h => ?_) (fun f cdv A outer s0 H vs Q hr hg h => ?_)
  · obtain ⟨p, x, y, rfl, _⟩ := h; rfl
  · obtain ⟨p, x, y, rfl, hp, q⟩ := h
    have hu : (A.deeper (envOfC "_law_great" (defScope s_law_great) s0.heap.objs.size f cdv)).units + 64 < cLine := hr.units
    have hgA : (A.deeper (envOfC "_law_great" (defScope s_law_great) s0.heap.objs.size f cdv)).guards = some [] := hg
    refine ⟨_, pss_cons (ps_par rfl S.nd (i := 1) (j := 2) rfl rfl (by decide) rfl rfl (pa_cons (pe_op op_add pe_int (C8.pe_c c1 hr (by decide) (by rfl) (pa_cons (pv 0) (pa_cons pe_int pa_nil)))) (pa_cons (pe_op op_add pe_int (C8.pe_c c1 hr (by decide) (by rfl) (pa_cons (pv 0) (pa_cons pe_int pa_nil)))) pa_nil)) (by rfl))
      (pss_cons (ps_set (i := 3) S.nd rfl (Or.inl rfl) (C8.pe_c c2 hr (by decide) (by rfl) (pa_cons (pv 0) (pa_cons (pv 1) (pa_cons pe_int pa_nil)))))
      (pss_cons (ps_set (i := 4) S.nd rfl (Or.inr rfl) (pe_listRg rfl (by rfl) B.list (prg_1 (by rfl) B.range (pv 1))))
      (pss_cons (ps_set (i := 5) S.nd rfl (Or.inl rfl) pe_int)
      (pss_cons (ps_for PassesOwn.never rfl (pi_list (pv 3)) (pg_tup rfl (pgs_cons (pg_name (i := 6) S.nd rfl (Or.inr rfl)) (pgs_cons (pg_name (i := 7) S.nd rfl (Or.inr rfl)) pgs_nil)))
        (pss_one (ps_if (pt_cmpR op_ne (pe_ix ix_list (pv 4) (pv 6) (fun _ _ => rfl)) (pe_ix ix_list (pv 4) (pv 7) (fun _ _ => rfl)) (nomark _))
          (pss_cons (ps_set (i := 4) S.nd rfl (Or.inr rfl) (pe_lc (own := [("_law_name", 13)]) (g := gName 13) (tt := tYes) rfl S.nd (pi_list (pv 4)) (blkOk_by (own := [("_law_name", 13)]) (N := Ngr) (sc := defScope s_law_great) (by decide +kernel))
            (fun _ _ _ _ _ => pg_name (i := 13) S.nd rfl (Or.inl rfl)) (fun _ _ _ _ _ => pts_nil)
            (fun _ _ _ _ _ => pe_ifExp (pt_cmpR op_eq (pv 13) (pe_ix (r := rIxL K) ix_list (pv 4) (pv 7) (fun _ _ => rfl)) (nomark _)) (pe_ix (r := rIxL K) ix_list (pv 4) (pv 6) (fun _ _ => rfl)) (pv 13))))
          (pss_one (ps_set (i := 5) S.nd rfl (Or.inl rfl) (pe_op op_add (pv 5) pe_int)))) pss_nil)))
      (pss_cons (ps_set (i := 8) S.nd rfl (Or.inl rfl) (pe_lst pa_nil))
      (pss_cons (ps_for PassesOwn.never rfl (pi_list (pe_lst (pa_cons (pv 5) (pa_cons (pe_op op_sub (pe_callB call_len_seq (by rfl) B.len PySem.boot_len (pa_cons (pv 3) pa_nil)) (pv 5)) (pa_cons (pe_op op_sub (pv 1) (pv 5)) pa_nil))))) (pg_name (i := 9) S.nd rfl (Or.inl rfl))
        (pss_cons (ps_set (i := 10) S.nd rfl (Or.inl rfl) pe_int)
        (pss_cons (ps_for PassesOwn.never rfl (pi_range1 (by rfl) B.range (pa_cons (pv 9) pa_nil)) (pg_name (i := 11) S.nd rfl (Or.inl rfl)) (pss_one (ps_set (i := 10) S.nd rfl (Or.inl rfl) (pe_op op_mul (pv 10) (pv 2)))))
        (pss_one (ps_expr (pe_bm PySem.F.plainAttrs_list PySem.F.slot_list_append PySem.F.type_list_append mt_append (pv 8) (pa_cons (pv 10) pa_nil)))))))
      (pss_cons (ps_set (i := 12) S.nd rfl (Or.inl rfl) (pe_webK W hr (by decide) (by rfl) (pa_cons (pv 1) (pa_cons (pv 3) pa_nil)) (pk_cons (pv 2) pk_nil)))
      (pss_one (ps_ret (pe_cmpR op_eq (pe_callB (call_reprD hgA hu) (by rfl) B.repr bl_repr (pa_cons (pe_lst (pa_cons (C8.pe_c c3 hr (by decide) (by rfl) (pa_cons (pv 12) pa_nil)) (pa_cons (C8.pe_c c4 hr (by decide) (by rfl) (pa_cons (pv 12) pa_nil)) (pa_cons (C8.pe_c c5 hr (by decide) (by rfl) (pa_cons (pv 12) pa_nil)) pa_nil)))) pa_nil))
        (pe_callB (call_reprD hgA hu) (by rfl) B.repr bl_repr (pa_cons (pv 8) pa_nil)) (nomark _))))))))))), ?_⟩
    -- nodes, dial
    refine ⟨_, rfl, p, x, y, 30, rfl, hp, by decide, by decide, fun v x1 y1 hv => ⟨_, _, rfl, rfl, ?_⟩⟩
    refine ⟨_, rfl, p, x1, y1, 59, rfl, upd_same, by decide, by decide, fun v2 x2 y2 hv2 => ⟨_, _, rfl, rfl, _, _, rfl, ?_⟩⟩
    rw [upd_upd]
    have en : V.int (1 + (v : Int)) = vn (1 + v) := vn_succ v 1
    have em : V.int (2 + (v2 : Int)) = vn (2 + v2) := vn_succ v2 2
    show tSeq _ _ _ [some (V.ref p), some (V.int (1 + (v : Int))), some (V.int (2 + (v2 : Int))), none, none, none, none, none, none, none, none, none, none, none] _
    rw [en, em]
    obtain ⟨n, hn, hn0, hn30⟩ : ∃ n, 1 + v = n ∧ 0 < n ∧ n ≤ 30 := ⟨_, rfl, by omega, by omega⟩
    obtain ⟨m, hm, hm2, hm60⟩ : ∃ m, 2 + v2 = m ∧ 2 ≤ m ∧ m ≤ 60 := ⟨_, rfl, by omega, by omega⟩
    rw [hn, hm]
    have hp1 : upd H p (.lst [.int x2, .int y2]) p = some (.lst [.int x2, .int y2]) := upd_same
    have sh1 : Same (hid H p) (hid (upd H p (.lst [.int x2, .int y2])) p) := by rw [hid_upd]; exact Same.refl _
    generalize upd H p (.lst [.int x2, .int y2]) = H1 at hp1 sh1 ⊢
    -- links
    refine ⟨_, rfl, _, rfl, p, x2, y2, n, 60, rfl, hp1, hn0, by omega, by decide, fun H4 ea es N4 x4 y4 sh4 hp4 nN4 sN4 nea hE he hel => ?_⟩
    have sh5 := sh1.trans sh4
    have hE4 := hE.same mono_edge sN4
    obtain ⟨as, hea, hep⟩ := id hE4
    have hal : as.length = es.length := Paired.len hep
    -- names, tied
    refine ⟨_, rfl, _, rfl, RgOk.of_le (by decide) (by omega) (by decide) (by omega), fun g0 ng0 => ?_⟩
    have s4 : Same H4 (upd H4 g0 (.lst (rgV 0 (n : Int)))) := same_new ng0
    refine ⟨_, rfl, ea, rfl, ⟨_, SqL.of (s4 _ _ hea)⟩, for_list (K := K) (a := ea) (xs := as.map V.ref) (fun i σ H' => ∃ (gA : Addr) (v6 v7 : Option V), σ = [some (.ref p), some (vn n), some (vn m), some (.ref ea), some (.ref gA), some (vn (frst (es.take i)).length), v6, v7, none, none, none, none, none, none] ∧ Same H4 H' ∧
      RowAt H' gA ((List.range n).map (grp (es.take i)))) ⟨g0, none, none, rfl, s4, ?_⟩ (fun i σ H' _ ⟨_, _, _, _, s, _⟩ => SqL.of (s _ _ hea)) ?_ ?_⟩
    · show _ = _
      rw [upd_same]
      unfold rgV
      rw [List.map_map, show ((n : Int) - 0).toNat = n by omega]
      congr 2
      refine List.map_congr_left fun v _ => ?_
      show V.int (0 + (v : Int)) = V.int _
      rw [Int.zero_add]
      rfl
    · rintro i y0 σ H2 hi ⟨gA, v6, v7, rfl, s2, hG⟩
      obtain ⟨a, ha, rfl⟩ := refs_item hi
      obtain ⟨e, hie, hae⟩ := Paired.at' hep ha
      have hend := he e (List.mem_of_getElem? hie)
      have g1 := rng_item (grp (es.take i)) hend.1
      have g2 := rng_item (grp (es.take i)) hend.2
      refine ⟨a, _, rfl, .inl (.inl (s2 _ _ hae)), rfl, _, _, rfl, _, _, rfl, rfl, ?_⟩
      refine ⟨_, rfl, _, rfl, gA, _, _, _, rfl, rfl, SqL.of hG, atI_nat g1, _, rfl, _, rfl, gA, _, _, _, rfl, rfl, SqL.of hG, atI_nat g2, rfl, _, rfl, ?_⟩
      rw [dec_vn]
      by_cases hq : grp (es.take i) e.1 = grp (es.take i) e.2
      · rw [decide_eq_true hq]
        refine iteF ⟨gA, some (vn e.1), some (vn e.2), ?_, s2, ?_⟩
        · rw [take_snoc hie, frst_snoc, if_neg (fun z => z hq), List.append_nil]; rfl
        · rw [take_snoc hie, grp_snoc]; unfold gstep; rw [if_neg (fun z => z hq)]; exact hG
      · rw [decide_eq_false hq]
        refine iteT ?_
        refine ⟨_, rfl, gA, rfl, ⟨_, SqL.of hG⟩, fun Dd hD => lc_list (K := K) (a := gA) (xs := ((List.range n).map (grp (es.take i))).map vn) (fun j H' => H' = upd H2 Dd (.lst ((List.range j).map fun v => vn (merge (grp (es.take i)) e v)))) rfl (fun j H' _ hh => ?_) ?_ ?_⟩
        · rw [hh]; exact SqL.of ((same_new hD) _ _ hG)
        · rintro j y H' hj rfl
          have hjn : j < n := by
            have := (List.getElem?_eq_some_iff.mp hj).1
            rw [List.length_map, List.length_map, List.length_range] at this
            exact this
          have hGd := (same_new (o := .lst ((List.range j).map fun v => vn (merge (grp (es.take i)) e v))) hD) _ _ hG
          rw [rng_item _ hjn] at hj
          obtain rfl := Option.some.inj hj
          have hzj : ((List.range j).map fun v => vn (merge (grp (es.take i)) e v)).length < sizeLine := by
            rw [List.length_map, List.length_range]; exact line_lt (by omega)
          refine ⟨rfl, yes ?_⟩
          refine ⟨_, rfl, _, rfl, _, rfl, gA, _, _, _, rfl, rfl, SqL.of hGd, atI_nat g2, rfl, _, rfl, ?_⟩
          rw [dec_vn]
          have fin : ∀ x : Nat, x = merge (grp (es.take i)) e j → upd (upd H2 Dd (.lst ((List.range j).map fun v => vn (merge (grp (es.take i)) e v)))) Dd (.lst (((List.range j).map fun v => vn (merge (grp (es.take i)) e v)) ++ [vn x])) = upd H2 Dd (.lst ((List.range (j + 1)).map fun v => vn (merge (grp (es.take i)) e v))) := by
            rintro x rfl
            rw [upd_upd, rng_snoc]
          by_cases hz : grp (es.take i) j = grp (es.take i) e.2
          · rw [decide_eq_true hz]
            exact iteT ⟨_, rfl, _, rfl, gA, _, _, _, rfl, rfl, SqL.of hGd, atI_nat g1, _, upd_same, hzj, fin _ (by unfold merge; rw [if_pos hz])⟩
          · rw [decide_eq_false hz]
            exact iteF ⟨_, rfl, _, upd_same, hzj, fin _ (by unfold merge; rw [if_neg hz])⟩
        · rintro H' rfl
          rw [List.length_map, List.length_map, List.length_range]
          have ef : vn (frst (es.take (i + 1))).length = V.int (((frst (es.take i)).length : Nat) + 1) := by
            rw [take_snoc hie, frst_snoc, if_pos hq, List.length_append, List.length_singleton]; rfl
          refine ⟨_, rfl, _, _, rfl, rfl, Dd, some (vn e.1), some (vn e.2), ?_, s2.fresh hD, ?_⟩
          · rw [ef]; rfl
          · show _ = _
            rw [upd_same, take_snoc hie, grp_snoc]
            unfold gstep
            rw [if_pos hq, List.map_map]
            rfl
    rintro σ H5 ⟨gA, v6, v7, rfl, s45, _⟩
    rw [List.length_map, hal, List.take_length]
    have hle := frst_le_len es
    have hcl := frst_le he
    -- due
    refine ⟨Nat.zero_le _, fun dA ndA => ?_⟩
    have s56 : Same H4 (upd H5 dA (.lst [])) := s45.fresh ndA
    have hdA : upd H5 dA (.lst []) dA = some (.lst []) := upd_same
    have nd4 : H4 dA = none := s45.free ndA
    generalize upd H5 dA (.lst []) = H6 at s56 hdA
    refine ⟨_, rfl, _, rfl, ea, _, rfl, .inl (SqL.of (s56 _ _ hea)), _, rfl, _, _, rfl, rfl, _, rfl, _, rfl, _, _, rfl, rfl, by show 3 ≤ sizeLine; decide, fun tA ntA => ?_⟩
    have et : [vn (frst es).length, V.int (((as.map V.ref).length : Nat) - ((frst es).length : Nat)), V.int ((n : Int) - ((frst es).length : Nat))] = [(frst es).length, es.length - (frst es).length, n - (frst es).length].map vn := by
      rw [List.length_map, hal, ← Int.ofNat_sub hle, ← Int.ofNat_sub hcl]; rfl
    have hdt : dA ≠ tA := ne_fresh hdA ntA
    show ∃ a, V.ref tA = V.ref a ∧ _
    refine ⟨tA, rfl, ?_⟩
    rw [show upd H6 tA (.lst [vn (frst es).length, V.int (((as.map V.ref).length : Nat) - ((frst es).length : Nat)), V.int ((n : Int) - ((frst es).length : Nat))]) = upd H6 tA (.lst ([(frst es).length, es.length - (frst es).length, n - (frst es).length].map vn)) by rw [et]]
    generalize hts : [(frst es).length, es.length - (frst es).length, n - (frst es).length] = ts
    have hts60 : ∀ t ∈ ts, t ≤ 60 := by
      rw [← hts]; intro t ht
      simp at ht
      omega
    have htl : ts.length = 3 := by rw [← hts]; rfl
    have s67 : Same H4 (upd H6 tA (.lst (ts.map vn))) := s56.fresh ntA
    have htA : upd H6 tA (.lst (ts.map vn)) tA = some (.lst (ts.map vn)) := upd_same
    have hd7 : upd H6 tA (.lst (ts.map vn)) dA = some (.lst []) := by rw [upd_ne hdt]; exact hdA
    generalize upd H6 tA (.lst (ts.map vn)) = H7 at s67 htA hd7 ⊢
    refine ⟨⟨_, SqL.of htA⟩, for_list (K := K) (a := tA) (xs := ts.map vn) (fun i σ H' => ∃ (v6 v7 v9 v10 v11 : Option V), σ = [some (.ref p), some (vn n), some (vn m), some (.ref ea), some (.ref gA), some (vn (frst es).length), v6, v7, some (.ref dA), v9, v10, v11, none, none] ∧ Same H4 H' ∧ H' tA = some (.lst (ts.map vn)) ∧
      H' dA = some (.lst (((ts.take i).map fun t => m ^ t).map vn))) ⟨v6, v7, none, none, none, rfl, s67, htA, hd7⟩ (fun i σ H' _ ⟨_, _, _, _, _, _, _, h, _⟩ => SqL.of h) ?_ ?_⟩
    · rintro i y0 σ H8 hi ⟨v6, v7, v9, v10, v11, rfl, s8, ht8, hd8⟩
      obtain ⟨t, ht, rfl⟩ := vns_item hi
      have ht60 := hts60 t (List.mem_of_getElem? ht)
      refine ⟨_, rfl, _, rfl, by omega, by omega, for_range (lo := 0) (n := (t : Int).toNat) (fun j σ H' => ∃ (v11 : Option V), σ = [some (.ref p), some (vn n), some (vn m), some (.ref ea), some (.ref gA), some (vn (frst es).length), v6, v7, some (.ref dA), some (vn t), some (vn (m ^ j)), v11, none, none] ∧ H' = H8) ⟨v11, rfl, rfl⟩ ?_ ?_⟩
      · rintro j σ H' hj ⟨v11, rfl, rfl⟩
        refine ⟨_, rfl, _, rfl, _, _, rfl, rfl, .inr ⟨by omega, by omega⟩, some (V.int (0 + (j : Int))), ?_, rfl⟩
        have e : V.int (((m ^ j : Nat) : Int) * (m : Int)) = vn (m ^ (j + 1)) := by rw [Nat.pow_succ]; exact congrArg V.int (Int.natCast_mul _ _).symm
        rw [← e]
        rfl
      · rintro σ H' ⟨v11, rfl, rfl⟩
        rw [Int.toNat_natCast]
        have hl3 : ((ts.take i).map fun t => m ^ t).length ≤ 3 := by rw [List.length_map, List.length_take]; omega
        refine ⟨_, rfl, .inl ⟨rfl, _, SqL.of hd8⟩, _, rfl, dA, _, _, rfl, rfl, hd8, by rw [List.length_map]; exact line_lt (by omega), ?_⟩
        have htd : tA ≠ dA := hdt.symm
        refine ⟨_, _, _, _, _, rfl, s8.mut nd4, by rw [upd_ne htd]; exact ht8, ?_⟩
        rw [upd_same, take_snoc ht, List.map_append, List.map_append]
        rfl
    rintro σ H8 ⟨v6, v7, v9, v10, v11, rfl, s8, ht8, hd8⟩
    rw [List.length_map, List.take_length] at hd8
    -- the web
    have hE8 := hE4.same mono_edge s8
    refine ⟨_, rfl, _, rfl, _, rfl, rfl, rfl, fun o dx no ndx hdo => ?_⟩
    refine ⟨H8, o, dx, ea, n, m, es, rfl, (same_new ndx).trans (same_new (by rw [upd_ne hdo.symm]; exact no)), no, upd_same, hE8, he, hel, hn0, hn30, .inr ⟨hm2, hm60⟩, fun H9 N9 s89 nN9 sN9 hW => ⟨rfl, ?_⟩⟩
    have hW9 : WebAt C H9 o n m es := (hW H8 (Same.refl _) hE8).same (join_same s89 sN9)
    -- the three counts
    refine ⟨_, rfl, o, n, m, es, rfl, hW9, hm60, fun Ha sa => ?_⟩
    refine ⟨_, rfl, o, n, m, es, rfl, hW9.same sa, hm60, fun Hb sb => ?_⟩
    have s9b := sa.trans sb
    refine ⟨_, rfl, o, n, m, es, rfl, hW9.same s9b, hm60, fun Hc sc => ?_⟩
    have s9c := s9b.trans sc
    have hm0 : 0 < m := by omega
    rw [pw_pos hm0, pw_pos hm0, pw_pos hm0]
    refine ⟨by show 3 ≤ sizeLine; decide, fun re nre => ?_⟩
    have hrow : upd Hc re (.lst [V.int ((m ^ (frst es).length : Nat) : Int), V.int ((m ^ (es.length - (frst es).length) : Nat) : Int), V.int ((m ^ (n - (frst es).length) : Nat) : Int)]) re = some (.lst ((ts.map fun t => m ^ t).map vn)) := by
      rw [upd_same, ← hts]; rfl
    have scd : Same Hc (upd Hc re (.lst [V.int ((m ^ (frst es).length : Nat) : Int), V.int ((m ^ (es.length - (frst es).length) : Nat) : Int), V.int ((m ^ (n - (frst es).length) : Nat) : Int)])) := same_new nre
    generalize upd Hc re (.lst [V.int ((m ^ (frst es).length : Nat) : Int), V.int ((m ^ (es.length - (frst es).length) : Nat) : Int), V.int ((m ^ (n - (frst es).length) : Nat) : Int)]) = Hd at hrow scd ⊢
    have hdd := scd _ _ (s9c _ _ (s89 _ _ hd8))
    have hbig : ∀ z ∈ ts.map (fun t => m ^ t), z < 2 ^ 1000 := fun z hz => by
      obtain ⟨t, ht, rfl⟩ := List.mem_map.mp hz
      exact pow_big hm60 (hts60 t ht)
    have hl3 : (ts.map fun t => m ^ t).length ≤ 1000 := by rw [List.length_map]; omega
    have shw : (rowD (ts.map fun t => m ^ t)).showable = true := by unfold rowD; rw [PyData.showable]; exact show_row _ hbig
    have nod : (rowD (ts.map fun t => m ^ t)).hasDict = false := by unfold rowD; rw [PyData.hasDict]; exact dict_row _
    have dep : (rowD (ts.map fun t => m ^ t)).depth ≤ 60 := by unfold rowD; rw [PyData.depth, depth_row]; decide
    refine ⟨re, rowD (ts.map fun t => m ^ t), rfl, .lst (SqL.of hrow) (dp_row _), shw, nod, dep, shown_fit hbig hl3, ?_⟩
    refine ⟨_, rfl, dA, rowD (ts.map fun t => m ^ t), rfl, .lst (SqL.of hdd) (dp_row _), shw, nod, dep, shown_fit hbig hl3, rfl, ?_⟩
    rw [decide_eq_true rfl]
    have sfin := (s8.trans s89).trans (s9c.trans scd)
    exact q _ _ _ (sh5.trans (Same.hid sfin)) (sfin _ _ hp4)
end
end K18

set_option Elab.async false
set_option linter.all false
set_option maxRecDepth 100000
set_option maxHeartbeats 4000000
/-! law. -/
namespace K18
open PySem PySem.Spec PyProof.Rows L2
theorem SqL.same {K : PySem.W.Frag} {H H' : Hp} {a : Addr} {xs : List V} (s : Same H H') (h : SqL K H a xs) : SqL K H' a xs := by
  rcases h with (h | ⟨o, h⟩) | h
  · exact .inl (.inl (s _ _ h))
  · exact .inl (.inr ⟨o, s _ _ h⟩)
  · exact .inr h
theorem lay_row : ∀ r : List Nat, PyData.canLayAll0 (r.map fun x : Nat => PyData.int (x : Int)) = true
  | [] => by simp [PyData.canLayAll0]
  | s :: ss => by simp [PyData.canLayAll0, PyData.canLay0, lay_row ss]
theorem shaped_row (r : List Nat) : SeqAt.shaped (rowD r) = true := by
  unfold SeqAt.shaped rowD
  have h1 : PyData.canLay0 (.list (r.map fun x : Nat => PyData.int (x : Int))) = true := by rw [PyData.canLay0]; exact lay_row r
  have h2 : PyData.depth (.list (r.map fun x : Nat => PyData.int (x : Int))) ≤ 64 := by rw [PyData.depth, depth_row]; decide
  rw [h1, decide_eq_true h2]; rfl
theorem eqv_all : ∀ r q : List Nat, PyData.eqvAll (r.map fun x : Nat => PyData.int (x : Int)) (q.map fun x : Nat => PyData.int (x : Int)) = decide (r = q)
  | [], [] => by simp [PyData.eqvAll]
  | [], _ :: _ => by simp [PyData.eqvAll]
  | _ :: _, [] => by simp [PyData.eqvAll]
  | a :: r, b :: q => by
    rw [List.map_cons, List.map_cons, PyData.eqvAll, PyData.eqv, eqv_all r q]
    by_cases h : a = b
    · subst h; simp
    · have : ¬ ((a : Int) = (b : Int)) := fun z => h (Int.ofNat.inj z)
      simp [h, this]
theorem eqv_row (r q : List Nat) : PyData.eqv (rowD r) (rowD q) = decide (r = q) := by
  unfold rowD
  rw [PyData.eqv, eqv_all]
theorem log_big {x : Nat} (h : x < 2 ^ 1000) : ((x : Nat) : Int).natAbs.log2 < 1920 := by
  rw [Int.natAbs_natCast]
  exact PySem.Flt.log2_lt_of (by decide) (Nat.lt_of_lt_of_le h (Nat.pow_le_pow_right (by decide) (by decide)))
section
variable {P : Program} {w : World} {K : PySem.W.Frag} {mg : Str → Option Value} {base : Heap} {C : Addr}
abbrev Nlaw : List Str := ["_law_script", "_law_k", "_law_pool_here", "_law_nodes", "_law_dial", "_law_links_here", "_law_web", "_law_levels", "_law_gains_there", "_law_some", "_law_reached", "_law_row"]
theorem S_law : FnScope Nlaw ["_law_script"] (defScope s_law) := ⟨rfl, rfl, rfl, by decide +kernel, rfl, by decide +kernel, by decide +kernel⟩
def spLaw (K : PySem.W.Frag) : Sp := fun vs H Q _ => ∃ (a : Addr) (ns : List Int), vs = [.ref a] ∧ SqL K H a (ns.map V.int) ∧ ns.length ≤ 63 ∧ ∀ H', Q (.bl true) H'
theorem c_law (D : Dn K mg "law" s_law) (B : Bt mg) (W : WebMk P w K mg base C) (cP : C8.Cal P w K mg base 1 "_law_pool" (sp_pool K) []) (cT : C8.Cal P w K mg base 1 "_law_take" sp_take []) (cL : C8.Cal P w K mg base 2 "_law_links" sp_llinks [])
    (cA : C8.Cal P w K mg base 1 "_law_all" sp_all []) (cU : CalG P w K mg base 1 "_law_unlike" sp_unlike) (cPu : C8.Cal P w K mg base 2 "_law_put" sp_put []) (cN : C8.Cal P w K mg base 9 "normal" (sp_normal C) [])
    (c3 : C8.Cal P w K mg base 3 "class_size" (sp_size C) []) (c4 : C8.Cal P w K mg base 3 "class_count" (sp_count C) []) (c5 : C8.Cal P w K mg base 4 "potential_count" (sp_pots C) [])
    (cE : C8.Cal P w K mg base 7 "_law_endless" sp_last []) (cG : CalG P w K mg base 7 "_law_great" sp_last) : CalG P w K mg base 10 "law" (spLaw K) := by
  have S := S_law
  refine calG_mk D (ps := ["_law_script"]) (fun _ _ _ _ _ _ us hl => match us, hl with | [_], _ => rfl) S (fun vs H Q E h => ?_) (fun f cdv A outer s0 H vs Q hr hg h => ?_)
  · obtain ⟨a, ns, rfl, _⟩ := h; rfl
  · obtain ⟨a, ns, rfl, hS, hl, q⟩ := h
    have hu : (A.deeper (envOfC "law" (defScope s_law) s0.heap.objs.size f cdv)).units + 64 < cLine := hr.units
    have hgA : (A.deeper (envOfC "law" (defScope s_law) s0.heap.objs.size f cdv)).guards = some [] := hg
    refine ⟨_, pss_cons (ps_for PassesOwn.never rfl (pi_range1 (by rfl) B.range (pa_cons (pe_callB (call_max2 rfl) (by rfl) B.max bl_max (pa_cons pe_int (pa_cons (pe_callB (call_min2 rfl) (by rfl) B.min bl_min (pa_cons (pe_callB call_len_seq (by rfl) B.len PySem.boot_len (pa_cons (pv 0) pa_nil)) (pa_cons pe_int pa_nil))) pa_nil))) pa_nil)) (pg_name (i := 1) S.nd rfl (Or.inl rfl))
        (pss_cons (ps_set (i := 2) S.nd rfl (Or.inl rfl) (C8.pe_c cP hr (by decide) (by rfl) (pa_cons (pv 0) (pa_cons (pv 1) pa_nil))))
        (pss_cons (ps_asg (pe_tup (pa_cons (pe_op op_add pe_int (C8.pe_c cT hr (by decide) (by rfl) (pa_cons (pv 2) (pa_cons pe_int pa_nil)))) (pa_cons (pe_op op_add pe_int (C8.pe_c cT hr (by decide) (by rfl) (pa_cons (pv 2) (pa_cons pe_int pa_nil)))) pa_nil))) (pg_tup rfl (pgs_cons (pg_name (i := 3) S.nd rfl (Or.inl rfl)) (pgs_cons (pg_name (i := 4) S.nd rfl (Or.inr rfl)) pgs_nil))))
        (pss_cons (ps_set (i := 5) S.nd rfl (Or.inr rfl) (C8.pe_c cL hr (by decide) (by rfl) (pa_cons (pv 2) (pa_cons (pv 3) (pa_cons pe_int pa_nil)))))
        (pss_cons (ps_set (i := 6) S.nd rfl (Or.inr rfl) (pe_webK W hr (by decide) (by rfl) (pa_cons (pv 3) (pa_cons (pv 5) pa_nil)) (pk_cons (pv 4) pk_nil)))
        (pss_cons (ps_set (i := 7) S.nd rfl (Or.inl rfl) (C8.pe_c cA hr (by decide) (by rfl) (pa_cons (pv 3) (pa_cons (pv 4) pa_nil))))
        (pss_cons (ps_set (i := 8) S.nd rfl (Or.inl rfl) (C8.pe_c cA hr (by decide) (by rfl) (pa_cons (pe_callB call_len_seq (by rfl) B.len PySem.boot_len (pa_cons (pv 5) pa_nil)) (pa_cons (pv 4) pa_nil))))
        (pss_cons (ps_set (i := 9) S.nd rfl (Or.inr rfl) (pe_ix ix_list (pv 8) (C8.pe_c cT hr (by decide) (by rfl) (pa_cons (pv 2) (pa_cons (pe_callB call_len_seq (by rfl) B.len PySem.boot_len (pa_cons (pv 8) pa_nil)) pa_nil))) (fun _ _ => rfl)))
        (pss_cons (ps_setLc (i := 10) (own := [("_law_row", 11)]) (g := gName 11) (tt := tYes) rfl S.nd rfl rfl (sw_true rfl rfl rfl (by decide +kernel)) (pi_list (pv 7)) (blkOk_by (own := [("_law_row", 11)]) (N := Nlaw) (sc := defScope s_law) (by decide +kernel))
          (fun _ _ _ _ _ => pg_name (i := 11) S.nd rfl (Or.inl rfl)) (fun _ _ _ _ _ => pts_nil) (fun _ _ _ _ _ => C8.pe_c cPu hr (by decide) (by rfl) (pa_cons (pv 5) (pa_cons (pv 4) (pa_cons (pv 9) (pa_cons (pv 11) pa_nil))))))
        (pss_cons (ps_if (pt_cmpR op_ne (pe_callB SkE.call_repr_int (by rfl) B.repr bl_repr (pa_cons (C8.pe_c c3 hr (by decide) (by rfl) (pa_cons (pv 6) pa_nil)) pa_nil)) (pe_callB SkE.call_repr_int (by rfl) B.repr bl_repr (pa_cons (pe_g cU hgA hr (by decide) (by rfl) (pa_cons (pv 10) pa_nil)) pa_nil)) (nomark _)) (pss_one (ps_ret pe_bl)) pss_nil)
        (pss_cons (ps_if (pt_cmpR op_ne (pe_callB SkE.call_repr_int (by rfl) B.repr bl_repr (pa_cons (C8.pe_c c4 hr (by decide) (by rfl) (pa_cons (pv 6) pa_nil)) pa_nil)) (pe_callB SkE.call_repr_int (by rfl) B.repr bl_repr (pa_cons (pe_g cU hgA hr (by decide) (by rfl) (pa_cons (pe_lc (own := [("_law_row", 11)]) (g := gName 11) (tt := tYes) rfl S.nd (pi_list (pv 8)) (blkOk_by (own := [("_law_row", 11)]) (N := Nlaw) (sc := defScope s_law) (by decide +kernel))
            (fun _ _ _ _ _ => pg_name (i := 11) S.nd rfl (Or.inl rfl)) (fun _ _ _ _ _ => pts_nil) (fun _ _ _ _ _ => C8.pe_c cN hr (by decide) (by rfl) (pa_cons (pv 6) (pa_cons (pv 11) pa_nil)))) pa_nil)) pa_nil)) (nomark _)) (pss_one (ps_ret pe_bl)) pss_nil)
        (pss_cons (ps_if (pt_cmpR op_ne (pe_callB SkE.call_repr_int (by rfl) B.repr bl_repr (pa_cons (C8.pe_c c5 hr (by decide) (by rfl) (pa_cons (pv 6) pa_nil)) pa_nil)) (pe_callB SkE.call_repr_int (by rfl) B.repr bl_repr (pa_cons (pe_callB call_len_seq (by rfl) B.len PySem.boot_len (pa_cons (pe_lc (own := [("_law_row", 11)]) (g := gName 11) (tt := tTest (tOp (rEqD K) (tVar 11) (tVar 9))) rfl S.nd (pi_list (pv 10)) (blkOk_by (own := [("_law_row", 11)]) (N := Nlaw) (sc := defScope s_law) (by decide +kernel))
            (fun _ _ _ _ _ => pg_name (i := 11) S.nd rfl (Or.inl rfl)) (fun _ _ _ _ _ => pts_one (pt_cmpR (op_eqD hu) (pv 11) (pv 9) (nomark _))) (fun _ _ _ _ _ => pv 11)) pa_nil)) pa_nil)) (nomark _)) (pss_one (ps_ret pe_bl)) pss_nil)
        (pss_one (ps_if (PW.pt (pw_or (pt_not (pt_val (C8.pe_c cE hr (by decide) (by rfl) (pa_cons (pv 2) pa_nil)))) (pw_or1 (pt_not (pt_val (pe_g cG hgA hr (by decide) (by rfl) (pa_cons (pv 2) pa_nil))))))) (pss_one (ps_ret pe_bl)) pss_nil))))))))))))))
      (pss_one (ps_ret pe_bl)), ?_⟩
    refine ⟨_, rfl, a, _, rfl, .inl hS, _, _, rfl, _, _, rfl, ?_⟩
    rw [List.length_map]
    generalize hkk : (if (if (3 : Int) < (ns.length : Nat) then (3 : Int) else (ns.length : Nat)) > 1 then (if (3 : Int) < (ns.length : Nat) then (3 : Int) else (ns.length : Nat)) else (1 : Int)) = kk
    have hk1 : 1 ≤ kk := by rw [← hkk]; split <;> omega
    have hk3 : kk ≤ 3 := by rw [← hkk]; split <;> split <;> omega
    refine ⟨_, rfl, by omega, by omega, for_range (lo := 0) (n := kk.toNat) (fun i σ H' => ∃ (v1 v2 v3 v4 v5 v6 v7 v8 v9 v10 v11 : Option V), σ = [some (.ref a), v1, v2, v3, v4, v5, v6, v7, v8, v9, v10, v11] ∧ SqL K H' a (ns.map V.int))
      ⟨none, none, none, none, none, none, none, none, none, none, none, rfl, hS⟩ ?_ ?_⟩
    case refine_2 =>
      rintro σ H1 ⟨v1, v2, v3, v4, v5, v6, v7, v8, v9, v10, v11, rfl, _⟩
      exact q H1
    rintro i σ H1 hi ⟨v1, v2, v3, v4, v5, v6, v7, v8, v9, v10, v11, rfl, hS1⟩
    have ek : V.int (0 + (i : Int)) = vn i := by rw [Int.zero_add]
    show tSeq _ _ _ [some (.ref a), some (V.int (0 + (i : Int))), v2, v3, v4, v5, v6, v7, v8, v9, v10, v11] _
    rw [ek]
    -- the pool
    refine ⟨_, rfl, _, rfl, a, ns, i, rfl, hS1, by omega, fun p x y np => ?_⟩
    have hp0 : upd H1 p (.lst [.int x, .int y]) p = some (.lst [.int x, .int y]) := upd_same
    have sS : ∀ H', Same (hid (upd H1 p (.lst [.int x, .int y])) p) (hid H' p) → SqL K H' a (ns.map V.int) := fun H' s => SqL.same (Same.of_hid (same_new np) np s) hS1
    generalize upd H1 p (.lst [.int x, .int y]) = H2 at hp0 sS ⊢
    -- nodes, dial
    refine ⟨_, rfl, p, x, y, 4, rfl, hp0, by decide, by decide, fun v x1 y1 hv => ⟨_, _, rfl, rfl, ?_⟩⟩
    refine ⟨_, rfl, p, x1, y1, 3, rfl, upd_same, by decide, by decide, fun u x2 y2 hw => ⟨_, _, rfl, rfl, by show 2 ≤ sizeLine; decide, fun tp ntp => ?_⟩⟩
    rw [upd_upd] at ntp ⊢
    have hp1 : upd H2 p (.lst [.int x2, .int y2]) p = some (.lst [.int x2, .int y2]) := upd_same
    have sh1 : Same (hid H2 p) (hid (upd H2 p (.lst [.int x2, .int y2])) p) := by rw [hid_upd]; exact Same.refl _
    generalize upd H2 p (.lst [.int x2, .int y2]) = H3 at hp1 sh1 ntp ⊢
    have en : V.int (1 + (v : Int)) = vn (1 + v) := vn_succ v 1
    have em : V.int (2 + (u : Int)) = vn (2 + u) := vn_succ u 2
    obtain ⟨n, hn, hn0, hn4⟩ : ∃ n, 1 + v = n ∧ 0 < n ∧ n ≤ 4 := ⟨_, rfl, by omega, by omega⟩
    obtain ⟨m, hm, hm2, hm4⟩ : ∃ m, 2 + u = m ∧ 2 ≤ m ∧ m ≤ 4 := ⟨_, rfl, by omega, by omega⟩
    have hm0 : 0 < m := by omega
    have htp : upd H3 tp (.tup [V.int (1 + (v : Int)), V.int (2 + (u : Int))]) tp = some (.tup [vn n, vn m]) := by rw [upd_same, en, em, hn, hm]
    refine ⟨tp, [vn n, vn m], rfl, .inl (.inl htp), rfl, _, _, rfl, _, _, rfl, rfl, ?_⟩
    have hp3 := (same_new (o := .tup [V.int (1 + (v : Int)), V.int (2 + (u : Int))]) ntp) _ _ hp1
    have sh3 := sh1.trans (Same.hid (p := p) (same_new (o := .tup [V.int (1 + (v : Int)), V.int (2 + (u : Int))]) ntp))
    generalize upd H3 tp (.tup [V.int (1 + (v : Int)), V.int (2 + (u : Int))]) = H4 at hp3 sh3 ⊢
    -- links
    refine ⟨_, rfl, _, rfl, p, x2, y2, n, 4, rfl, hp3, hn0, by omega, by decide, fun H5 ea es N5 x5 y5 sh45 hp5 nN5 sN5 nea hE he hel => ?_⟩
    have sh5 := sh3.trans sh45
    have hE5 : LsAt EdgeAt (hid H5 p) ea es := hE.same mono_edge (nN5.hid sN5 hp3)
    -- the web
    refine ⟨_, rfl, _, rfl, _, rfl, rfl, rfl, fun o dx no ndx hdo => ?_⟩
    refine ⟨H5, o, dx, ea, n, m, es, rfl, (same_new ndx).trans (same_new (by rw [upd_ne hdo.symm]; exact no)), no, upd_same, hE5.same mono_edge hid_same, he, by omega, hn0, by omega, .inr ⟨hm2, by omega⟩, fun H6 N6 s56 nN6 sN6 hW => ⟨rfl, ?_⟩⟩
    have hp6 := s56 _ _ hp5
    have sh6 := sh5.trans (Same.hid s56)
    have hE6 := hE5.same mono_edge (Same.hid s56)
    have hW6 : WebAt C (hid H6 p) o n m es := (hW (hid H5 p) hid_same hE5).same (join_same (Same.hid s56) (nN6.hid sN6 hp5))
    -- levels
    refine ⟨_, rfl, _, rfl, n, m, rfl, hn4, hm4, fun H7 lA N7 s67 nN7 sN7 nlA hL => ?_⟩
    have hp7 := s67 _ _ hp6
    have sh7 := sh6.trans (Same.hid s67)
    have hE7 := hE6.same mono_edge (Same.hid s67)
    have hW7 := hW6.same (Same.hid s67)
    have hL7 : LsAt RowAt (hid H7 p) lA (allv m n) := hL.same mono_row (nN7.hid sN7 hp6)
    -- gains
    obtain ⟨as, hea, hep⟩ := id hE7
    have hal : as.length = es.length := Paired.len hep
    refine ⟨_, rfl, ea, _, rfl, .inl (SqL.of (hid_same _ _ hea)), _, rfl, es.length, m, by rw [List.length_map, hal]; rfl, hel, hm4, fun H8 gA N8 s78 nN8 sN8 ngA hG => ?_⟩
    have hp8 := s78 _ _ hp7
    have sh8 := sh7.trans (Same.hid s78)
    have hE8 := hE7.same mono_edge (Same.hid s78)
    have hW8 := hW7.same (Same.hid s78)
    have hL8 := hL7.same mono_row (Same.hid s78)
    have hG8 : LsAt RowAt (hid H8 p) gA (allv m es.length) := hG.same mono_row (nN8.hid sN8 hp7)
    -- some
    obtain ⟨gs, hga, hgp⟩ := id hG8
    have hgl : gs.length = (allv m es.length).length := Paired.len hgp
    have hg256 := len_small hm4 hel
    have hg0 : 0 < (allv m es.length).length := by rw [len_allv]; exact Nat.pow_pos hm0
    refine ⟨_, rfl, _, rfl, _, rfl, gA, _, rfl, .inl (SqL.of (hid_same _ _ hga)), p, x5, y5, (allv m es.length).length, by rw [List.length_map, hgl]; rfl, hp8, hg0, by omega, fun j x9 y9 hj => ?_⟩
    have hp9 : upd H8 p (.lst [.int x9, .int y9]) p = some (.lst [.int x9, .int y9]) := upd_same
    have sh89 : Same (hid H8 p) (hid (upd H8 p (.lst [.int x9, .int y9])) p) := by rw [hid_upd]; exact Same.refl _
    generalize upd H8 p (.lst [.int x9, .int y9]) = H9 at hp9 sh89 ⊢
    have sh9 := sh8.trans sh89
    have hE9 := hE8.same mono_edge (sh89.trans hid_same)
    have hW9 := hW8.same (sh89.trans hid_same)
    have hL9 := hL8.same mono_row (sh89.trans hid_same)
    have hG9 := hG8.same mono_row (sh89.trans hid_same)
    obtain ⟨g, hgj⟩ : ∃ g, (allv m es.length)[j]? = some g := ⟨_, List.getElem?_eq_getElem hj⟩
    obtain ⟨sA, hsj, hsr⟩ := Paired.at hgp hgj
    have hs9 : RowAt H9 sA g := (sh89.trans hid_same) _ _ hsr
    have hgm := List.mem_of_getElem? hgj
    refine ⟨gA, _, _, V.ref sA, rfl, rfl, SqL.of ((sh89.trans hid_same) _ _ hga), atI_nat (by rw [List.getElem?_map, hsj]; rfl), ?_⟩
    -- reached
    obtain ⟨ls, hla, hlp⟩ := id hL9
    have hll : ls.length = (allv m n).length := Paired.len hlp
    have hl256 := len_small hm4 hn4
    have hgE : g.length = es.length := (mem_allv.mp hgm).1
    refine ⟨_, rfl, lA, rfl, ⟨_, SqL.of hla⟩, fun Dd nD => lc_list (K := K) (a := lA) (xs := ls.map V.ref) (fun c H' => ∃ bs : List Addr, Same H9 H' ∧ H' Dd = some (.lst (bs.map V.ref)) ∧ Paired (RowAt (hid H' Dd)) bs (((allv m n).take c).map (put m es g)))
      ⟨[], same_new nD, upd_same, .nil⟩ (fun c H' _ ⟨_, s, _⟩ => SqL.of (s _ _ hla)) ?_ ?_⟩
    · rintro c y' H' hc ⟨bs, s, hd, hbp⟩
      obtain ⟨b, hb, rfl⟩ := refs_item hc
      obtain ⟨r, hcr, hbr⟩ := Paired.at' hlp hb
      have hrn : r.length = n := (mem_allv.mp (List.mem_of_getElem? hcr)).1
      refine ⟨rfl, yes ?_⟩
      refine ⟨_, rfl, _, rfl, _, rfl, _, rfl, ea, sA, b, m, es, g, r, rfl, hE9.same mono_edge s, s _ _ hs9, s _ _ hbr, by rw [hrn]; exact he, hgE, by omega, hm0, fun H'' z s' nz hz => ?_⟩
      have hdz : z ≠ Dd := (ne_fresh hd nz).symm
      have hbl : bs.length ≤ 256 := by rw [Paired.len hbp, List.length_map, List.length_take]; omega
      refine ⟨_, s' _ _ hd, by rw [List.length_map]; exact line_lt (by omega), bs ++ [z], (s.trans s').mut nD, by rw [upd_same, List.map_append]; rfl, ?_⟩
      rw [hid_upd, take_snoc hcr, List.map_append]
      refine Paired.snoc (Paired.mapP hbp fun x y q => mono_row _ _ _ _ (Same.hid s') q) ?_
      show _ = _
      rw [hid_ne hdz]
      exact hz
    rintro Ha ⟨rs, s9a, hrA, hrp⟩
    rw [List.length_map, hll, List.take_length] at hrp
    have hRa : LsAt RowAt Ha Dd ((allv m n).map (put m es g)) := ⟨rs, hrA, Paired.mapP hrp fun x y q => mono_row _ _ _ _ hid_same q⟩
    have hWa := hW9.same s9a
    have small : ∀ r ∈ allv m es.length, r.length ≤ 4 ∧ ∀ x ∈ r, x < 10 := fun r hr => by
      obtain ⟨h1, h2⟩ := mem_allv.mp hr
      exact ⟨by omega, fun x hx => by have := h2 x hx; omega⟩
    have smallR : ∀ r ∈ (allv m n).map (put m es g), r.length ≤ 4 ∧ ∀ x ∈ r, x < 10 := fun r hr => by
      obtain ⟨p', _, rfl⟩ := List.mem_map.mp hr
      exact small _ (put_mem hm0 hgE)
    have lg : ∀ e, e ≤ 60 → ((m ^ e : Nat) : Int).natAbs.log2 < 1920 := fun e h => log_big (pow_big (by omega) h)
    have hF1 := frst_le_len es
    -- class_size
    refine ⟨_, rfl, o, n, m, es, rfl, hWa, by omega, fun Hb sab => ?_⟩
    rw [pw_pos hm0]
    refine ⟨_, rfl, lg _ (by omega), _, rfl, Dd, _, rfl, hRa.same mono_row sab, smallR, by rw [List.length_map]; exact hl256, fun Hc sbc => ?_⟩
    rw [count_reached hm0 he hgm]
    refine ⟨_, rfl, lg _ (by omega), rfl, _, rfl, ?_⟩
    rw [decide_eq_true rfl]
    refine iteF ?_
    have sac := sab.trans sbc
    -- class_count
    have hG10 := hG9.same mono_row (s9a.trans sac)
    obtain ⟨gs2, hgb, hgq⟩ := id hG10
    have hgl2 : gs2.length = (allv m es.length).length := Paired.len hgq
    refine ⟨_, rfl, o, n, m, es, rfl, hWa.same sac, by omega, fun Hd scd => ?_⟩
    rw [pw_pos hm0]
    have hgbd := scd _ _ hgb
    refine ⟨_, rfl, lg _ (by omega), _, rfl, gA, rfl, ⟨_, SqL.of hgbd⟩, fun De nE => lc_list (K := K) (a := gA) (xs := gs2.map V.ref) (fun c H' => ∃ (bs : List Addr) (ms : List (List Nat)), Same Hd H' ∧ H' De = some (.lst (bs.map V.ref)) ∧ Paired (RowAt (hid H' De)) bs ms ∧ ms.length = c ∧ ∀ (i : Nat) g r, (allv m es.length)[i]? = some g → ms[i]? = some r → Nrm m es g r)
      ⟨[], [], same_new nE, upd_same, .nil, rfl, fun i g r _ h => by simp at h⟩ (fun c H' _ ⟨_, _, s, _⟩ => SqL.of (s _ _ hgbd)) ?_ ?_⟩
    · rintro c y' H' hc ⟨bs, ms, s, hd, hbp, hml, hN⟩
      obtain ⟨b, hb, rfl⟩ := refs_item hc
      obtain ⟨r, hcr, hbr⟩ := Paired.at' hgq hb
      have hcl := (List.getElem?_eq_some_iff.mp hcr).1
      refine ⟨rfl, yes ?_⟩
      refine ⟨_, rfl, _, rfl, o, b, n, m, es, r, rfl, hWa.same ((sac.trans scd).trans s), (scd.trans s) _ _ hbr, List.mem_of_getElem? hcr, hm0, fun H'' z t s' nz hz hnz => ?_⟩
      have hdz : z ≠ De := (ne_fresh hd nz).symm
      have hbl : bs.length ≤ 256 := by rw [Paired.len hbp, hml]; omega
      refine ⟨_, s' _ _ hd, by rw [List.length_map]; exact line_lt (by omega), bs ++ [z], ms ++ [t], (s.trans s').mut nE, by rw [upd_same, List.map_append]; rfl, ?_, by rw [List.length_append, hml]; rfl, ?_⟩
      · rw [hid_upd]
        refine Paired.snoc (Paired.mapP hbp fun x y q => mono_row _ _ _ _ (Same.hid s') q) ?_
        show _ = _
        rw [hid_ne hdz]
        exact hz
      · intro i g' r' h1 h2
        by_cases hic : i < ms.length
        · rw [List.getElem?_append_left hic] at h2
          exact hN i g' r' h1 h2
        · rw [List.getElem?_append_right (by omega)] at h2
          have hi0 : i - ms.length = 0 := by
            have := (List.getElem?_eq_some_iff.mp h2).1
            rw [List.length_singleton] at this
            omega
          rw [hi0] at h2
          have e1 : t = r' := Option.some.inj h2
          have e2 : i = c := by omega
          rw [e2, hcr] at h1
          rw [← e1, ← Option.some.inj h1]
          exact hnz
    rintro He ⟨bs, ms, sde, hbe, hbp, hml, hN⟩
    rw [List.length_map, hgl2] at hml
    have hMe : LsAt RowAt He De ms := ⟨bs, hbe, Paired.mapP hbp fun x y q => mono_row _ _ _ _ hid_same q⟩
    have smallM : ∀ r ∈ ms, r.length ≤ 4 ∧ ∀ x ∈ r, x < 10 := fun r hr => by
      obtain ⟨i, hi⟩ := List.getElem?_of_mem hr
      have hil := (List.getElem?_eq_some_iff.mp hi).1
      exact small r (hN i _ r (List.getElem?_eq_getElem (by omega)) hi).1
    refine ⟨De, _, rfl, hMe, smallM, by omega, fun Hf sef => ?_⟩
    rw [count_normal hm0 hml hN]
    refine ⟨_, rfl, lg _ (by omega), rfl, _, rfl, ?_⟩
    rw [decide_eq_true rfl]
    refine iteF ?_
    have saf := ((sac.trans scd).trans sde).trans sef
    -- potential_count
    have hRf := hRa.same mono_row saf
    have hsf := (s9a.trans saf) _ _ hs9
    refine ⟨_, rfl, o, n, m, es, rfl, hWa.same saf, by omega, fun Hg sfg => ?_⟩
    rw [pw_pos hm0]
    have sag := saf.trans sfg
    obtain ⟨rg, hrg, hrgp⟩ := hRf.same mono_row sfg
    have hsg := sfg _ _ hsf
    have hrl : rg.length = ((allv m n).map (put m es g)).length := Paired.len hrgp
    refine ⟨_, rfl, lg _ (by omega), _, rfl, Dd, rfl, ⟨_, SqL.of hrg⟩, fun D3 n3 => lc_list (K := K) (a := Dd) (xs := rg.map V.ref) (fun c H' => ∃ bs : List Addr, H' = upd Hg D3 (.lst (bs.map V.ref)) ∧ bs.length = ((((allv m n).map (put m es g)).take c).filter fun r => decide (r = g)).length)
      ⟨[], rfl, rfl⟩ (fun c H' _ ⟨bs, e, _⟩ => by rw [e]; exact SqL.of ((same_new n3) _ _ hrg)) ?_ ?_⟩
    · rintro c y' H' hc ⟨bs, rfl, hbl⟩
      obtain ⟨b, hb, rfl⟩ := refs_item hc
      obtain ⟨r, hcr, hbr⟩ := Paired.at' hrgp hb
      refine ⟨rfl, ?_⟩
      refine ⟨_, rfl, _, rfl, rowD r, rowD g, .lst (SqL.of ((same_new n3) _ _ hbr)) (dp_row _), .lst (SqL.of ((same_new n3) _ _ hsg)) (dp_row _), shaped_row _, shaped_row _, _, rfl, ?_⟩
      rw [eqv_row]
      have hb256 : bs.length ≤ 256 := by
        rw [hbl]
        have := List.length_filter_le (fun r => decide (r = g)) (((allv m n).map (put m es g)).take c)
        rw [List.length_take, List.length_map] at this
        omega
      by_cases hq : r = g
      · rw [decide_eq_true hq]
        refine iteT ⟨_, rfl, _, upd_same, by rw [List.length_map]; exact line_lt (by omega), bs ++ [b], by rw [upd_upd, List.map_append]; rfl, ?_⟩
        rw [take_snoc hcr, List.filter_append, List.filter_cons, if_pos (decide_eq_true hq), List.length_append, List.length_append, hbl]
        rfl
      · rw [decide_eq_false hq]
        refine iteF ⟨bs, rfl, ?_⟩
        rw [take_snoc hcr, List.filter_append, List.filter_cons, if_neg (by rw [decide_eq_false hq]; decide), List.length_append, hbl]
        rfl
    rintro Hh ⟨bs3, rfl, hbl3⟩
    rw [List.length_map, hrl, List.take_length, count_self he hgm] at hbl3
    refine ⟨D3, _, rfl, .inl (SqL.of upd_same), ?_⟩
    rw [List.length_map, hbl3]
    refine ⟨_, rfl, lg _ (by omega), rfl, _, rfl, ?_⟩
    rw [decide_eq_true rfl]
    refine iteF ?_
    have s9h := (s9a.trans sag).trans (same_new (o := .lst (bs3.map V.ref)) n3)
    generalize upd Hg D3 (.lst (bs3.map V.ref)) = Hh at s9h ⊢
    -- endless, great
    have hph := s9h _ _ hp9
    have shh := sh9.trans (Same.hid s9h)
    refine ⟨_, rfl, p, x9, y9, rfl, hph, fun Hi xi yi shi hpi => ⟨_, rfl, ?_⟩⟩
    refine iteF ⟨_, rfl, p, xi, yi, rfl, hpi, fun Hj xj yj shj hpj => ⟨_, rfl, ?_⟩⟩
    refine iteF ?_
    exact ⟨_, _, _, _, _, _, _, _, _, _, _, rfl, sS Hj ((shh.trans shi).trans shj)⟩
end
end K18

set_option Elab.async false
set_option linter.all false
set_option maxRecDepth 100000
set_option maxHeartbeats 0
namespace K18
open PySem PySem.Spec PyProof.Rows L2 He
def fa0 : List Fa := [.glo "reduced_number", .glo "forest_of", .glo "links_of", .glo "walk_paths", .glo "components_of", .glo "is_integer", .glo "is_within", .glo "is_edge", .glo "is_modulus", .glo "check_edges", .glo "is_step", .glo "step_ends", .glo "is_walk", .glo "residue", .glo "is_residue", .glo "are_residues", .glo "is_gains", .glo "check_gains", .glo "walk_sum", .glo "cycle_sums", .glo "normal", .glo "power_of", .glo "class_size", .glo "class_count", .glo "potential_count", .glo "_law_pool", .glo "_law_take", .glo "_law_links", .glo "_law_low", .glo "_law_put"]
def fa1 : List Fa := [.glo "_law_all", .glo "_law_unlike", .glo "_law_endless", .glo "_law_great", .glo "law", .glo "Web", .free "list", .free "range", .free "enumerate", .free "len", .free "isinstance", .free "int", .free "bool", .free "tuple", .free "sorted", .free "all", .free "sum", .free "max", .free "min", .free "repr", .free "zip", .int "MOST_NODES" 30, .int "MOST_EDGES" 60, .int "MOST_MODULUS" 60, .cls "Web", .mkr "Web", .noat "Web" "own_size", .noat "Web" "own_edges", .noat "Web" "own_modulus", .noat "Web" "own_forest"]
def fa2 : List Fa := [.noat "Web" "links", .meth "Web" "__init__", .meth "Web" "modulus", .meth "Web" "edge", .meth "Web" "components", .meth "Web" "forest", .meth "Web" "cycles", .meth "Web" "__len__"]
def fa : List Fa := fa0 ++ fa1 ++ fa2
def fn0 : List DefD := [
  ⟨("reduced_number", none), "reduced_number", "reduced_number", defArgs s_reduced_number, defBody s_reduced_number, defScope s_reduced_number, [], []⟩,
  ⟨("forest_of", none), "forest_of", "forest_of", defArgs s_forest_of, defBody s_forest_of, defScope s_forest_of, [], []⟩,
  ⟨("links_of", none), "links_of", "links_of", defArgs s_links_of, defBody s_links_of, defScope s_links_of, [], []⟩,
  ⟨("walk_paths", none), "walk_paths", "walk_paths", defArgs s_walk_paths, defBody s_walk_paths, defScope s_walk_paths, [], []⟩,
  ⟨("components_of", none), "components_of", "components_of", defArgs s_components_of, defBody s_components_of, defScope s_components_of, [], []⟩,
  ⟨("is_integer", none), "is_integer", "is_integer", defArgs s_is_integer, defBody s_is_integer, defScope s_is_integer, [], []⟩,
  ⟨("is_within", none), "is_within", "is_within", defArgs s_is_within, defBody s_is_within, defScope s_is_within, [], []⟩,
  ⟨("is_edge", none), "is_edge", "is_edge", defArgs s_is_edge, defBody s_is_edge, defScope s_is_edge, [], []⟩,
  ⟨("is_modulus", none), "is_modulus", "is_modulus", defArgs s_is_modulus, defBody s_is_modulus, defScope s_is_modulus, [], []⟩,
  ⟨("check_edges", none), "check_edges", "check_edges", defArgs s_check_edges, defBody s_check_edges, defScope s_check_edges, [], []⟩,
  ⟨("is_step", none), "is_step", "is_step", defArgs s_is_step, defBody s_is_step, defScope s_is_step, [], []⟩,
  ⟨("step_ends", none), "step_ends", "step_ends", defArgs s_step_ends, defBody s_step_ends, defScope s_step_ends, [], []⟩,
  ⟨("is_walk", none), "is_walk", "is_walk", defArgs s_is_walk, defBody s_is_walk, defScope s_is_walk, [], []⟩,
  ⟨("residue", none), "residue", "residue", defArgs s_residue, defBody s_residue, defScope s_residue, [], []⟩,
  ⟨("is_residue", none), "is_residue", "is_residue", defArgs s_is_residue, defBody s_is_residue, defScope s_is_residue, [], []⟩]
def fn1 : List DefD := [
  ⟨("are_residues", none), "are_residues", "are_residues", defArgs s_are_residues, defBody s_are_residues, defScope s_are_residues, [], []⟩,
  ⟨("is_gains", none), "is_gains", "is_gains", defArgs s_is_gains, defBody s_is_gains, defScope s_is_gains, [], []⟩,
  ⟨("check_gains", none), "check_gains", "check_gains", defArgs s_check_gains, defBody s_check_gains, defScope s_check_gains, [], []⟩,
  ⟨("walk_sum", none), "walk_sum", "walk_sum", defArgs s_walk_sum, defBody s_walk_sum, defScope s_walk_sum, [], []⟩,
  ⟨("cycle_sums", none), "cycle_sums", "cycle_sums", defArgs s_cycle_sums, defBody s_cycle_sums, defScope s_cycle_sums, [], []⟩,
  ⟨("normal", none), "normal", "normal", defArgs s_normal, defBody s_normal, defScope s_normal, [], []⟩,
  ⟨("power_of", none), "power_of", "power_of", defArgs s_power_of, defBody s_power_of, defScope s_power_of, [], []⟩,
  ⟨("class_size", none), "class_size", "class_size", defArgs s_class_size, defBody s_class_size, defScope s_class_size, [], []⟩,
  ⟨("class_count", none), "class_count", "class_count", defArgs s_class_count, defBody s_class_count, defScope s_class_count, [], []⟩,
  ⟨("potential_count", none), "potential_count", "potential_count", defArgs s_potential_count, defBody s_potential_count, defScope s_potential_count, [], []⟩,
  ⟨("_law_pool", none), "_law_pool", "_law_pool", defArgs s_law_pool, defBody s_law_pool, defScope s_law_pool, [], []⟩,
  ⟨("_law_take", none), "_law_take", "_law_take", defArgs s_law_take, defBody s_law_take, defScope s_law_take, [], []⟩,
  ⟨("_law_links", none), "_law_links", "_law_links", defArgs s_law_links, defBody s_law_links, defScope s_law_links, [], []⟩,
  ⟨("_law_low", none), "_law_low", "_law_low", defArgs s_law_low, defBody s_law_low, defScope s_law_low, [], []⟩,
  ⟨("_law_put", none), "_law_put", "_law_put", defArgs s_law_put, defBody s_law_put, defScope s_law_put, [], []⟩]
def fn2 : List DefD := [
  ⟨("_law_all", none), "_law_all", "_law_all", defArgs s_law_all, defBody s_law_all, defScope s_law_all, [], []⟩,
  ⟨("_law_unlike", none), "_law_unlike", "_law_unlike", defArgs s_law_unlike, defBody s_law_unlike, defScope s_law_unlike, [], []⟩,
  ⟨("_law_endless", none), "_law_endless", "_law_endless", defArgs s_law_endless, defBody s_law_endless, defScope s_law_endless, [], []⟩,
  ⟨("_law_great", none), "_law_great", "_law_great", defArgs s_law_great, defBody s_law_great, defScope s_law_great, [], []⟩,
  ⟨("law", none), "law", "law", defArgs s_law, defBody s_law, defScope s_law, [], []⟩,
  ⟨("Web", some "__init__"), "__init__", "Web.__init__", defArgs sW_init, defBody sW_init, defScope sW_init, [.adr (dflAt ("Web", some "__init__") 0)], [("modulus", .int 0)]⟩,
  ⟨("Web", some "modulus"), "modulus", "Web.modulus", defArgs sW_modulus, defBody sW_modulus, defScope sW_modulus, [], []⟩,
  ⟨("Web", some "edge"), "edge", "Web.edge", defArgs sW_edge, defBody sW_edge, defScope sW_edge, [], []⟩,
  ⟨("Web", some "components"), "components", "Web.components", defArgs sW_components, defBody sW_components, defScope sW_components, [], []⟩,
  ⟨("Web", some "forest"), "forest", "Web.forest", defArgs sW_forest, defBody sW_forest, defScope sW_forest, [], []⟩,
  ⟨("Web", some "cycles"), "cycles", "Web.cycles", defArgs sW_cycles, defBody sW_cycles, defScope sW_cycles, [], []⟩,
  ⟨("Web", some "__len__"), "__len__", "Web.__len__", defArgs sW_len, defBody sW_len, defScope sW_len, [], []⟩]
def fn : List DefD := fn0 ++ fn1 ++ fn2
def nm0 : List PySem.Str := ["WebError", "InvalidModulus", "InvalidSize", "InvalidEdge", "InvalidNode", "InvalidWalk", "InvalidAmount", "InvalidGains", "NoEdge", "TooMany", "reduced_number", "forest_of", "links_of", "walk_paths", "components_of", "MOST_NODES", "MOST_EDGES", "MOST_MODULUS", "is_integer", "is_within", "is_edge", "is_modulus", "check_edges", "Web", "check_node", "is_step", "step_ends", "is_walk", "residue", "is_residue"]
def nm1 : List PySem.Str := ["are_residues", "is_gains", "check_gains", "walk_sum", "cycle_sums", "normal", "power_of", "class_size", "class_count", "potential_count", "_law_pool", "_law_take", "_law_modulus", "_law_links", "_law_low", "_law_number", "_law_numbers", "_law_put", "_law_all", "_law_unlike", "_law_endless", "_law_great"]
def names : List PySem.Str := nm0 ++ nm1
abbrev Rw : PySem.W.OpenRow := PySem.W.OpenLaw.row PySem.Challenge.rw_turnedties_k18_whole_classes_by_going_th
abbrev hk : PySem.W.Hook := hookD 5 fa fn
def ob (s : PySem.W.SharedT) : AlD := obsDG 5 fa fn (HandSHeadRun.getT s)
theorem ob_eq (s : PySem.W.SharedT) : ob s = hk.obs s.abs := obsDG_eq (HandSHeadRun.getT_eq s)
theorem run (w : World) : HandSHeadRun.RunEq Rw (PySem.W.view Rw.prog [58]) hk ob 6000 names w := by
  intro os
  kernel_rfl
end K18

set_option Elab.async false
set_option linter.all false
set_option maxRecDepth 100000
set_option maxHeartbeats 4000000
/-! The end: the facts by names, the walk, the row. -/
namespace K18
open PySem PySem.Spec PyProof.Rows L2
section
variable {P : Program} {w : World} {K : PySem.W.Frag} {mg : Str → Option Value} {base : Heap}
theorem dn {x : Str} {st : Stmt} (X : K.In base) (G : base.Ns mainGlobals mg) (c : He.SaysD fa fn K) (i : Nat) (h1 : fa[i]? = some (.glo x) := by rfl) (h2 : fn[i]? = some ⟨(x, none), x, x, defArgs st, defBody st, defScope st, [], []⟩ := by rfl) : Dn K mg x st := by
  obtain ⟨fd, F⟩ := c.def_ i h2
  exact ⟨_, fd, F, He.glo_ok X G (c.fact i h1)⟩
theorem mn {m qual : Str} {st : Stmt} (c : He.SaysD fa fn K) (i j : Nat) (h0 : fa[54]? = some (.cls "Web") := by rfl) (h1 : fa[i]? = some (.meth "Web" m) := by rfl) (h2 : fn[j]? = some ⟨("Web", some m), m, qual, defArgs st, defBody st, defScope st, [], []⟩ := by rfl) : Mn K (He.ga K "Web") m qual st := by
  obtain ⟨fd, F⟩ := c.def_ j h2
  exact ⟨_, fd, F, He.meth_ok (c.fact i h1), He.cls_ok (c.fact 54 h0)⟩
theorem bt (X : K.In base) (G : base.Ns mainGlobals mg) (c : He.SaysD fa fn K) : Bt mg := by
  have f : ∀ (i : Nat) (x : Str), fa[i]? = some (.free x) → mg x = none := fun i x h => He.free_ok X G (c.fact i h)
  exact ⟨f 36 _ rfl, f 37 _ rfl, f 38 _ rfl, f 39 _ rfl, f 40 _ rfl, f 41 _ rfl, f 42 _ rfl, f 43 _ rfl, f 44 _ rfl, f 45 _ rfl, f 46 _ rfl, f 47 _ rfl, f 48 _ rfl, f 49 _ rfl, f 50 _ rfl⟩
theorem cons (X : K.In base) (G : base.Ns mainGlobals mg) (c : He.SaysD fa fn K) : Consts mg := by
  have f : ∀ (i : Nat) (x : Str) (n : Int), fa[i]? = some (.int x n) → ∃ t, mg x = some (.int n t) := fun i x n h => He.int_ok X G (c.fact i h)
  exact ⟨f 51 _ _ rfl, f 52 _ _ rfl, f 53 _ _ rfl⟩
theorem wt (X : K.In base) (G : base.Ns mainGlobals mg) (c : He.SaysD fa fn K) : Wt K mg (He.ga K "Web") := by
  have f : ∀ (i : Nat) (x : Str), fa[i]? = some (.noat "Web" x) → NoAttr K (He.ga K "Web") x := fun i x h => He.noat_ok (c.fact i h)
  exact ⟨He.cls_ok (c.fact 54 (f := .cls "Web") rfl), f 56 _ rfl, f 57 _ rfl, f 58 _ rfl, f 59 _ rfl, f 60 _ rfl, He.glo_ok X G (c.fact 35 (f := .glo "Web") rfl)⟩
theorem mk_web (X : K.In base) (G : base.Ns mainGlobals mg) (c : He.SaysD fa fn K) (c1 : C8.Cal P w K mg base 2 "is_within" sp_within []) (c2 : C8.Cal P w K mg base 4 "check_edges" sp_checkedges [])
    (c3 : C8.Cal P w K mg base 3 "is_modulus" sp_ismod []) (c4 : C8.Cal P w K mg base 1 "forest_of" sp_forest []) (c5 : C8.Cal P w K mg base 1 "links_of" sp_links []) : WebMk P w K mg base (He.ga K "Web") := by
  obtain ⟨fd, F⟩ := c.def_ 35 (d := ⟨("Web", some "__init__"), "__init__", "Web.__init__", defArgs sW_init, defBody sW_init, defScope sW_init, [.adr (He.dflAt ("Web", some "__init__") 0)], [("modulus", .int 0)]⟩) rfl
  have M := He.mkr_ok (c.fact 55 (f := .mkr "Web") rfl)
  have b1 := FunD.binds (ps := Nin) F 3 1 (fun z => by cases z) rfl (fun T D doc pm an cdv ct us its ks h1 h2 h3 => match us, its, ks, h1, h2, h3 with | [_, _, _], [_], [_], _, _, _ => ⟨_, rfl, _, _, _, _, _, _, rfl, rfl, rfl⟩) (fun z => by cases z)
  obtain ⟨its, b2⟩ := FunD.kbindsD (ps := Nin) F 3 ["modulus"] (fun us _ ws => us ++ ws) (fun z => by cases z) (fun r1 _ r3 => r1.append r3) (fun T kV doc pm an cdv ct us its ws h1 h2 h3 => match us, its, ws, h1, h2, h3 with | [_, _, _], [_], [_], _, _, _ => ⟨_, rfl, rfl⟩)
  exact ⟨⟨_, fd, M, ok_init F (bt X G c) (cons X G c) (wt X G c) c1 c2 c3 c4 c5, b1, b2⟩, (wt X G c).mgC⟩
/-- all of the text, from the facts -/
theorem law_g (X : K.In base) (G : base.Ns mainGlobals mg) (c : He.SaysD fa fn K) : CalG P w K mg base 10 "law" (spLaw K) := by
  have B := bt X G c
  have Z := cons X G c
  have T := wt X G c
  have f_red := c_reduced (P := P) (w := w) (base := base) (dn X G c 0)
  have f_int := c_isint (P := P) (w := w) (base := base) (dn X G c 5) B
  have f_wit := c_within (dn X G c 6) f_int
  have f_isedge := c_isedge (dn X G c 7) B f_wit
  have f_ismod := c_ismod (dn X G c 8) Z f_wit
  have f_check := c_checkedges (dn X G c 9) B Z f_isedge
  have f_for := c_forest (P := P) (w := w) (base := base) (dn X G c 1) B
  have f_lin := c_links (P := P) (w := w) (base := base) (dn X G c 2) B
  have f_paths := c_paths (P := P) (w := w) (base := base) (dn X G c 3) B
  have f_comps := c_comps (dn X G c 4) B f_paths
  have W := mk_web X G c f_wit f_check f_ismod f_for f_lin
  have g_mod := m_mod (P := P) (w := w) (base := base) (mn c 62 36) T
  have g_edge := m_edge (mn c 63 37) B T f_wit
  have g_comps := m_comps (mn c 64 38) T f_comps
  have g_for := m_forest (P := P) (w := w) (base := base) (mn c 65 39) B T
  have g_cyc := m_cycles (mn c 66 40) B T f_paths
  have g_len := m_len (P := P) (w := w) (base := base) (mn c 67 41) B T
  have f_step := c_isstep (dn X G c 10) B f_wit g_len
  have f_ends := c_stepends (dn X G c 11) g_edge
  have f_walk := c_iswalk (dn X G c 12) B f_step f_ends
  have f_res := c_residue (dn X G c 13) f_int f_red g_mod
  have f_isres := c_isres (dn X G c 14) f_int f_wit g_mod
  have f_areres := c_areres (dn X G c 15) B f_isres
  have f_isg := c_isgains (dn X G c 16) B f_areres g_len
  have f_chg := c_checkgains (dn X G c 17) f_isg
  have f_sum := c_walksum (dn X G c 18) B f_chg f_walk f_res
  have f_sums := c_cycsums (dn X G c 19) f_chg f_sum g_cyc
  have f_nor := c_normal (dn X G c 20) B f_sums g_cyc g_len
  have f_pow := c_power (dn X G c 21) B g_mod
  have f_size := c_size (dn X G c 22) B f_pow g_for
  have f_count := c_count (dn X G c 23) B f_pow g_for g_len
  have f_pots := c_pots (dn X G c 24) B f_pow g_comps
  have l_pool := c_pool (P := P) (w := w) (base := base) (dn X G c 25) B
  have l_take := c_take (P := P) (w := w) (base := base) (dn X G c 26)
  have l_links := c_llinks (dn X G c 27) B l_take
  have l_low := c_low (P := P) (w := w) (base := base) (dn X G c 28)
  have l_put := c_put (dn X G c 29) B l_low
  have l_all := c_all (P := P) (w := w) (base := base) (dn X G c 30) B
  have l_unlike := c_unlike (P := P) (w := w) (base := base) (dn X G c 31) B
  have l_endless := c_endless (dn X G c 32) B W l_take l_links g_for f_size f_count f_pots
  have l_great := c_great (dn X G c 33) B W l_take l_links f_size f_count f_pots
  exact c_law (dn X G c 34) B W l_pool l_take l_links l_all l_unlike l_put f_nor f_size f_count f_pots l_endless l_great
end
/-! ### the call of the law: the script is known, nothing else is -/
/-- the one known thing: the list at a, unless the module itself holds it -/
def scr (K : PySem.W.Frag) (a : Addr) (o : Obj) (xs : List V) : Hp := fun b => if b = a ∧ K.lookup a = none then some (.frz o (.lst xs)) else none
theorem scr_at {K : PySem.W.Frag} {a b : Addr} {o : Obj} {xs : List V} {u : HO} (h : scr K a o xs b = some u) : b = a ∧ K.lookup a = none ∧ u = .frz o (.lst xs) := by
  unfold scr at h
  by_cases z : b = a ∧ K.lookup a = none
  · rw [if_pos z] at h; exact ⟨z.1, z.2, (Option.some.inj h).symm⟩
  · rw [if_neg z] at h; cases h
theorem scr_off {K : PySem.W.Frag} {a b : Addr} {o : Obj} {xs : List V} (h : ¬ (b = a ∧ K.lookup a = none)) : scr K a o xs b = none := if_neg h
section
variable {P : Program} {w : World} {K : PySem.W.Frag} {mg mb : Str → Option Value} {f a : Addr} {s : Shared} {vs : List Value} {ns : List Int}
theorem run_law (KX : K.In s.heap) (G : s.heap.Ns mainGlobals mg) (Gb : s.heap.Ns builtinsNs mb) (hbb : ∀ x : Str, x ≠ "__name__" → mb x = bootBuiltins x) (nol : s.heap.NoLimit) (gen : s.gens = #[])
    (ha : s.heap.get? a = some { cls := .type "list", data := .seq vs.toArray }) (hi : IntsAre vs ns) (hl : ns.length ≤ 63) (hm : mg "law" = some (.ref f))
    (F : ∀ base : Heap, K.In base → base.Ns mainGlobals mg → CalG P w K mg base 10 "law" (spLaw K)) :
    codeAny (model P w) callerA (.call (.ref f) ⟨[.ref a], []⟩) (fun r s' => r = .ok (.ret (.bool true)) ∧ OldK s.heap s'.heap ∧ s'.os = s.os ∧ AllBare s'.gens) s := by
  have rv := vals_ints hi
  have lv : vs.length = ns.length := hi.length
  have hz : ns.length ≤ sizeLine := line_big (by omega)
  generalize hH : scr K a { cls := .type "list", data := .seq vs.toArray } (ns.map V.int) = H
  have at_ : ∀ {b : Addr} {u : HO}, H b = some u → b = a ∧ K.lookup a = none ∧ u = .frz { cls := .type "list", data := .seq vs.toArray } (.lst (ns.map V.int)) := fun h => by
    subst hH; exact scr_at h
  have off : ∀ {b : Addr}, ¬ (b = a ∧ K.lookup a = none) → H b = none := fun h => by subst hH; exact scr_off h
  have hS : SqL K H a (ns.map V.int) := by
    cases q : K.lookup a with
    | none => exact .inl (.inr ⟨_, by subst hH; exact if_pos ⟨rfl, q⟩⟩)
    | some o =>
      have e := (KX a o q).symm.trans ha
      cases e
      exact .inr ⟨_, vs.toArray, _, q, rfl, rfl, rfl, by rw [List.size_toArray, lv]; exact hz, by simpa using rv⟩
  have hO : HOk P w H s.heap := fun b u h => by
    obtain ⟨rfl, _, rfl⟩ := at_ h
    exact ⟨ha, by rw [List.length_map]; exact hz, vs, _, rv, ha⟩
  have nsT : ∀ {b : Addr} {m : Str → Option Value}, s.heap.Ns b m → (hidT s.heap H).Ns b m := by
    rintro b m ⟨o, es, ep, e, d, r⟩
    refine ⟨o, es, ep, hidT_get e (off ?_), d, r⟩
    rintro ⟨rfl, _⟩
    rw [ha] at e
    cases e
    cases d
  have kT : K.In (hidT s.heap H) := fun b o e => hidT_get (KX b o e) (off fun z => by rw [z.1, z.2] at e; cases e)
  obtain ⟨ml, nl1, nl2⟩ := nol
  have M : Mod K mg (hidT s.heap H) := ⟨kT, nsT G, ⟨mb, nsT Gb, hbb⟩, ⟨ml, nsT nl1, nl2⟩⟩
  obtain ⟨f', fd, ps, R, hm', _, hbd⟩ := (F _ kT (nsT G)).ex
  obtain rfl : f' = f := by rw [hm] at hm'; cases hm'; rfl
  have sp1 : spLaw K [.ref a] H (fun v _ => v = .bl true) C8.E0 := ⟨a, ns, rfl, hS, hl, fun _ => rfl⟩
  have lp : [V.ref a].length = ps.length := R.len _ _ _ _ sp1
  have bd := hbd s [.ref a] KX lp
  rw [List.append_nil] at bd
  refine codeAny_mono (R.run callerA [] s H ⟨[.ref a], []⟩ [.ref a] [.ref a] _ ⟨rfl, by decide, by decide⟩ rfl ⟨rfl, M, fun b o e => of_hidT e, Nat.le_of_eq (hidT_size _ _), trivial, (fun b z => by cases z), hO, .of_eq gen⟩ bd (.cons rfl .nil) sp1) fun r s' h => ?_
  match r, h with
  | .error _, h => exact h.elim
  | .ok .next, h => exact h.elim
  | .ok .brk, h => exact h.elim
  | .ok .cont, h => exact h.elim
  | .ok (.ret u), ⟨v, H', os, bare, un, ok', ru, qv⟩ =>
    obtain rfl : v = .bl true := qv
    refine ⟨congrArg (fun z => Except.ok (Flow.ret z)) ru, OldK.of_keep fun b o e => ?_, os, bare⟩
    cases q : H b with
    | none => exact un.keep b o e q (by simp [frs]) (by simp)
    | some u =>
      obtain ⟨rfl, _, rfl⟩ := at_ q
      rw [ha] at e
      cases e
      exact (ok' _ _ (un.frzs _ _ _ q)).1
end
end K18

set_option Elab.async false
set_option linter.all false
set_option maxRecDepth 100000
set_option maxHeartbeats 0
/-! The row. -/
open PySem PySem.W PySem.Calls PyProof.Rows
theorem PySem.Challenge.cw_turnedties_k18_whole_classes_by_going_th_holds : PySem.Challenge.rw_turnedties_k18_whole_classes_by_going_th.Holds := by
  w_on; o_law
  refine HandSHeadRun.head_any (r := K18.Rw) (q := view K18.Rw.prog [58]) (H := K18.hk) (ob := K18.ob) (M := 6000) (loose := K18.names) (d := HandSHeadRun.topDef K18.Rw.prog 58) (kwd := []) K18.ob_eq
    (by kernel_rfl) (fun s => by kernel_rfl) K18.run (by kernel_rfl) (by kernel_rfl) (by kernel_rfl) (by rfl) (by first | assumption | decide +kernel) (by decide +kernel) ⟨rfl, rfl, rfl, rfl, rfl, by decide +kernel⟩ ?hw ?hc
  case hw => w_witness2
  case hc =>
    refine Att.attach_call (l := PySem.Challenge.rw_turnedties_k18_whole_classes_by_going_th) (n := 63) rfl (by kernel_rfl) fun w s0 s1 mg mb f o pm cd doc a vs ns G Y _ _ _ hm ha hi hl gen => ?_
    obtain ⟨K, KX, c⟩ := Y
    have hn : (HandSHeadRun.topDef K18.Rw.prog 58).name = ("law" : PySem.Str) := by kernel_rfl
    rw [hn] at hm
    exact K18.run_law KX G.T.g G.T.b G.T.builtins G.T.nolimit gen ha hi hl hm fun base X g => K18.law_g X g c
