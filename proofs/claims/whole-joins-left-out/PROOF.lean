import PyProof.Rows.All
import Wide.All
import OpenK.AllK
import Wide.FinOn
import HandS.ForMost
import HandS.IsInst
import HandS.Codes
import HandS.Lambda
import HandS.EndTab
import HandS.Conv
import HandS.Style
import HandS.TupAny
import HandS.TupMul
import HandS.Deep
import HandS.SetKeys
import HandS.SortInts
import HandS.SortRule
import HandS.SetFor
import HandS.Walk
import HandS.Head0
import HandS.Head1
import HandS.Head2
import HandS.HeadHook4
import HandS.HeadWalk
import PySem.Challenge.RW_lotheads_k89_whole_joins_left_out
/-! LhMath -/
/-! LhMath: the mathematics of lots, plain Lean. -/
set_option linter.all false
namespace LH
abbrev E := Nat × Nat

/-! ### labels: the plain law -/
/-- things of a's label and of b's label get one label -/
def mrg (h : Nat → Nat) (e : E) : Nat → Nat := fun z => if h z = h e.2 then h e.1 else h z
def qf (h : Nat → Nat) (es : List E) : Nat → Nat := es.foldl mrg h
/-- which joins are real -/
def ans : (Nat → Nat) → List E → List Bool
  | _, [] => []
  | h, e :: es => (!decide (h e.1 = h e.2)) :: ans (mrg h e) es
theorem ans_cons (h : Nat → Nat) (e : E) (es : List E) : ans h (e :: es) = (!decide (h e.1 = h e.2)) :: ans (mrg h e) es := rfl
def real (h : Nat → Nat) (es : List E) : Nat := (ans h es).count true

inductive Con (es : List E) : Nat → Nat → Prop
  | refl (x : Nat) : Con es x x
  | edge {x y : Nat} : (x, y) ∈ es → Con es x y
  | symm {x y : Nat} : Con es x y → Con es y x
  | trans {x y z : Nat} : Con es x y → Con es y z → Con es x z

theorem Con.mono {es es' : List E} (h : ∀ e ∈ es, e ∈ es' ∨ (e.2, e.1) ∈ es') {x y : Nat} (c : Con es x y) : Con es' x y := by
  induction c with
  | refl x => exact .refl x
  | edge m =>
    rcases h _ m with q | q
    · exact .edge q
    · exact .symm (.edge q)
  | symm _ ih => exact .symm ih
  | trans _ _ i1 i2 => exact .trans i1 i2
theorem Con.map {es : List E} {F : Nat → Nat} (h : ∀ e ∈ es, F e.1 = F e.2) {x y : Nat} (c : Con es x y) : F x = F y := by
  induction c with
  | refl x => rfl
  | edge m => exact h _ m
  | symm _ ih => exact ih.symm
  | trans _ _ i1 i2 => exact i1.trans i2

theorem mrg_rel (h : Nat → Nat) (e : E) (x y : Nat) : mrg h e x = mrg h e y ↔ h x = h y ∨ (h x = h e.1 ∧ h y = h e.2) ∨ (h x = h e.2 ∧ h y = h e.1) := by
  unfold mrg
  generalize h x = p
  generalize h y = q
  generalize h e.1 = a
  generalize h e.2 = b
  split <;> split <;> omega
theorem mrg_mono {h : Nat → Nat} {e : E} {x y : Nat} (q : h x = h y) : mrg h e x = mrg h e y := (mrg_rel h e x y).mpr (.inl q)
theorem mrg_edge (h : Nat → Nat) (e : E) : mrg h e e.1 = mrg h e e.2 := (mrg_rel h e _ _).mpr (.inr (.inl ⟨rfl, rfl⟩))
theorem qf_mono : ∀ (es : List E) {h : Nat → Nat} {x y : Nat}, h x = h y → qf h es x = qf h es y
  | [], _, _, _, q => q
  | e :: es, h, _, _, q => qf_mono es (mrg_mono q)
theorem qf_edges : ∀ (es : List E) (h : Nat → Nat), ∀ e ∈ es, qf h es e.1 = qf h es e.2
  | [], _, _, m => absurd m (by simp)
  | e :: es, h, e', m => by
    rcases List.mem_cons.mp m with rfl | m
    · exact qf_mono es (mrg_edge h e')
    · exact qf_edges es (mrg h e) e' m
theorem qf_con : ∀ (es : List E) (h : Nat → Nat) (es0 : List E), (∀ x y, h x = h y → Con es0 x y) → ∀ x y, qf h es x = qf h es y → Con (es0 ++ es) x y
  | [], h, es0, a, x, y, q => by rw [List.append_nil]; exact a x y q
  | e :: es, h, es0, a, x, y, q => by
    have ih := qf_con es (mrg h e) (es0 ++ [e]) (fun x y q => by
      have up : ∀ {x y}, Con es0 x y → Con (es0 ++ [e]) x y := fun c => c.mono fun e' m => .inl (List.mem_append_left _ m)
      have ed : Con (es0 ++ [e]) e.1 e.2 := .edge (by simp)
      rcases (mrg_rel h e x y).mp q with q | ⟨q, r⟩ | ⟨q, r⟩
      · exact up (a _ _ q)
      · exact (up (a _ _ q)).trans (ed.trans (up (a _ _ r)).symm)
      · exact (up (a _ _ q)).trans (ed.symm.trans (up (a _ _ r)).symm)) x y q
    rw [List.append_assoc] at ih
    exact ih
theorem qf_iff (es : List E) (x y : Nat) : qf id es x = qf id es y ↔ Con es x y :=
  ⟨fun q => by
    have := qf_con es id [] (fun x y q => by cases (show x = y from q); exact .refl _) x y q
    simpa using this, fun c => c.map (qf_edges es id)⟩
/-- the same joins in another order, turned about -/
def Alike (es es' : List E) : Prop := es.length = es'.length ∧ (∀ e ∈ es, e ∈ es' ∨ (e.2, e.1) ∈ es') ∧ ∀ e ∈ es', e ∈ es ∨ (e.2, e.1) ∈ es
theorem Alike.rel {es es' : List E} (a : Alike es es') (x y : Nat) : qf id es x = qf id es y ↔ qf id es' x = qf id es' y := by
  rw [qf_iff, qf_iff]
  exact ⟨fun c => c.mono a.2.1, fun c => c.mono a.2.2⟩
theorem sub_rel {es es' : List E} (a : ∀ e ∈ es, e ∈ es') {x y : Nat} (q : qf id es x = qf id es y) : qf id es' x = qf id es' y :=
  (qf_iff _ _ _).mpr (((qf_iff _ _ _).mp q).mono fun e m => .inl (a e m))

/-! ### lots of labels -/
def cls (n : Nat) (h : Nat → Nat) (x : Nat) : List Nat := (List.range n).filter fun y => decide (h y = h x)
theorem mem_cls {n : Nat} {h : Nat → Nat} {x y : Nat} : y ∈ cls n h x ↔ y < n ∧ h y = h x := by
  unfold cls
  simp [List.mem_filter]
theorem cls_congr {n : Nat} {h : Nat → Nat} {x y : Nat} (q : h x = h y) : cls n h x = cls n h y := by
  unfold cls
  rw [q]
theorem cls_self {n : Nat} {h : Nat → Nat} {x : Nat} (hx : x < n) : x ∈ cls n h x := mem_cls.mpr ⟨hx, rfl⟩
theorem cls_eq {n : Nat} {h : Nat → Nat} {x y : Nat} (hx : x < n) : cls n h x = cls n h y ↔ h x = h y :=
  ⟨fun q => (mem_cls.mp (q ▸ cls_self hx)).2, cls_congr⟩
theorem cls_rel {n : Nat} {h h' : Nat → Nat} (r : ∀ x y, x < n → y < n → (h x = h y ↔ h' x = h' y)) {x : Nat} (hx : x < n) : cls n h x = cls n h' x := by
  unfold cls
  refine List.filter_congr fun y hy => ?_
  have := r y x (List.mem_range.mp hy) hx
  by_cases q : h y = h x
  · rw [decide_eq_true q, decide_eq_true (this.mp q)]
  · rw [decide_eq_false q, decide_eq_false fun z => q (this.mpr z)]
theorem cls_sorted (n : Nat) (h : Nat → Nat) (x : Nat) : (cls n h x).Pairwise (· < ·) := List.pairwise_lt_range.filter _
structure IsLots (n : Nat) (h : Nat → Nat) (ls : List (List Nat)) : Prop where
  nodup : ls.Nodup
  mem : ∀ l, l ∈ ls ↔ ∃ x, x < n ∧ l = cls n h x
theorem IsLots.rel {n : Nat} {h h' : Nat → Nat} {ls : List (List Nat)} (r : ∀ x y, x < n → y < n → (h x = h y ↔ h' x = h' y)) (i : IsLots n h ls) : IsLots n h' ls :=
  ⟨i.nodup, fun l => by
    rw [i.mem]
    constructor
    · rintro ⟨x, hx, e⟩
      exact ⟨x, hx, e.trans (cls_rel r hx)⟩
    · rintro ⟨x, hx, e⟩
      exact ⟨x, hx, e.trans (cls_rel r hx).symm⟩⟩
theorem IsLots.perm {n : Nat} {h : Nat → Nat} {ls ls' : List (List Nat)} (i : IsLots n h ls) (p : ls'.Perm ls) : IsLots n h ls' :=
  ⟨p.nodup_iff.mpr i.nodup, fun l => (p.mem_iff).trans (i.mem l)⟩
/-- no item twice, all among the others: not more -/
theorem nodup_le {α : Type} [DecidableEq α] : ∀ {l m : List α}, l.Nodup → (∀ x ∈ l, x ∈ m) → l.length ≤ m.length
  | [], _, _, _ => Nat.zero_le _
  | a :: l, m, hn, hs => by
    have ha : a ∈ m := hs a (by simp)
    have h1 := nodup_le (l := l) (m := m.erase a) (List.nodup_cons.mp hn).2 (fun x hx => (List.mem_erase_of_ne (by intro e; rw [e] at hx; exact (List.nodup_cons.mp hn).1 hx)).mpr (hs x (by simp [hx])))
    rw [List.length_erase_of_mem ha] at h1
    have : 0 < m.length := List.length_pos_of_mem ha
    simp only [List.length_cons]
    omega
theorem IsLots.length_eq {n : Nat} {h : Nat → Nat} {ls ls' : List (List Nat)} (i : IsLots n h ls) (j : IsLots n h ls') : ls.length = ls'.length :=
  Nat.le_antisymm (nodup_le i.nodup fun x hx => (j.mem x).mpr ((i.mem x).mp hx)) (nodup_le j.nodup fun x hx => (i.mem x).mpr ((j.mem x).mp hx))
/-- a finer one has no fewer lots -/
theorem IsLots.finer {n : Nat} {h h' : Nat → Nat} {ls ls' : List (List Nat)} (i : IsLots n h ls) (j : IsLots n h' ls') (f : ∀ x y, x < n → y < n → h x = h y → h' x = h' y) : ls'.length ≤ ls.length := by
  have inj : (ls'.map fun l => cls n h (l.headD 0)).Nodup := by
    rw [List.nodup_iff_pairwise_ne, List.pairwise_map]
    refine List.Pairwise.imp_of_mem ?_ (List.nodup_iff_pairwise_ne.mp j.nodup)
    intro a b ha hb hne q
    obtain ⟨x, hx, ea⟩ := (j.mem a).mp ha
    obtain ⟨y, hy, eb⟩ := (j.mem b).mp hb
    have hda : a.headD 0 ∈ a := by
      have : x ∈ a := ea ▸ cls_self hx
      cases a with
      | nil => simp at this
      | cons c r => simp
    have hdb : b.headD 0 ∈ b := by
      have : y ∈ b := eb ▸ cls_self hy
      cases b with
      | nil => simp at this
      | cons c r => simp
    generalize a.headD 0 = u at *
    generalize b.headD 0 = v at *
    rw [ea] at hda
    rw [eb] at hdb
    obtain ⟨h1, h2⟩ := mem_cls.mp hda
    obtain ⟨h3, h4⟩ := mem_cls.mp hdb
    have h5 := f u v h1 h3 ((cls_eq h1).mp q)
    exact hne (ea.trans ((cls_congr (h2.symm.trans (h5.trans h4))).trans eb.symm))
  have := nodup_le inj (m := ls) fun l hl => by
    obtain ⟨a, ha, e⟩ := List.mem_map.mp hl
    obtain ⟨x, hx, ea⟩ := (j.mem a).mp ha
    have hda : a.headD 0 < n := by
      have hm : x ∈ a := ea ▸ cls_self hx
      have : a.headD 0 ∈ a := by
        cases a with
        | nil => simp at hm
        | cons c r => simp
      rw [ea] at this
      rw [ea]
      exact (mem_cls.mp this).1
    exact (i.mem l).mpr ⟨_, hda, e.symm⟩
  simpa using this

/-! ### the lots by hand: the list that the law makes -/
def stepL (ls : List (List Nat)) (e : E) : List (List Nat) :=
  let one := (ls.find? fun l => decide (e.1 ∈ l)).getD []
  let other := (ls.find? fun l => decide (e.2 ∈ l)).getD []
  if one = other then ls else (ls.filter fun l => !(decide (l = one) || decide (l = other))) ++ [(one ++ other).mergeSort (fun a b => decide (a ≤ b))]
theorem IsLots.find {n : Nat} {h : Nat → Nat} {ls : List (List Nat)} (i : IsLots n h ls) {x : Nat} (hx : x < n) : ls.find? (fun l => decide (x ∈ l)) = some (cls n h x) := by
  cases e : ls.find? (fun l => decide (x ∈ l)) with
  | none =>
    have := List.find?_eq_none.mp e (cls n h x) ((i.mem _).mpr ⟨x, hx, rfl⟩)
    simp [cls_self hx] at this
  | some l =>
    have h1 := List.find?_some e
    have h2 := List.mem_of_find?_eq_some e
    obtain ⟨y, hy, el⟩ := (i.mem l).mp h2
    have h3 : x ∈ l := by simpa using h1
    rw [el] at h3
    rw [el, cls_congr (mem_cls.mp h3).2]
theorem sorted_eq {l m : List Nat} (hl : l.Pairwise (· < ·)) (hm : m.Pairwise (· < ·)) (h : ∀ x, x ∈ l ↔ x ∈ m) : l = m := by
  induction l generalizing m with
  | nil =>
    cases m with
    | nil => rfl
    | cons a r => exact absurd ((h a).mpr (by simp)) (by simp)
  | cons a l ih =>
    cases m with
    | nil => exact absurd ((h a).mp (by simp)) (by simp)
    | cons b m =>
      obtain ⟨h1, h2⟩ := List.pairwise_cons.mp hl
      obtain ⟨h3, h4⟩ := List.pairwise_cons.mp hm
      have e : a = b := by
        rcases List.mem_cons.mp ((h a).mp (by simp)) with e | q
        · exact e
        · rcases List.mem_cons.mp ((h b).mpr (by simp)) with e | r
          · exact e.symm
          · have := h1 b r
            have := h3 a q
            omega
      subst e
      rw [ih h2 h4 fun x => ?_]
      constructor
      · intro q
        rcases List.mem_cons.mp ((h x).mp (by simp [q])) with e | r
        · have := h1 x q
          omega
        · exact r
      · intro q
        rcases List.mem_cons.mp ((h x).mpr (by simp [q])) with e | r
        · have := h3 x q
          omega
        · exact r
/-- the merged lot is the class of the merged labels, however it is sorted -/
theorem merged {n : Nat} {h : Nat → Nat} {e : E} (ha : e.1 < n) (hb : e.2 < n) (hne : h e.1 ≠ h e.2) {m : List Nat} (p : m.Perm (cls n h e.1 ++ cls n h e.2)) (s : m.Pairwise (· ≤ ·)) : m = cls n (mrg h e) e.1 := by
  have nd : m.Nodup := by
    refine p.nodup_iff.mpr (List.nodup_append.mpr ⟨(cls_sorted n h e.1).imp (fun q => by omega), (cls_sorted n h e.2).imp (fun q => by omega), fun a h1 b h2 q => ?_⟩)
    subst q
    exact hne ((mem_cls.mp h1).2.symm.trans (mem_cls.mp h2).2)
  have s' : m.Pairwise (· < ·) := by
    have := List.Pairwise.and s (List.nodup_iff_pairwise_ne.mp nd)
    exact this.imp fun ⟨a, b⟩ => by omega
  refine sorted_eq s' (cls_sorted _ _ _) fun x => ?_
  rw [p.mem_iff, List.mem_append, mem_cls, mem_cls, mem_cls, mrg_rel]
  constructor
  · rintro (⟨h1, h2⟩ | ⟨h1, h2⟩)
    · exact ⟨h1, .inl h2⟩
    · exact ⟨h1, .inr (.inr ⟨h2, rfl⟩)⟩
  · rintro ⟨h1, h2 | ⟨h2, h3⟩ | ⟨h2, h3⟩⟩
    · exact .inl ⟨h1, h2⟩
    · exact absurd h3 hne
    · exact .inr ⟨h1, h2⟩
theorem filter_two {α : Type} [DecidableEq α] : ∀ {ls : List α} {a b : α}, ls.Nodup → a ∈ ls → b ∈ ls → a ≠ b → (ls.filter fun l => !(decide (l = a) || decide (l = b))).length + 2 = ls.length
  | ls, a, b, hn, ha, hb, hne => by
    have e : (ls.filter fun l => !(decide (l = a) || decide (l = b))) = (ls.erase a).erase b := by
      rw [List.Nodup.erase_eq_filter (hn.erase a), List.Nodup.erase_eq_filter hn, List.filter_filter]
      refine List.filter_congr fun x _ => ?_
      by_cases h1 : x = a <;> by_cases h2 : x = b <;> simp [h1, h2]
    rw [e, List.length_erase_of_mem, List.length_erase_of_mem ha]
    · have h1 : 0 < ls.length := List.length_pos_of_mem ha
      have h2 : 0 < (ls.erase a).length := List.length_pos_of_mem ((List.mem_erase_of_ne (Ne.symm hne)).mpr hb)
      rw [List.length_erase_of_mem ha] at h2
      omega
    · exact (List.mem_erase_of_ne (Ne.symm hne)).mpr hb
theorem IsLots.merge {n : Nat} {h : Nat → Nat} {ls : List (List Nat)} {e : E} (i : IsLots n h ls) (ha : e.1 < n) (hb : e.2 < n) (hne : h e.1 ≠ h e.2) :
    IsLots n (mrg h e) ((ls.filter fun l => !(decide (l = cls n h e.1) || decide (l = cls n h e.2))) ++ [cls n (mrg h e) e.1]) := by
  have other : ∀ x, x < n → h x ≠ h e.1 → h x ≠ h e.2 → cls n h x = cls n (mrg h e) x := by
    intro x hx h1 h2
    unfold cls
    refine List.filter_congr fun y _ => ?_
    have := mrg_rel h e y x
    by_cases q : h y = h x
    · rw [decide_eq_true q, decide_eq_true (this.mpr (.inl q))]
    · rw [decide_eq_false q, decide_eq_false fun z => ?_]
      rcases this.mp z with z | ⟨_, z⟩ | ⟨_, z⟩
      · exact q z
      · exact h2 z
      · exact h1 z
  refine ⟨?_, fun l => ?_⟩
  · refine List.nodup_append.mpr ⟨i.nodup.filter _, by simp, fun a h1 b h2 q => ?_⟩
    rw [List.mem_singleton.mp h2] at q
    obtain ⟨h3, h4⟩ := List.mem_filter.mp h1
    obtain ⟨x, hx, ex⟩ := (i.mem a).mp h3
    have m1 : e.1 ∈ a := by rw [q]; exact cls_self ha
    rw [ex] at m1
    have := (cls_congr (n := n) (mem_cls.mp m1).2)
    rw [← this] at ex
    simp [ex] at h4
  · rw [List.mem_append, List.mem_filter, List.mem_singleton]
    constructor
    · rintro (⟨h1, h2⟩ | h1)
      · obtain ⟨x, hx, ex⟩ := (i.mem l).mp h1
        simp only [Bool.not_or, Bool.and_eq_true, Bool.not_eq_true', decide_eq_false_iff_not] at h2
        exact ⟨x, hx, ex.trans (other x hx (fun z => h2.1 (ex.trans (cls_congr z))) (fun z => h2.2 (ex.trans (cls_congr z))))⟩
      · exact ⟨e.1, ha, h1⟩
    · rintro ⟨x, hx, ex⟩
      by_cases h1 : h x = h e.1
      · exact .inr (ex.trans (cls_congr (mrg_mono h1)))
      · by_cases h2 : h x = h e.2
        · exact .inr (ex.trans (cls_congr ((mrg_mono h2).trans (mrg_edge h e).symm)))
        · refine .inl ⟨(i.mem l).mpr ⟨x, hx, ex.trans (other x hx h1 h2).symm⟩, ?_⟩
          rw [ex, ← other x hx h1 h2]
          simp only [Bool.not_or, Bool.and_eq_true, Bool.not_eq_true', decide_eq_false_iff_not]
          exact ⟨fun z => h1 ((cls_eq hx).mp z), fun z => h2 ((cls_eq hx).mp z)⟩
theorem mrg_same {h : Nat → Nat} {e : E} (q : h e.1 = h e.2) (x y : Nat) : mrg h e x = mrg h e y ↔ h x = h y := by
  rw [mrg_rel]
  constructor
  · rintro (z | ⟨z, r⟩ | ⟨z, r⟩)
    · exact z
    · exact z.trans (q.trans r.symm)
    · exact z.trans (q.symm.trans r.symm)
  · exact .inl
theorem lots_one (n : Nat) : IsLots n id ((List.range n).map fun x => [x]) := by
  refine ⟨?_, fun l => ?_⟩
  · rw [List.nodup_iff_pairwise_ne, List.pairwise_map]
    exact List.pairwise_lt_range.imp fun q z => by
      have := List.cons.inj z
      omega
  · have e : ∀ x, x < n → cls n id x = [x] := fun x hx => sorted_eq (cls_sorted _ _ _) (by simp) fun y => by
      rw [mem_cls]
      simp only [id, List.mem_singleton]
      omega
    simp only [List.mem_map, List.mem_range]
    constructor
    · rintro ⟨x, hx, q⟩
      exact ⟨x, hx, q.symm.trans (e x hx).symm⟩
    · rintro ⟨x, hx, q⟩
      exact ⟨x, hx, (q.trans (e x hx)).symm⟩
/-! ### how many -/
theorem real_cons (h : Nat → Nat) (e : E) (es : List E) : real h (e :: es) = (if h e.1 = h e.2 then 0 else 1) + real (mrg h e) es := by
  unfold real
  rw [ans_cons]
  by_cases q : h e.1 = h e.2
  · rw [decide_eq_true q, if_pos q]
    simp
  · rw [decide_eq_false q, if_neg q]
    simp
    omega
/-- lots and real joins are as many as things -/
theorem count_lots : ∀ (es : List E) {n : Nat} {h : Nat → Nat} {ls : List (List Nat)}, (∀ e ∈ es, e.1 < n ∧ e.2 < n) → IsLots n h ls → ∀ ls', IsLots n (qf h es) ls' → ls'.length + real h es = ls.length
  | [], n, h, ls, _, i, ls', j => i.length_eq j ▸ rfl
  | e :: es, n, h, ls, hv, i, ls', j => by
    obtain ⟨ha, hb⟩ := hv e (by simp)
    rw [real_cons]
    by_cases q : h e.1 = h e.2
    · rw [if_pos q]
      have := count_lots es (fun e' m => hv e' (by simp [m])) (i.rel fun x y _ _ => (mrg_same q x y).symm) ls' j
      omega
    · rw [if_neg q]
      have := count_lots es (fun e' m => hv e' (by simp [m])) (i.merge ha hb q) ls' j
      rw [List.length_append, List.length_singleton] at this
      have h2 := filter_two i.nodup ((i.mem _).mpr ⟨e.1, ha, rfl⟩) ((i.mem _).mpr ⟨e.2, hb, rfl⟩) (fun z => q ((cls_eq ha).mp z))
      omega
/-! ### left out -/
/-- the finer labels -/
def Fin_ (h h' : Nat → Nat) : Prop := ∀ x y, h x = h y → h' x = h' y
theorem Fin_.mrg {h h' : Nat → Nat} (f : Fin_ h h') (e : E) : Fin_ (mrg h e) (mrg h' e) := fun x y q => by
  rcases (mrg_rel h e x y).mp q with q | ⟨q, r⟩ | ⟨q, r⟩
  · exact (mrg_rel h' e x y).mpr (.inl (f _ _ q))
  · exact (mrg_rel h' e x y).mpr (.inr (.inl ⟨f _ _ q, f _ _ r⟩))
  · exact (mrg_rel h' e x y).mpr (.inr (.inr ⟨f _ _ q, f _ _ r⟩))
theorem Fin_.left {h h' : Nat → Nat} (f : Fin_ h h') (e : E) : Fin_ h (LH.mrg h' e) := fun x y q => mrg_mono (f _ _ q)
/-- by coarser labels no more joins are real; as many only where the same ones are -/
theorem ans_fin : ∀ (es : List E) {h h' : Nat → Nat}, Fin_ h h' → real h' es ≤ real h es ∧ (ans h es ≠ ans h' es → real h' es < real h es)
  | [], _, _, _ => ⟨Nat.le_refl _, fun z => absurd rfl z⟩
  | e :: es, h, h', f => by
    obtain ⟨h1, h2⟩ := ans_fin es (f.mrg e)
    rw [real_cons, real_cons]
    by_cases q : h e.1 = h e.2
    · have q' := f _ _ q
      rw [if_pos q, if_pos q']
      refine ⟨by omega, fun z => ?_⟩
      have := h2 fun z' => z (by rw [ans_cons, ans_cons, z', decide_eq_true q, decide_eq_true q'])
      omega
    · rw [if_neg q]
      by_cases q' : h' e.1 = h' e.2
      · rw [if_pos q']
        exact ⟨by omega, fun _ => by omega⟩
      · rw [if_neg q']
        refine ⟨by omega, fun z => ?_⟩
        have := h2 fun z' => z (by rw [ans_cons, ans_cons, z', decide_eq_false q, decide_eq_false q'])
        omega
/-- the row without those that are left out -/
def rem : (Nat → Bool) → List E → List E
  | _, [] => []
  | p, e :: es => if p 0 then rem (fun k => p (k + 1)) es else e :: rem (fun k => p (k + 1)) es
theorem rem_cons (p : Nat → Bool) (e : E) (es : List E) : rem p (e :: es) = if p 0 then rem (fun k => p (k + 1)) es else e :: rem (fun k => p (k + 1)) es := rfl
theorem rem_sub : ∀ (es : List E) (p : Nat → Bool), ∀ e ∈ rem p es, e ∈ es
  | [], _, _, m => m
  | e :: es, p, e', m => by
    unfold rem at m
    split at m
    · exact List.mem_cons_of_mem _ (rem_sub es _ e' m)
    · rcases List.mem_cons.mp m with q | m
      · rw [q]; simp
      · exact List.mem_cons_of_mem _ (rem_sub es _ e' m)
theorem rem_len : ∀ (es : List E) (p : Nat → Bool), (rem p es).length ≤ es.length
  | [], _ => Nat.le_refl _
  | e :: es, p => by
    unfold rem
    have := rem_len es fun k => p (k + 1)
    split <;> simp only [List.length_cons] <;> omega
theorem rem_congr : ∀ (es : List E) {p q : Nat → Bool}, (∀ k, k < es.length → p k = q k) → rem p es = rem q es
  | [], _, _, _ => rfl
  | e :: es, p, q, h => by
    rw [rem_cons, rem_cons, h 0 (by simp), rem_congr es fun k hk => h (k + 1) (by simp only [List.length_cons]; omega)]
theorem rem_none : ∀ (es : List E) {p : Nat → Bool}, (∀ k, k < es.length → p k = false) → rem p es = es
  | [], _, _ => rfl
  | e :: es, p, h => by
    rw [rem_cons, h 0 (by simp), rem_none es fun k hk => h (k + 1) (by simp only [List.length_cons]; omega)]
    rfl
/-- how many are left out -/
def gone : (Nat → Bool) → List E → Nat
  | _, [] => 0
  | p, _ :: es => (if p 0 then 1 else 0) + gone (fun k => p (k + 1)) es
theorem gone_le : ∀ (es : List E) {h h' : Nat → Nat} (p : Nat → Bool), Fin_ h h' → real h' es ≤ real h (rem p es) + gone p es
  | [], _, _, _, _ => Nat.le_refl _
  | e :: es, h, h', p, f => by
    unfold rem gone
    rw [real_cons]
    by_cases q : p 0 = true
    · rw [if_pos q, if_pos q]
      have := gone_le es (fun k => p (k + 1)) (f.left e)
      split <;> omega
    · rw [if_neg q, if_neg q, real_cons]
      have := gone_le es (fun k => p (k + 1)) (f.mrg e)
      by_cases r : h e.1 = h e.2
      · rw [if_pos r, if_pos (f _ _ r)]
        omega
      · rw [if_neg r]
        split <;> omega
theorem gone_count : ∀ (es : List E) (p : Nat → Bool), gone p es = ((List.range es.length).filter p).length
  | [], _ => rfl
  | e :: es, p => by
    unfold gone
    rw [gone_count es, List.length_cons, List.range_succ_eq_map, List.filter_cons]
    have : (List.filter p (List.map Nat.succ (List.range es.length))).length = (List.filter (fun k => p (k + 1)) (List.range es.length)).length := by
      rw [List.filter_map, List.length_map]
      rfl
    split
    · simp only [List.length_cons]
      omega
    · omega
theorem gone_mem (es : List E) (S : List Nat) : gone (fun k => decide (k ∈ S)) es ≤ S.length := by
  rw [gone_count]
  exact nodup_le (List.nodup_range.filter _) fun x hx => by simpa using (List.mem_filter.mp hx).2
/-- one left out -/
theorem rem_erase : ∀ (es : List E) (m : Nat) (p : Nat → Bool), m < es.length → rem p (es.eraseIdx m) = rem (fun k => if k = m then true else if k < m then p k else p (k - 1)) es
  | [], m, _, h => absurd h (by simp)
  | e :: es, 0, p, _ => by
    show rem p es = _
    rw [rem_cons, if_pos (by simp)]
    exact rem_congr _ fun k _ => by simp
  | e :: es, m + 1, p, h => by
    show rem p (e :: es.eraseIdx m) = _
    have h' : m < es.length := by simp only [List.length_cons] at h; omega
    rw [rem_cons, rem_cons]
    simp only [show ¬ (0 = m + 1) by omega, if_false, show 0 < m + 1 by omega, if_true]
    rw [rem_erase es m _ h']
    have : rem (fun k => if k = m then true else if k < m then p (k + 1) else p (k - 1 + 1)) es = rem (fun k => if k + 1 = m + 1 then true else if k + 1 < m + 1 then p (k + 1) else p (k + 1 - 1)) es := by
      refine rem_congr _ fun k _ => ?_
      by_cases h1 : k = m
      · simp [h1]
      · by_cases h2 : k < m
        · simp [h1, h2]
        · have e1 : k - 1 + 1 = k := by omega
          simp [h1, h2, e1]
    rw [this]
/-- the numbers behind a join that is left out -/
def shift (m o : Nat) : Nat := if o > m then o - 1 else o
theorem rem_shift (es : List E) (m : Nat) (S : List Nat) (hm : m < es.length) (hn : m ∉ S) : rem (fun k => decide (k ∈ S.map (shift m))) (es.eraseIdx m) = rem (fun k => decide (k ∈ m :: S)) es := by
  rw [rem_erase es m _ hm]
  refine rem_congr _ fun k _ => ?_
  by_cases h1 : k = m
  · simp [h1]
  · have key : ∀ j, (j = k ∧ k < m) ∨ (j + 1 = k ∧ m < k) → (j ∈ S.map (shift m) ↔ k ∈ S) := by
      intro j hj
      rw [List.mem_map]
      constructor
      · rintro ⟨o, ho, e⟩
        unfold shift at e
        have hom : o ≠ m := fun z => hn (z ▸ ho)
        split at e
        · have : o = k := by omega
          exact this ▸ ho
        · have : o = k := by omega
          exact this ▸ ho
      · intro q
        refine ⟨k, q, ?_⟩
        unfold shift
        split <;> omega
    by_cases h2 : k < m
    · simp only [h1, if_false, h2, if_true, List.mem_cons, false_or]
      rw [decide_eq_decide]
      exact key k (.inl ⟨rfl, h2⟩)
    · simp only [h1, if_false, h2, List.mem_cons, false_or]
      rw [decide_eq_decide]
      exact key (k - 1) (.inr ⟨by omega, by omega⟩)
theorem rem_one (es : List E) (m : Nat) (hm : m < es.length) : rem (fun k => decide (k ∈ [m])) es = es.eraseIdx m := by
  have := rem_shift es m [] hm (by simp)
  rw [← this]
  exact rem_none _ fun k _ => by simp
theorem rem_mem_congr (es : List E) {S T : List Nat} (h : ∀ k, k ∈ S ↔ k ∈ T) : rem (fun k => decide (k ∈ S)) es = rem (fun k => decide (k ∈ T)) es :=
  rem_congr _ fun k _ => by rw [decide_eq_decide]; exact h k
theorem shift_nodup {m : Nat} {S : List Nat} (h : (m :: S).Nodup) : (S.map (shift m)).Nodup := by
  obtain ⟨h1, h2⟩ := List.nodup_cons.mp h
  rw [List.nodup_iff_pairwise_ne, List.pairwise_map]
  refine List.Pairwise.imp_of_mem (fun {a b} ha hb hne q => ?_) (List.nodup_iff_pairwise_ne.mp h2)
  have e1 : a ≠ m := fun z => h1 (z ▸ ha)
  have e2 : b ≠ m := fun z => h1 (z ▸ hb)
  unfold shift at q
  split at q <;> split at q <;> omega
theorem shift_lt {m n : Nat} {S : List Nat} (hm : m < n) (h : ∀ o ∈ m :: S, o < n) (hn : m ∉ S) : ∀ o ∈ S.map (shift m), o < n - 1 := fun o ho => by
  obtain ⟨a, ha, e⟩ := List.mem_map.mp ho
  have h1 := h a (by simp [ha])
  have h2 : a ≠ m := fun z => hn (z ▸ ha)
  unfold shift at e
  split at e <;> omega
end LH
/-! LhForest -/
/-! LhForest: forests of ups, joined by size; plain Lean. -/
set_option linter.all false
namespace LH
def up (ups : List Nat) (x : Nat) : Nat := ups.getD x 0
/-- the way from a thing to its head -/
def wayF (ups : List Nat) : Nat → Nat → List Nat
  | 0, x => [x]
  | f + 1, x => if up ups x = x then [x] else x :: wayF ups f (up ups x)
def hdF (ups : List Nat) : Nat → Nat → Nat
  | 0, x => x
  | f + 1, x => if up ups x = x then x else hdF ups f (up ups x)
def way (ups : List Nat) (x : Nat) : List Nat := wayF ups 1000 x
def hd (ups : List Nat) (x : Nat) : Nat := hdF ups 1000 x

/-- a forest of n things, no thing deeper than k -/
structure Fo (n k : Nat) (ups : List Nat) : Prop where
  len : ups.length = n
  lt : ∀ x, x < n → up ups x < n
  dep : ∃ d : Nat → Nat, (∀ x, x < n → d x ≤ k) ∧ (∀ x, x < n → up ups x = x → d x = 0) ∧ ∀ x, x < n → up ups x ≠ x → d (up ups x) < d x
theorem Fo.mono {n k j : Nat} {ups : List Nat} (F : Fo n k ups) (h : k ≤ j) : Fo n j ups := by
  obtain ⟨d, h1, h2, h3⟩ := F.dep
  exact ⟨F.len, F.lt, d, fun x hx => Nat.le_trans (h1 x hx) h, h2, h3⟩
theorem up_get {ups : List Nat} {x : Nat} (h : x < ups.length) : ups[x]? = some (up ups x) := by
  unfold up
  rw [List.getD_eq_getElem?_getD, List.getElem?_eq_getElem h]
  rfl
section
variable {n k : Nat} {ups : List Nat}
theorem hdF_root (f : Nat) {x : Nat} (h : up ups x = x) : hdF ups f x = x := by
  cases f with
  | zero => rfl
  | succ f => unfold hdF; rw [if_pos h]
theorem hdF_fuel {d : Nat → Nat} (lt : ∀ x, x < n → up ups x < n) (d0 : ∀ x, x < n → up ups x = x → d x = 0) (hd : ∀ x, x < n → up ups x ≠ x → d (up ups x) < d x) : ∀ (f g x : Nat), x < n → d x ≤ f → d x ≤ g → hdF ups f x = hdF ups g x := by
  intro f
  induction f with
  | zero =>
    intro g x hx h1 h2
    by_cases q : up ups x = x
    · rw [hdF_root _ q, hdF_root _ q]
    · have := hd x hx q
      omega
  | succ f ih =>
    intro g x hx h1 h2
    by_cases q : up ups x = x
    · rw [hdF_root _ q, hdF_root _ q]
    · have := hd x hx q
      cases g with
      | zero => omega
      | succ g =>
        unfold hdF
        rw [if_neg q, if_neg q]
        exact ih g _ (lt x hx) (by omega) (by omega)
theorem Fo.hd_root {x : Nat} (h : up ups x = x) : hd ups x = x := hdF_root _ h
theorem Fo.hd_up (F : Fo n k ups) (hk : k ≤ 900) {x : Nat} (hx : x < n) : hd ups (up ups x) = hd ups x := by
  obtain ⟨d, h1, h2, h3⟩ := F.dep
  by_cases q : up ups x = x
  · rw [q]
  · have e : hd ups x = hdF ups 999 (up ups x) := by
      show hdF ups (999 + 1) x = _
      rw [hdF, if_neg q]
    rw [e]
    have h5 := h1 _ (F.lt x hx)
    exact hdF_fuel F.lt h2 h3 _ _ _ (F.lt x hx) (by omega) (by omega)
/-- induction up the ways -/
theorem Fo.ind (F : Fo n k ups) {P : Nat → Prop} (root : ∀ x, x < n → up ups x = x → P x) (step : ∀ x, x < n → up ups x ≠ x → P (up ups x) → P x) : ∀ x, x < n → P x := by
  obtain ⟨d, h1, h2, h3⟩ := F.dep
  have : ∀ m x, x < n → d x ≤ m → P x := by
    intro m
    induction m with
    | zero =>
      intro x hx h
      by_cases q : up ups x = x
      · exact root x hx q
      · have := h3 x hx q
        omega
    | succ m ih =>
      intro x hx h
      by_cases q : up ups x = x
      · exact root x hx q
      · have := h3 x hx q
        exact step x hx q (ih _ (F.lt x hx) (by omega))
  exact fun x hx => this _ x hx (Nat.le_refl _)
theorem Fo.hd_lt (F : Fo n k ups) (hk : k ≤ 900) : ∀ x, x < n → hd ups x < n :=
  F.ind (fun x hx q => by rw [Fo.hd_root q]; exact hx) fun x hx q ih => by rw [← F.hd_up hk hx]; exact ih
theorem Fo.hd_is (F : Fo n k ups) (hk : k ≤ 900) : ∀ x, x < n → up ups (hd ups x) = hd ups x :=
  F.ind (fun x hx q => by rw [Fo.hd_root q]; exact q) fun x hx q ih => by rw [← F.hd_up hk hx]; exact ih
theorem Fo.hd_hd (F : Fo n k ups) (hk : k ≤ 900) {x : Nat} (hx : x < n) : hd ups (hd ups x) = hd ups x := Fo.hd_root (F.hd_is hk x hx)
end

/-! ### ways -/
section
variable {n k : Nat} {ups : List Nat}
/-- where the walk of x stands behind i steps -/
def at_ (ups : List Nat) : Nat → Nat → Nat
  | 0, x => x
  | i + 1, x => up ups (at_ ups i x)
theorem at_succ (i : Nat) : ∀ x, at_ ups (i + 1) x = at_ ups i (up ups x) := by
  induction i with
  | zero => intro x; rfl
  | succ i ih => intro x; show up ups (at_ ups (i + 1) x) = up ups (at_ ups i (up ups x)); rw [ih]
theorem Fo.at_lt (F : Fo n k ups) {x : Nat} (hx : x < n) : ∀ i, at_ ups i x < n
  | 0 => hx
  | i + 1 => F.lt _ (F.at_lt hx i)
/-- the first i + 1 on the way -/
def pre (ups : List Nat) (x i : Nat) : List Nat := (List.range (i + 1)).map fun j => at_ ups j x
theorem pre_succ (x i : Nat) : pre ups x (i + 1) = pre ups x i ++ [at_ ups (i + 1) x] := by
  unfold pre
  rw [List.range_succ, List.map_append]
  rfl
theorem pre_len (x i : Nat) : (pre ups x i).length = i + 1 := by simp [pre]
theorem pre_last (x i : Nat) : (pre ups x i)[i]? = some (at_ ups i x) := by
  unfold pre
  rw [List.getElem?_map, List.getElem?_range (by omega)]
  rfl
/-- behind some number of steps, none of them from a head, the head stands -/
theorem Fo.steps (F : Fo n k ups) (hk : k ≤ 900) : ∀ x, x < n → ∃ m, m ≤ k ∧ at_ ups m x = hd ups x ∧ (∀ i, i < m → up ups (at_ ups i x) ≠ at_ ups i x) := by
  obtain ⟨d, h1, h2, h3⟩ := F.dep
  have : ∀ j x, x < n → d x ≤ j → ∃ m, m ≤ j ∧ at_ ups m x = hd ups x ∧ (∀ i, i < m → up ups (at_ ups i x) ≠ at_ ups i x) := by
    intro j
    induction j with
    | zero =>
      intro x hx h
      by_cases q : up ups x = x
      · exact ⟨0, Nat.le_refl _, (Fo.hd_root q).symm, fun i hi => by omega⟩
      · have := h3 x hx q
        omega
    | succ j ih =>
      intro x hx h
      by_cases q : up ups x = x
      · exact ⟨0, Nat.zero_le _, (Fo.hd_root q).symm, fun i hi => by omega⟩
      · have := h3 x hx q
        obtain ⟨m, e1, e2, e3⟩ := ih _ (F.lt x hx) (by omega)
        refine ⟨m + 1, by omega, ?_, fun i hi => ?_⟩
        · rw [at_succ, e2, F.hd_up hk hx]
        · cases i with
          | zero => exact q
          | succ i =>
            rw [at_succ]
            exact e3 i (by omega)
  intro x hx
  obtain ⟨m, a, b, c⟩ := this _ x hx (Nat.le_refl _)
  exact ⟨m, Nat.le_trans a (h1 x hx), b, c⟩
/-- an up that was come to already: only a head's -/
theorem Fo.seen (F : Fo n k ups) {x i : Nat} (hx : x < n) (hn : ∀ j, j < i → up ups (at_ ups j x) ≠ at_ ups j x) : up ups (at_ ups i x) ∈ pre ups x i ↔ up ups (at_ ups i x) = at_ ups i x := by
  obtain ⟨d, h1, h2, h3⟩ := F.dep
  constructor
  · intro h
    apply Classical.byContradiction
    intro q
    obtain ⟨j, hj, e⟩ := List.mem_map.mp (show _ ∈ (List.range (i + 1)).map _ from h)
    have hj : j < i + 1 := List.mem_range.mp hj
    have dec : ∀ t, t ≤ i → d (at_ ups t x) + t ≤ d x := by
      intro t
      induction t with
      | zero => intro _; exact Nat.le_refl _
      | succ t ih =>
        intro ht
        have a := ih (by omega)
        have b := h3 _ (F.at_lt hx t) (hn t (by omega))
        show d (up ups (at_ ups t x)) + (t + 1) ≤ d x
        omega
    have mono : ∀ s t, t + s ≤ i → d (at_ ups (t + s) x) ≤ d (at_ ups t x) := by
      intro s
      induction s with
      | zero => intro t _; exact Nat.le_refl _
      | succ s ih =>
        intro t ht
        have a := ih t (by omega)
        have b := h3 _ (F.at_lt hx (t + s)) (hn (t + s) (by omega))
        show d (up ups (at_ ups (t + s) x)) ≤ _
        omega
    have a := mono (i - j) j (by omega)
    rw [show j + (i - j) = i by omega] at a
    have b := h3 _ (F.at_lt hx i) q
    rw [← e] at b
    omega
  · intro h
    rw [h]
    exact List.mem_map.mpr ⟨i, List.mem_range.mpr (by omega), rfl⟩
end

/-! ### joins by size -/
abbrev Sto := List Nat × List Nat
def mk (ms : List Nat) (x : Nat) : Nat := ms.getD x 0
/-- one head becomes the other's up -/
def lnk (s : Sto) (a b : Nat) : Sto := if mk s.2 a < mk s.2 b then (s.1.set a b, s.2.set b (mk s.2 b + mk s.2 a)) else (s.1.set b a, s.2.set a (mk s.2 a + mk s.2 b))
def stp (s : Sto) (e : E) : Sto := if hd s.1 e.1 = hd s.1 e.2 then s else lnk s (hd s.1 e.1) (hd s.1 e.2)
def ansS (s : Sto) (e : E) : Bool := !decide (hd s.1 e.1 = hd s.1 e.2)
def new (n : Nat) : Sto := (List.range n, List.replicate n 1)
def sto (n : Nat) (es : List E) : Sto := es.foldl stp (new n)
def ansU : Sto → List E → List Bool
  | _, [] => []
  | s, e :: es => ansS s e :: ansU (stp s e) es

/-- a store of n things whose lots are h's -/
structure Good (n k : Nat) (h : Nat → Nat) (s : Sto) : Prop where
  fo : Fo n k s.1
  len : s.2.length = n
  rel : ∀ x y, x < n → y < n → (hd s.1 x = hd s.1 y ↔ h x = h y)
theorem up_set {ups : List Nat} {g s x : Nat} (hg : g < ups.length) : up (ups.set g s) x = if x = g then s else up ups x := by
  unfold up
  rw [List.getD_eq_getElem?_getD, List.getD_eq_getElem?_getD, List.getElem?_set]
  by_cases e : g = x
  · rw [if_pos e, if_pos e.symm, if_pos hg]
    rfl
  · rw [if_neg e, if_neg (Ne.symm e)]
theorem Fo.link {n k : Nat} {ups : List Nat} (F : Fo n k ups) (hk : k ≤ 800) {g s : Nat} (hg : g < n) (hs : s < n) (rg : up ups g = g) (rs : up ups s = s) (ne : g ≠ s) :
    Fo n (k + 1) (ups.set g s) ∧ ∀ x, x < n → hd (ups.set g s) x = if hd ups x = g then s else hd ups x := by
  have hk9 : k ≤ 900 := by omega
  have ul : g < ups.length := by rw [F.len]; exact hg
  have u : ∀ x, up (ups.set g s) x = if x = g then s else up ups x := fun x => up_set ul
  obtain ⟨d, h1, h2, h3⟩ := F.dep
  have F' : Fo n (k + 1) (ups.set g s) := by
    refine ⟨by rw [List.length_set]; exact F.len, fun x hx => ?_, fun x => if hd ups x = g then d x + 1 else d x, fun x hx => ?_, fun x hx q => ?_, fun x hx q => ?_⟩
    · rw [u]
      split
      · exact hs
      · exact F.lt x hx
    · have := h1 x hx
      show (if hd ups x = g then d x + 1 else d x) ≤ k + 1
      split <;> omega
    · rw [u] at q
      by_cases e : x = g
      · rw [if_pos e] at q
        exact absurd (e.symm.trans q.symm) ne
      · rw [if_neg e] at q
        show (if hd ups x = g then d x + 1 else d x) = 0
        rw [Fo.hd_root q, if_neg e]
        exact h2 x hx q
    · rw [u] at q ⊢
      show (if hd ups (if x = g then s else up ups x) = g then _ else _) < (if hd ups x = g then d x + 1 else d x)
      by_cases e : x = g
      · rw [if_pos e, e, Fo.hd_root rs, if_neg (Ne.symm ne), Fo.hd_root rg, if_pos rfl, h2 s hs rs]
        omega
      · rw [if_neg e] at q ⊢
        rw [F.hd_up hk9 hx]
        have := h3 x hx q
        split <;> omega
  refine ⟨F', F.ind (fun x hx q => ?_) fun x hx q ih => ?_⟩
  · rw [Fo.hd_root q]
    by_cases e : x = g
    · rw [if_pos e, e]
      have e1 : up (ups.set g s) g = s := by rw [u, if_pos rfl]
      have e2 : up (ups.set g s) s = s := by rw [u, if_neg (Ne.symm ne)]; exact rs
      rw [← F'.hd_up (by omega) hg, e1]
      exact Fo.hd_root e2
    · rw [if_neg e]
      exact Fo.hd_root (by rw [u, if_neg e]; exact q)
  · have e : x ≠ g := fun z => q (by rw [z]; exact rg)
    have e1 : up (ups.set g s) x = up ups x := by rw [u, if_neg e]
    rw [← F'.hd_up (by omega) hx, e1, ih, F.hd_up hk9 hx]
theorem Good.start (n : Nat) : Good n 0 id (new n) := by
  have u : ∀ x, x < n → up (List.range n) x = x := fun x hx => by
    unfold up
    rw [List.getD_eq_getElem?_getD, List.getElem?_range hx]
    rfl
  refine ⟨⟨by simp [new], fun x hx => by rw [show (new n).1 = List.range n from rfl, u x hx]; exact hx, fun _ => 0, fun _ _ => Nat.le_refl _, fun _ _ _ => rfl, fun x hx q => absurd (u x hx) q⟩, by simp [new], fun x y hx hy => ?_⟩
  show hd (List.range n) x = hd (List.range n) y ↔ x = y
  rw [Fo.hd_root (u x hx), Fo.hd_root (u y hy)]
theorem Good.step {n k : Nat} {h : Nat → Nat} {s : Sto} (G : Good n k h s) (hk : k ≤ 800) {e : E} (ha : e.1 < n) (hb : e.2 < n) : Good n (k + 1) (mrg h e) (stp s e) ∧ ansS s e = !decide (h e.1 = h e.2) := by
  have hk9 : k ≤ 900 := by omega
  have an : ansS s e = !decide (h e.1 = h e.2) := by
    unfold ansS
    by_cases q : h e.1 = h e.2
    · rw [decide_eq_true q, decide_eq_true ((G.rel _ _ ha hb).mpr q)]
    · rw [decide_eq_false q, decide_eq_false fun z => q ((G.rel _ _ ha hb).mp z)]
  refine ⟨?_, an⟩
  unfold stp
  by_cases q : hd s.1 e.1 = hd s.1 e.2
  · rw [if_pos q]
    refine ⟨G.fo.mono (by omega), G.len, fun x y hx hy => ?_⟩
    rw [G.rel x y hx hy, mrg_same ((G.rel _ _ ha hb).mp q)]
  · rw [if_neg q]
    have key : ∀ (g t : Nat), g < n → t < n → up s.1 g = g → up s.1 t = t → g ≠ t → (g = hd s.1 e.1 ∧ t = hd s.1 e.2 ∨ g = hd s.1 e.2 ∧ t = hd s.1 e.1) → ∀ ms : List Nat, ms.length = n → Good n (k + 1) (mrg h e) (s.1.set g t, ms) := by
      intro g t hg ht rg rt ne hor ms hms
      obtain ⟨F', hh⟩ := G.fo.link hk hg ht rg rt ne
      refine ⟨F', hms, fun x y hx hy => ?_⟩
      show hd (s.1.set g t) x = hd (s.1.set g t) y ↔ _
      rw [hh x hx, hh y hy, mrg_rel, ← G.rel x y hx hy, ← G.rel x _ hx ha, ← G.rel y _ hy hb, ← G.rel x _ hx hb, ← G.rel y _ hy ha]
      generalize hd s.1 x = u
      generalize hd s.1 y = v
      generalize hd s.1 e.1 = p at *
      generalize hd s.1 e.2 = r at *
      split <;> split <;> omega
    have A := G.fo.hd_lt hk9 _ ha
    have B := G.fo.hd_lt hk9 _ hb
    have RA := G.fo.hd_is hk9 _ ha
    have RB := G.fo.hd_is hk9 _ hb
    unfold lnk
    split
    · exact key _ _ A B RA RB q (.inl ⟨rfl, rfl⟩) _ (by rw [List.length_set]; exact G.len)
    · exact key _ _ B A RB RA (Ne.symm q) (.inr ⟨rfl, rfl⟩) _ (by rw [List.length_set]; exact G.len)
theorem Good.run {n : Nat} : ∀ (es : List E) {k : Nat} {h : Nat → Nat} {s : Sto}, Good n k h s → k + es.length ≤ 800 → (∀ e ∈ es, e.1 < n ∧ e.2 < n) → Good n (k + es.length) (qf h es) (es.foldl stp s) ∧ ansU s es = ans h es
  | [], _, _, _, G, _, _ => ⟨G, rfl⟩
  | e :: es, k, h, s, G, hk, hv => by
    simp only [List.length_cons] at hk
    obtain ⟨ha, hb⟩ := hv e (by simp)
    obtain ⟨G1, e1⟩ := G.step (by omega) ha hb
    obtain ⟨G2, e2⟩ := Good.run es G1 (by omega) fun e' m => hv e' (by simp [m])
    refine ⟨?_, ?_⟩
    · have : k + (e :: es).length = k + 1 + es.length := by simp only [List.length_cons]; omega
      rw [this]
      exact G2
    · show ansS s e :: ansU (stp s e) es = _
      rw [e1, e2, ans_cons]
theorem Good.of {n : Nat} (es : List E) (hk : es.length ≤ 800) (hv : ∀ e ∈ es, e.1 < n ∧ e.2 < n) : Good n es.length (qf id es) (sto n es) ∧ ansU (new n) es = ans id es := by
  have := (Good.start n).run es (by omega) hv
  rw [Nat.zero_add] at this
  exact this
end LH
/-! LhBase -/
set_option Elab.async false
set_option linter.all false
set_option maxRecDepth 100000
set_option maxHeartbeats 4000000
namespace LH
open PySem PySem.Spec PyProof.Rows L2
/-! ### the text by places -/
def top (i : Nat) : Stmt := PySem.Challenge.pw_lotheads_k89_whole_joins_left_out.main.body.getD i (.Pass ⟨0, 0, 0, 0⟩)
/-! ### values -/
def iv (xs : List Nat) : List V := xs.map fun n => V.int (n : Nat)
theorem iv_len (xs : List Nat) : (iv xs).length = xs.length := List.length_map _
theorem iv_app (xs ys : List Nat) : iv (xs ++ ys) = iv xs ++ iv ys := List.map_append
theorem iv_get {xs : List Nat} {i a : Nat} (h : xs[i]? = some a) : (iv xs)[i]? = some (.int (a : Nat)) := by
  unfold iv
  rw [List.getElem?_map, h]
  rfl
theorem iv_flat : ∀ xs : List Nat, (iv xs).all flatV = true
  | [] => rfl
  | x :: xs => iv_flat xs
theorem inV_iv (a : Nat) : ∀ xs : List Nat, inV (.int (a : Nat)) (iv xs) = decide (a ∈ xs)
  | [] => rfl
  | x :: xs => by
    have ih := inV_iv a xs
    show (((x : Nat) : Int) == ((a : Nat) : Int) || inV (.int (a : Nat)) (iv xs)) = _
    rw [ih]
    by_cases h : x = a
    · subst h
      simp
    · have h1 : ((((x : Nat) : Int) == ((a : Nat) : Int)) = false) := beq_eq_false_iff_ne.mpr fun z => h (Int.ofNat.inj z)
      rw [h1, Bool.false_or]
      by_cases h2 : a ∈ xs
      · rw [decide_eq_true h2, decide_eq_true (List.mem_cons_of_mem _ h2)]
      · rw [decide_eq_false h2, decide_eq_false fun z => (List.mem_cons.mp z).elim (fun z => h z.symm) h2]
theorem iv_at {xs : List Nat} {i a : Nat} (h : xs[i]? = some a) : atI (iv xs) (i : Nat) = some (.int (a : Nat)) := atI_nat (iv_get h)
theorem ups_at {n k : Nat} {ups : List Nat} (F : Fo n k ups) {x : Nat} (hx : x < n) : atI (iv ups) (x : Nat) = some (.int (up ups x : Nat)) := iv_at (up_get (by rw [F.len]; exact hx))
theorem sz {n : Nat} (h : n ≤ 100000) : n < sizeLine := Nat.lt_of_le_of_lt h (by decide)
theorem sz' {n : Nat} (h : n ≤ 100000) : n ≤ sizeLine := Nat.le_of_lt (sz h)
/-! ### heaps -/
theorem same_new {H : Hp} {p : Addr} {o : HO} (h : H p = none) : Same H (upd H p o) := fun b x e => by
  rw [upd_ne (ne_of_none e h)]
  exact e
theorem same_tup {K : PySem.W.Frag} {H H' : Hp} {a : Addr} {xs : List V} (e : Same H H') (h : SqT K H a xs) : SqT K H' a xs := by
  rcases h with (h | ⟨o, h⟩) | h
  · exact .inl (.inl (e _ _ h))
  · exact .inl (.inr ⟨o, e _ _ h⟩)
  · exact .inr h
/-- a tuple stands whatever is written at what is no tuple -/
theorem sqt_upd {K : PySem.W.Frag} {H : Hp} {a b : Addr} {xs : List V} {o : HO} (n1 : ∀ ys, H b ≠ some (.tup ys)) (n2 : ∀ u ys, H b ≠ some (.frz u (.tup ys))) (h : SqT K H a xs) : SqT K (upd H b o) a xs := by
  rcases h with (h | ⟨u, h⟩) | h
  · exact .inl (.inl (by rw [upd_ne (fun z => n1 xs (by rw [← z]; exact h))]; exact h))
  · exact .inl (.inr ⟨u, by rw [upd_ne (fun z => n2 u xs (by rw [← z]; exact h))]; exact h⟩)
  · exact .inr h
theorem sqt_lst {K : PySem.W.Frag} {H : Hp} {a b : Addr} {xs ys : List V} {o : HO} (e : H b = some (.lst ys)) (h : SqT K H a xs) : SqT K (upd H b o) a xs :=
  sqt_upd (fun zs z => by rw [e] at z; cases z) (fun u zs z => by rw [e] at z; cases z) h
/-- an object that was not there ahead, written -/
theorem same_own {H H1 : Hp} {p : Addr} {o : HO} (s : Same H H1) (n : H p = none) : Same H (upd H1 p o) := fun b x e => by
  rw [upd_ne (ne_of_none e n)]
  exact s _ _ e
theorem upd_none' {H : Hp} {a b : Addr} {o : HO} (e : upd H a o b = none) : b ≠ a ∧ H b = none := by
  refine ⟨fun z => ?_, ?_⟩
  · rw [z, upd_same] at e
    cases e
  · unfold upd at e
    split at e
    · cases e
    · exact e
section
variable (P : Program) (w : World) (K : PySem.W.Frag) (mg : Str → Option Value) (base : Heap)
/-- a def of the module, under its name -/
structure Df (x : Str) (st : Stmt) (ps : List Str) : Prop where
  ex : ∃ (f : Addr) (fd : FuncData), Fun K x x st f fd ∧ mg x = some (.ref f) ∧ Binds K fd ps []
/-- a def that may be called by its name -/
structure Ca (k : Nat) (x : Str) (sp : Sp) : Prop where
  ex : ∃ (f : Addr) (fd : FuncData) (ps : List Str), FnOk P w K mg base CX0 k f fd ps sp ∧ mg x = some (.ref f) ∧ PySem.W.keepIn K (.ref f) = true ∧ Binds K fd ps []
end
section
variable {P : Program} {w : World} {K : PySem.W.Frag} {mg : Str → Option Value} {base : Heap}
theorem Df.ca {x : Str} {st : Stmt} {N ps : List Str} {k : Nat} {sp : Sp} (D : Df K mg x st ps) (S : FnScope N ps (defScope st)) (len : ∀ vs H Q E, sp vs H Q E → vs.length = ps.length)
    (hbody : ∀ (f : Addr) (cdv : Value) (A : Around) (outer : List Env) (s : Shared) (H : Hp) (vs : List V) (Q : VK) (E : XK), Room k (A.deeper (envOfC x (defScope st) s.heap.objs.size f cdv)) → sp vs H Q E →
      ∃ t, PSs (cxOf CX0 P w K mg base N x (defScope st) f cdv A outer s H E).nox (defBody st) t ∧ t { nx := fun _ H' => Q .non H', rt := Q } (start N vs) H) : Ca P w K mg base (k + 1) x sp := by
  obtain ⟨f, fd, F, hm, b⟩ := D.ex
  exact ⟨f, fd, ps, F.ok S len (hbody f), hm, F.kp, b⟩
theorem Ca.mono {x : Str} {k j : Nat} {sp : Sp} (c : Ca P w K mg base k x sp) (h : k ≤ j) : Ca P w K mg base j x sp := by
  obtain ⟨f, fd, ps, F, r⟩ := c.ex
  exact ⟨f, fd, ps, F.mono h, r⟩
end
section
variable {X : Cx} {k j : Nat} {x : Str} {sp : Sp} {p pos p2 : Pos} {e : Expr} {es : List Expr} {t : TA} {te : TE}
/-- what is never asked -/
theorem pt_nev {e : Expr} : PT X e (fun _ _ _ => False) := ⟨fun _ _ _ _ _ _ h => h.elim⟩
theorem pe_nev {e : Expr} : PE X e (fun _ _ _ => False) := ⟨fun _ _ _ _ _ _ h => h.elim⟩
/-- f(e, ..) -/
theorem pc (c : Ca X.prog X.w X.K X.mg X.base k x sp) (hr : Room j X.A) (ha : PA X (e :: es) t) (hk : k ≤ j := by decide) (hg : Gl X x := by rfl)
    (hdb : (x == ("__debug__" : Str)) = false := by decide) (he : starEach (e :: es) X.env = (false, eval e X.env) :: starEach es X.env := by rfl) (hpl : (backTo pos (starEach es X.env)).any (·.1) = false := by rfl) :
    PE X (.Call (.Name x p) (e :: es) [] pos) (tCall sp [] E0 t) := by
  obtain ⟨f, fd, ps, F, hm, kp, b⟩ := c.ex
  exact pe_call F (hr.mono hk) hg hm kp b .nil pass0 ha hdb he hpl
def rLen (K : PySem.W.Frag) : List V → Hp → VK → Prop := fun xs H Q => ∃ p ys, xs = [.ref p] ∧ (SqL K H p ys ∨ SqT K H p ys) ∧ Q (.int (ys.length : Nat)) H
/-- len(e) -/
theorem plen {K : PySem.W.Frag} (hm : X.mg "len" = none) (he : PE X e te) (hK : X.K = K := by rfl) (hg : Gl X "len" := by rfl) (hs : starEach [e] X.env = (false, eval e X.env) :: starEach [] X.env := by rfl) : PE X (.Call (.Name "len" p) [e] [] pos) (tCB (rLen K) (tCons te tNil)) := by
  subst hK
  exact pe_callB call_len_seq hg hm PySem.boot_len (pa_cons he pa_nil hs) (by decide) (by decide) hs
/-- xs[i], a list's, a tuple's -/
theorem pil {K : PySem.W.Frag} {a b : Expr} {ta tb : TE} (ha : PE X a ta) (hb : PE X b tb) (hK : X.K = K := by rfl) (hs : PlainIx b := by exact fun _ _ => rfl) : PE X (.Subscript a b pos) (tOp (rIxL K) ta tb) := by
  subst hK
  exact pe_ix ix_list ha hb hs
theorem pit {K : PySem.W.Frag} {a b : Expr} {ta tb : TE} (ha : PE X a ta) (hb : PE X b tb) (hK : X.K = K := by rfl) (hs : PlainIx b := by exact fun _ _ => rfl) : PE X (.Subscript a b pos) (tOp (rIxT K) ta tb) := by
  subst hK
  exact pe_ix ix_tup ha hb hs
/-- tuple(e), e a list or a tuple -/
theorem ptup {K : PySem.W.Frag} {a : Expr} {ta : TE} (hm : X.mg "tuple" = none) (ha : PE X a ta) (hK : X.K = K := by rfl) (hg : Gl X "tuple" := by rfl) (na : starEach [a] X.env = (false, eval a X.env) :: starEach [] X.env := by rfl) : PE X (.Call (.Name "tuple" p) [a] [] pos) (tThen ta (kTup K)) := by
  subst hK
  exact pe_tupleOf hg hm ha na
/-- isinstance(e, T), T a built-in class -/
theorem pe_isi {T : Str} {T' : String} (hm : X.mg "isinstance" = none) (hmT : X.mg T = none) (hv : bootBuiltins T = some (.type T')) (he : PE X e te) (hg : Gl X "isinstance" := by rfl) (hgT : Gl X T := by rfl)
    (hn : T ≠ "__name__" := by decide) (hd : (T == ("__debug__" : Str)) = false := by decide)
    (hs : starEach (e :: [Expr.Name T p2]) X.env = (false, eval e X.env) :: starEach [Expr.Name T p2] X.env := by rfl) :
    PE X (.Call (.Name "isinstance" p) [e, .Name T p2] [] pos) (fun σ H Q => te σ H fun v H1 => rIsi X.K [v, .ty T'] H1 Q) :=
  pe_callB (p := p) (pos := pos) (call_isi (X := X)) hg hm (by decide +kernel) (pa_cons he (pa_cons (pe_bltn (v := .ty T') (pos := p2) hgT hmT hv rfl hn hd) pa_nil) hs) (by decide) (by decide) hs
end
theorem yes {σ : L2.St} {H : Hp} {A B : Hp → Prop} (h : A H) : tYes σ H (fun b H3 => if b = true then A H3 else B H3) := by
  show (if true = true then A H else B H)
  rw [if_pos rfl]
  exact h
section
variable {K : PySem.W.Frag} {H : Hp} {v : V} {Q : VK}
theorem isi {T t : String} {b : Bool} (ty : TyX K H v (.type t)) (h : kitB t T = some b) (q : Q (.bl b) H) : rIsi K [v, .ty T] H Q := ⟨_, _, _, _, b, rfl, .ty _, ty, kit_ty h, q⟩
theorem isi_int_int {i : Int} (q : Q (.bl true) H) : rIsi K [.int i, .ty "int"] H Q := isi (.base (.int i)) (by decide +kernel) q
theorem isi_int_bool {i : Int} (q : Q (.bl false) H) : rIsi K [.int i, .ty "bool"] H Q := isi (.base (.int i)) (by decide +kernel) q
theorem isi_str_str {x : Str} (q : Q (.bl true) H) : rIsi K [.str x, .ty "str"] H Q := isi (.base (.str x)) (by decide +kernel) q
theorem isi_tup {a : Addr} {xs : List V} (h : SqT K H a xs) (q : Q (.bl true) H) : rIsi K [.ref a, .ty "tuple"] H Q := by
  rcases h with (h | ⟨o, h⟩) | ⟨o, its, n, h, c, _⟩
  · exact isi (.base (.tup h)) (by decide +kernel) q
  · exact isi (.fTuple h) (by decide +kernel) q
  · exact isi (.kTuple h c) (by decide +kernel) q
end
end LH
/-! LhA -/
set_option Elab.async false
set_option linter.all false
set_option maxRecDepth 100000
set_option maxHeartbeats 4000000
namespace LH
open PySem PySem.Spec PyProof.Rows L2
/-- the built-in names of the text -/
structure Tx (K : PySem.W.Frag) (mg : Str → Option Value) : Prop where
  isi : mg "isinstance" = none
  int : mg "int" = none
  bool : mg "bool" = none
  str : mg "str" = none
  tup : mg "tuple" = none
  lst : mg "list" = none
  len : mg "len" = none
  rng : mg "range" = none
  all : mg "all" = none
  srt : mg "sorted" = none
  min : mg "min" = none
  abs : mg "abs" = none
  mf : ∃ t, mg "MOST_THINGS_forests" = some (.int 40 t)
  ms : ∃ t, mg "MOST_THINGS_stores" = some (.int 40 t)
  sh : ∃ a, mg "SHORTS" = some (.ref a) ∧ ∀ H : Hp, SqT K H a [.str "none", .str "whole", .str "halves", .str "splits", .str "one"]
  jo : ∃ a, mg "JOINS" = some (.ref a) ∧ ∀ H : Hp, SqT K H a [.str "size", .str "rank", .str "told", .str "names"]
section
variable {P : Program} {w : World} {K : PySem.W.Frag} {mg : Str → Option Value} {base : Heap}
/-! ### is_thing, check_number -/
theorem sc12 : FnScope ["many", "x"] ["many", "x"] (defScope (top 12)) := ⟨rfl, rfl, rfl, by decide +kernel, rfl, by decide +kernel, by decide +kernel⟩
def sp12 : Sp := fun vs H Q _ => ∃ m x : Int, vs = [.int m, .int x] ∧ Q (.bl (decide (0 ≤ x) && decide (x < m))) H
theorem ok12 (D : Df K mg "is_thing" (top 12) ["many", "x"]) (T : Tx K mg) : Ca P w K mg base 1 "is_thing" sp12 := by
  refine D.ca sc12 (fun vs H Q E h => ?_) (fun f cdv A outer s H vs Q E hr h => ?_)
  · obtain ⟨m, x, rfl, _⟩ := h
    rfl
  · obtain ⟨m, x, rfl, q⟩ := h
    refine ⟨_, pss_one (ps_ret (pe_and (pe_isi T.isi T.int boot_int (pv 1)) (pe_and (pe_not (pe_isi (T' := "bool") T.isi T.bool (by decide +kernel) (pv 1))) (pe_one (pe_chain op_le op_lt pe_int (pv 1) (pv 0)))))), ?_⟩
    refine ⟨_, rfl, isi_int_int ⟨true, rfl, iteT ?_⟩⟩
    refine ⟨_, rfl, isi_int_bool ⟨false, rfl, true, rfl, iteT ?_⟩⟩
    refine ⟨_, rfl, 0, x, rfl, rfl, decide (0 ≤ x), rfl, ?_⟩
    by_cases h0 : 0 ≤ x
    · rw [decide_eq_true h0] at q ⊢
      rw [Bool.true_and] at q
      exact iteT ⟨_, rfl, x, m, rfl, rfl, q⟩
    · rw [decide_eq_false h0] at q ⊢
      exact iteF q
theorem sc13 : FnScope ["many", "x"] ["many", "x"] (defScope (top 13)) := ⟨rfl, rfl, rfl, by decide +kernel, rfl, by decide +kernel, by decide +kernel⟩
def sp13 : Sp := fun vs H Q _ => ∃ m x : Int, vs = [.int m, .int x] ∧ 0 ≤ x ∧ x < m ∧ Q .non H
theorem ok13 (D : Df K mg "check_number" (top 13) ["many", "x"]) (c12 : Ca P w K mg base 1 "is_thing" sp12) : Ca P w K mg base 2 "check_number" sp13 := by
  refine D.ca sc13 (fun vs H Q E h => ?_) (fun f cdv A outer s H vs Q E hr h => ?_)
  · obtain ⟨m, x, rfl, _⟩ := h
    rfl
  · obtain ⟨m, x, rfl, h0, h1, q⟩ := h
    refine ⟨_, pss_one (ps_if (pt_not (pt_val (pc c12 hr (pa_cons (pv 0) (pa_cons (pv 1) pa_nil))))) (pss_one ps_never) pss_nil), ?_⟩
    refine ⟨_, rfl, _, rfl, m, x, rfl, _, rfl, ?_⟩
    rw [decide_eq_true h0, decide_eq_true h1]
    exact iteF q
/-! ### ends_at -/
theorem sc14 : FnScope ["ups", "x", "way"] ["ups", "x"] (defScope (top 14)) := ⟨rfl, rfl, rfl, by decide +kernel, rfl, by decide +kernel, by decide +kernel⟩
/-- a new list, last in it the head -/
def sp14 (K : PySem.W.Frag) : Sp := fun vs H Q _ => ∃ (u : Addr) (x n k : Nat) (ups : List Nat), vs = [.ref u, .int (x : Nat)] ∧ SqT K H u (iv ups) ∧ Fo n k ups ∧ k ≤ 900 ∧ x < n ∧
  ∀ (H' : Hp) (p : Addr) (ws : List Nat), Same H H' → H p = none → H' p = some (.lst (iv (ws ++ [hd ups x]))) → Q (.ref p) H'
theorem ok14 (D : Df K mg "ends_at" (top 14) ["ups", "x"]) : Ca P w K mg base 1 "ends_at" (sp14 K) := by
  refine D.ca sc14 (fun vs H Q E h => ?_) (fun f cdv A outer s H vs Q E hr h => ?_)
  · obtain ⟨u, x, n, k, ups, rfl, _⟩ := h
    rfl
  · obtain ⟨u, x, n, k, ups, rfl, hU, F, hk, hx, q⟩ := h
    obtain ⟨mm, hmk, hm, hnr⟩ := F.steps hk x hx
    refine ⟨_, pss_cons (ps_set (i := 2) sc14.nd rfl (.inl rfl) (pe_lst (pa_cons (pv 1) pa_nil)))
      (pss_cons (ps_while PassesOwn.never (pt_cmpR op_notIn_seq (pe_ix ix_tup (pv 0) (pe_ix ix_list (pv 2) (pe_un un_neg pe_int) (fun _ _ => rfl)) (fun _ _ => rfl)) (pv 2) (by rfl))
        (pss_one (ps_expr (pe_bm PySem.F.plainAttrs_list PySem.F.slot_list_append PySem.F.type_list_append mt_append (pv 2) (pa_cons (pe_ix ix_tup (pv 0) (pe_ix ix_list (pv 2) (pe_un un_neg pe_int) (fun _ _ => rfl)) (fun _ _ => rfl)) pa_nil)))))
      (pss_one (ps_ret (pv 2)))), ?_⟩
    refine ⟨_, rfl, sz' (by show 1 ≤ 100000; decide), fun p hp => ?_⟩
    refine ⟨fun m σ H' => ∃ i, σ = [some (.ref u), some (.int (x : Nat)), some (.ref p)] ∧ i + m = mm ∧ Same H H' ∧ H' p = some (.lst (iv (pre ups x i))), ⟨mm, 0, rfl, by omega, same_new hp, by rw [upd_same]; rfl⟩, fun m σ H1 hW => ?_⟩
    obtain ⟨i, rfl, him, s1, hL⟩ := hW
    have hU1 : SqT K H1 u (iv ups) := same_tup s1 hU
    have hlt : at_ ups i x < n := F.at_lt hx i
    have last : atI (iv (pre ups x i)) (-1) = some (.int (at_ ups i x : Nat)) := by
      cases i with
      | zero => exact atI_last [] _
      | succ i => rw [pre_succ, iv_app]; exact atI_last _ _
    have hlen : (pre ups x i).length ≤ 2000 := by rw [pre_len]; omega
    refine ⟨_, rfl, _, rfl, 1, rfl, p, _, -1, _, rfl, rfl, SqL.of hL, last, u, _, _, _, rfl, rfl, hU1, ups_at F hlt, _, rfl, p, _, rfl, .inl (SqL.of hL), rfl, iv_flat _, _, rfl, ?_⟩
    show if (!inV (.int (up ups (at_ ups i x) : Nat)) (iv (pre ups x i))) = true then _ else _
    rw [inV_iv]
    by_cases hi : i < mm
    · have nr := hnr i hi
      have ns : ¬ up ups (at_ ups i x) ∈ pre ups x i := fun z => nr ((F.seen hx fun j hj => hnr j (by omega)).mp z)
      rw [decide_eq_false ns]
      refine iteT ⟨fun σ' H' => σ' = [some (.ref u), some (.int (x : Nat)), some (.ref p)] ∧ Same H H' ∧ H' p = some (.lst (iv (pre ups x (i + 1)))), fun σ' H' ⟨e, s2, h2⟩ => ⟨m - 1, by omega, i + 1, e, by omega, s2, h2⟩, ?_⟩
      refine ⟨_, rfl, .inl ⟨rfl, _, SqL.of hL⟩, _, rfl, _, rfl, 1, rfl, p, _, -1, _, rfl, rfl, SqL.of hL, last, u, _, _, _, rfl, rfl, hU1, ups_at F hlt, p, _, _, rfl, rfl, hL, by rw [iv_len]; exact sz (by omega), rfl, same_own s1 hp, ?_⟩
      rw [upd_same, pre_succ, iv_app]
      rfl
    · have e : i = mm := by omega
      subst e
      have rt : up ups (at_ ups i x) = at_ ups i x := by rw [hm]; exact F.hd_is hk x hx
      rw [decide_eq_true ((F.seen hx fun j hj => hnr j (by omega)).mpr rt)]
      refine iteF ⟨_, rfl, ?_⟩
      cases i with
      | zero =>
        refine q H1 p [] s1 hp ?_
        rw [← hm]
        exact hL
      | succ i =>
        refine q H1 p (pre ups x i) s1 hp ?_
        rw [← hm, ← pre_succ]
        exact hL
end
end LH
/-! LhR1 -/
set_option Elab.async false
set_option linter.all false
set_option maxRecDepth 100000
set_option maxHeartbeats 4000000
/-! LhR1: rules of our own: xs[i] op= e; tuple * 1. -/
namespace LH
open PySem PySem.Spec PyProof.Rows L2
section
variable {X : Cx}
/-- xs[i], read ahead of a store, 0 ≤ i -/
def rGetL (K : PySem.W.Frag) : V → V → Hp → VK → Prop := fun x y H Q => ∃ p xs i v, x = .ref p ∧ y = .int (i : Nat) ∧ SqL K H p xs ∧ xs[i]? = some v ∧ Q v H
theorem get_list : PGet X (rGetL X.K) := by
  intro pins s σ H o i ov iv Q I ro ri h
  obtain ⟨p, xs, i, v, rfl, rfl, hq, he, q⟩ := h
  cases ro
  obtain ⟨t, rfl⟩ := ri
  obtain ⟨its, r, pl, hz⟩ := I.list hq
  obtain ⟨w, ew, rw'⟩ := r.get he
  have hl := r.length
  have hi := (List.getElem?_eq_some_iff.mp he).1
  have hn : xs.length ≤ 16777216 := by rw [← sizeLine_eq]; exact hz
  exact wpAny_getItem_list pl.isList (by omega) (by omega) (by simpa using ew) ⟨v, H, I, rw', q⟩
/-- t * 1, t not empty: t itself -/
theorem tuple_mul1 (l : Addr) (items : Array Value) (n : Nat) (dd : Option Addr) (sl : Array (Option Value)) (u : Tok) :
    Meets (Builtin.«tuple.__mul__» ⟨[.ref l, .int 1 u], []⟩) (fun _ R s => s.heap.get? l = some { cls := .type "tuple", dict := dd, data := .seq items n, slots := sl } ∧ R (.ok (.ret (Value.ref l))) s) :=
  .of_wp fun prog w A R s h => by
    obtain ⟨hp, g, d, tk, os⟩ := s
    obtain ⟨hl, h⟩ := h
    have f1 := AutoSeq1.idx_int
    have c0 : (decide ((1 : Int) < -(2 ^ 63)) || decide ((1 : Int) ≥ 2 ^ 63)) = false := by decide
    have c1 : (items.isEmpty || (1 : Int) == 1) = true := by simp
    wp_walk using wpAny_loadPart' hl
    repeat (first
      | (refine wpAny_ite_false (decide_eq_false (by rw [c0]; exact Bool.false_ne_true)) ?_; wp_walk using wpAny_loadPart' hl)
      | (refine wpAny_ite_true (decide_eq_true c1) ?_; wp_walk using wpAny_loadPart' hl))
    exact ⟨_, rfl, h⟩
def rRep1 (K : PySem.W.Frag) : R2 := fun x y H Q => ∃ l xs, x = .ref l ∧ y = .int 1 ∧ SqT K H l xs ∧ Q (.ref l) H
theorem op_rep1 : OpR X (binaryOp .Mult) (rRep1 X.K) := by
  intro pins s σ H x y v u Q I rx ry h
  obtain ⟨l, xs, rfl, rfl, hT, q⟩ := h
  cases rx
  obtain ⟨t, rfl⟩ := ry
  obtain ⟨its, r, ⟨⟨cls, dd, data, sl⟩, ho, hc, n, hd⟩, hs⟩ := I.tuple hT
  simp only at hc hd
  subst hc hd
  exact wpAny_binaryOp_repeat_ref (T := "tuple") (U := "int") (by decide) ⟨_, ho, rfl⟩ (fun s' => typeIs_int s' 1 t) noFill_tuple_mul F.fills_int_mul F.slot_int_rmul repeat_tuple F.slot_int_index.lookup
    (call_meets F.slot_int_rmul (typeIs_int s 1 t) F.entry_int_rmul (F.args_int_rmul_2 _ _) (int_rmul_tuple 1 t l its.toArray n dd sl)
      ⟨ho, rfl, ⟨_, ho, rfl⟩, call_meets F.slot_tuple_mul ⟨_, ho, rfl⟩ F.entry_tuple_mul (F.args_tuple_mul_2 _ _) (tuple_mul1 l its.toArray n dd sl t) ⟨ho, ⟨.ref l, H, I, rfl, q⟩⟩⟩)
/-- t * k, 1 ≤ k ≤ 1000 -/
theorem op_repA : OpR X (binaryOp .Mult) (fun x y H Q => rRepT X.K x y H Q ∨ rRep1 X.K x y H Q) := OpR.or op_repT op_rep1
end
end LH
/-! LhB -/
set_option Elab.async false
set_option linter.all false
set_option maxRecDepth 100000
set_option maxHeartbeats 4000000
namespace LH
open PySem PySem.Spec PyProof.Rows L2
section
variable {P : Program} {w : World} {K : PySem.W.Frag} {mg : Str → Option Value} {base : Heap}
/-! ### gone_through -/
theorem sc22 : FnScope ["ups", "x", "way"] ["ups", "x"] (defScope (top 22)) := ⟨rfl, rfl, rfl, by decide +kernel, rfl, by decide +kernel, by decide +kernel⟩
theorem ok22 (D : Df K mg "gone_through" (top 22) ["ups", "x"]) : Ca P w K mg base 1 "gone_through" (sp14 K) := by
  refine D.ca sc22 (fun vs H Q E h => ?_) (fun f cdv A outer s H vs Q E hr h => ?_)
  · obtain ⟨u, x, n, k, ups, rfl, _⟩ := h
    rfl
  · obtain ⟨u, x, n, k, ups, rfl, hU, F, hk, hx, q⟩ := h
    obtain ⟨mm, hmk, hm, hnr⟩ := F.steps hk x hx
    refine ⟨_, pss_cons (ps_set (i := 2) sc22.nd rfl (.inl rfl) (pe_lst (pa_cons (pv 1) pa_nil)))
      (pss_cons (ps_while PassesOwn.never (pt_cmpR op_ne (pe_ix ix_tup (pv 0) (pe_ix ix_list (pv 2) (pe_un un_neg pe_int) (fun _ _ => rfl)) (fun _ _ => rfl)) (pe_ix ix_list (pv 2) (pe_un un_neg pe_int) (fun _ _ => rfl)) (nomark _))
        (pss_one (ps_expr (pe_bm PySem.F.plainAttrs_list PySem.F.slot_list_append PySem.F.type_list_append mt_append (pv 2) (pa_cons (pe_ix ix_tup (pv 0) (pe_ix ix_list (pv 2) (pe_un un_neg pe_int) (fun _ _ => rfl)) (fun _ _ => rfl)) pa_nil)))))
      (pss_one (ps_ret (pv 2)))), ?_⟩
    refine ⟨_, rfl, sz' (by show 1 ≤ 100000; decide), fun p hp => ?_⟩
    refine ⟨fun m σ H' => ∃ i, σ = [some (.ref u), some (.int (x : Nat)), some (.ref p)] ∧ i + m = mm ∧ Same H H' ∧ H' p = some (.lst (iv (pre ups x i))), ⟨mm, 0, rfl, by omega, same_new hp, by rw [upd_same]; rfl⟩, fun m σ H1 hW => ?_⟩
    obtain ⟨i, rfl, him, s1, hL⟩ := hW
    have hU1 : SqT K H1 u (iv ups) := same_tup s1 hU
    have hlt : at_ ups i x < n := F.at_lt hx i
    have last : atI (iv (pre ups x i)) (-1) = some (.int (at_ ups i x : Nat)) := by
      cases i with
      | zero => exact atI_last [] _
      | succ i => rw [pre_succ, iv_app]; exact atI_last _ _
    have hlen : (pre ups x i).length ≤ 2000 := by rw [pre_len]; omega
    refine ⟨_, rfl, _, rfl, 1, rfl, p, _, -1, _, rfl, rfl, SqL.of hL, last, u, _, _, _, rfl, rfl, hU1, ups_at F hlt, _, rfl, 1, rfl, p, _, -1, _, rfl, rfl, SqL.of hL, last, rfl, _, rfl, ?_⟩
    by_cases hi : i < mm
    · have nr := hnr i hi
      have e1 : decide (V.int (up ups (at_ ups i x) : Nat) = V.int (at_ ups i x : Nat)) = false := decide_eq_false fun z => nr (Int.ofNat.inj (V.int.inj z))
      rw [e1]
      refine iteT ⟨fun σ' H' => σ' = [some (.ref u), some (.int (x : Nat)), some (.ref p)] ∧ Same H H' ∧ H' p = some (.lst (iv (pre ups x (i + 1)))), fun σ' H' ⟨e, s2, h2⟩ => ⟨m - 1, by omega, i + 1, e, by omega, s2, h2⟩, ?_⟩
      refine ⟨_, rfl, .inl ⟨rfl, _, SqL.of hL⟩, _, rfl, _, rfl, 1, rfl, p, _, -1, _, rfl, rfl, SqL.of hL, last, u, _, _, _, rfl, rfl, hU1, ups_at F hlt, p, _, _, rfl, rfl, hL, by rw [iv_len]; exact sz (by omega), rfl, same_own s1 hp, ?_⟩
      rw [upd_same, pre_succ, iv_app]
      rfl
    · have e : i = mm := by omega
      subst e
      have rt : up ups (at_ ups i x) = at_ ups i x := by rw [hm]; exact F.hd_is hk x hx
      rw [rt, decide_eq_true rfl]
      refine iteF ⟨_, rfl, ?_⟩
      cases i with
      | zero =>
        refine q H1 p [] s1 hp ?_
        rw [← hm]
        exact hL
      | succ i =>
        refine q H1 p (pre ups x i) s1 hp ?_
        rw [← hm, ← pre_succ]
        exact hL
/-! ### walked_whole, walked: by none -/
theorem sc24 : FnScope ["ups", "short", "x", "way", "head"] ["ups", "short", "x"] (defScope (top 24)) := ⟨rfl, rfl, rfl, by decide +kernel, rfl, by decide +kernel, by decide +kernel⟩
/-- the head, the same forest, some number of steps -/
def spW (K : PySem.W.Frag) : Sp := fun vs H Q _ => ∃ (u : Addr) (x n k : Nat) (ups : List Nat), vs = [.ref u, .str "none", .int (x : Nat)] ∧ SqT K H u (iv ups) ∧ Fo n k ups ∧ k ≤ 900 ∧ x < n ∧
  ∀ (H' : Hp) (p : Addr) (z : Int), Same H H' → SqT K H' p [.int (hd ups x : Nat), .ref u, .int z] → Q (.ref p) H'
theorem ok24 (D : Df K mg "walked_whole" (top 24) ["ups", "short", "x"]) (T : Tx K mg) (c22 : Ca P w K mg base 1 "gone_through" (sp14 K)) : Ca P w K mg base 2 "walked_whole" (spW K) := by
  refine D.ca sc24 (fun vs H Q E h => ?_) (fun f cdv A outer s H vs Q E hr h => ?_)
  · obtain ⟨u, x, n, k, ups, rfl, _⟩ := h
    rfl
  · obtain ⟨u, x, n, k, ups, rfl, hU, F, hk, hx, q⟩ := h
    refine ⟨_, pss_cons (ps_set (i := 3) sc24.nd rfl (.inl rfl) (pc c22 hr (pa_cons (pv 0) (pa_cons (pv 2) pa_nil))))
      (pss_cons (ps_set (i := 4) sc24.nd rfl (.inl rfl) (pe_ix ix_list (pv 3) (pe_un un_neg pe_int) (fun _ _ => rfl)))
      (pss_cons (ps_if (pt_cmpR op_eq (pv 1) pe_str (nomark _)) (pss_one ps_never) pss_nil)
      (pss_cons (ps_if (pt_cmpR op_eq (pv 1) pe_str (nomark _)) (pss_one ps_never) pss_nil)
      (pss_one (ps_ret (pe_tup (pa_cons (pv 4) (pa_cons (pv 0) (pa_cons (pe_op op_sub (pe_callB call_len_seq (by rfl) T.len PySem.boot_len (pa_cons (pv 3) pa_nil)) pe_int) pa_nil))))))))), ?_⟩
    refine ⟨_, rfl, _, rfl, u, x, n, k, ups, rfl, hU, F, hk, hx, fun H1 p ws s1 np hp => ?_⟩
    have last : atI (iv (ws ++ [hd ups x])) (-1) = some (.int (hd ups x : Nat)) := by rw [iv_app]; exact atI_last _ _
    refine ⟨_, rfl, 1, rfl, p, _, -1, _, rfl, rfl, SqL.of hp, last, ?_⟩
    refine ⟨_, rfl, rfl, _, rfl, iteF ?_⟩
    refine ⟨_, rfl, rfl, _, rfl, iteF ?_⟩
    refine ⟨_, rfl, _, rfl, _, rfl, p, _, rfl, .inl (SqL.of hp), _, 1, rfl, rfl, sz' (by show 3 ≤ 100000; decide), fun t nt => ?_⟩
    exact q _ t _ (s1.trans (same_new nt)) (SqT.of upd_same)
theorem sc26 : FnScope ["ups", "short", "x"] ["ups", "short", "x"] (defScope (top 26)) := ⟨rfl, rfl, rfl, by decide +kernel, rfl, by decide +kernel, by decide +kernel⟩
theorem ok26 (D : Df K mg "walked" (top 26) ["ups", "short", "x"]) (c24 : Ca P w K mg base 2 "walked_whole" (spW K)) : Ca P w K mg base 3 "walked" (spW K) := by
  refine D.ca sc26 (fun vs H Q E h => ?_) (fun f cdv A outer s H vs Q E hr h => ?_)
  · obtain ⟨u, x, n, k, ups, rfl, _⟩ := h
    rfl
  · obtain ⟨u, x, n, k, ups, rfl, hU, F, hk, hx, q⟩ := h
    refine ⟨_, pss_cons (ps_if (pt_cmpR op_in_seq (pv 1) (pe_tup (pa_cons pe_str (pa_cons pe_str pa_nil))) (by rfl)) (pss_one ps_never) pss_nil)
      (pss_one (ps_ret (pc c24 hr (pa_cons (pv 0) (pa_cons (pv 1) (pa_cons (pv 2) pa_nil)))))), ?_⟩
    refine ⟨_, rfl, sz' (by show 2 ≤ 100000; decide), fun t nt => ?_⟩
    refine ⟨t, _, rfl, .inr (SqT.of upd_same), rfl, rfl, _, rfl, iteF ?_⟩
    refine ⟨_, rfl, _, rfl, _, rfl, u, x, n, k, ups, rfl, same_tup (same_new nt) hU, F, hk, hx, fun H1 p z s1 hp => q H1 p z ((same_new nt).trans s1) hp⟩
end
end LH
/-! LhC -/
set_option Elab.async false
set_option linter.all false
set_option maxRecDepth 100000
set_option maxHeartbeats 4000000
namespace LH
open PySem PySem.Spec PyProof.Rows L2
theorem iv_set (xs : List Nat) (i a : Nat) : (iv xs).set i (.int (a : Nat)) = iv (xs.set i a) := by
  unfold iv
  rw [List.map_set]
theorem mk_get {ms : List Nat} {x : Nat} (h : x < ms.length) : ms[x]? = some (mk ms x) := by
  unfold mk
  rw [List.getD_eq_getElem?_getD, List.getElem?_eq_getElem h]
  rfl
theorem ixN_nat {n j : Nat} (h : j < n) : ixN n (j : Nat) = some j := by
  unfold ixN
  rw [if_pos (by omega), if_pos (by omega), Int.toNat_natCast]
section
variable {P : Program} {w : World} {K : PySem.W.Frag} {mg : Str → Option Value} {base : Heap}
/-! ### linked -/
theorem sc42 : FnScope ["join", "ups", "marks", "one", "other", "stays", "goes"] ["join", "ups", "marks", "one", "other"] (defScope (top 42)) := ⟨rfl, rfl, rfl, by decide +kernel, rfl, by decide +kernel, by decide +kernel⟩
def sp42 (K : PySem.W.Frag) : Sp := fun vs H Q _ => ∃ (u m : Addr) (a b n : Nat) (ups ms : List Nat), vs = [.str "size", .ref u, .ref m, .int (a : Nat), .int (b : Nat)] ∧ SqT K H u (iv ups) ∧ SqT K H m (iv ms) ∧ ups.length = n ∧ ms.length = n ∧ a < n ∧ b < n ∧ n ≤ 1000 ∧
  ∀ (H' : Hp) (p u' m' : Addr), Same H H' → SqT K H' p [.ref u', .ref m'] → SqT K H' u' (iv (lnk (ups, ms) a b).1) → SqT K H' m' (iv (lnk (ups, ms) a b).2) → Q (.ref p) H'
theorem ok42 (D : Df K mg "linked" (top 42) ["join", "ups", "marks", "one", "other"]) (T : Tx K mg) : Ca P w K mg base 1 "linked" (sp42 K) := by
  refine D.ca sc42 (fun vs H Q E h => ?_) (fun f cdv A outer s H vs Q E hr h => ?_)
  · obtain ⟨u, m, a, b, n, ups, ms, rfl, _⟩ := h
    rfl
  · obtain ⟨u, m, a, b, n, ups, ms, rfl, hU, hM, lu, lm, ha, hb, hn, q⟩ := h
    refine ⟨_, pss_cons (ps_par (i := 1) (j := 2) rfl sc42.nd rfl rfl (by decide) rfl rfl (pa_cons (pe_callTy call_list_of (by rfl) T.lst (by decide +kernel) (pa_cons (pv 1) pa_nil)) (pa_cons (pe_callTy call_list_of (by rfl) T.lst (by decide +kernel) (pa_cons (pv 2) pa_nil)) pa_nil)) (by rfl))
      (pss_cons (ps_par (i := 5) (j := 6) rfl sc42.nd rfl rfl (by decide) rfl rfl (pa_cons (pv 3) (pa_cons (pv 4) pa_nil)) (by rfl))
      (C8.pss_cut (ps_if (PW.pt (pw_or (PW.pt (pw_and (pt_cmpR op_in_seq (pv 0) (pe_tup (pa_cons pe_str (pa_cons pe_str pa_nil))) (by rfl)) (pw_and1 (pt_cmpR op_gt (pe_ix ix_list (pv 2) (pv 4) (fun _ _ => rfl)) (pe_ix ix_list (pv 2) (pv 3) (fun _ _ => rfl)) (nomark _)))))
            (pw_or1 (PW.pt (pw_and (pt_cmpR op_eq (pv 0) pe_str (nomark _)) (pw_and1 (pt_cmpR op_lt (pv 4) (pv 3) (nomark _))))))))
          (pss_one (ps_par (i := 5) (j := 6) rfl sc42.nd rfl rfl (by decide) rfl rfl (pa_cons (pv 4) (pa_cons (pv 3) pa_nil)) (by rfl))) pss_nil)
      (pss_cons (ps_asg (pv 5) (pg_sub (pv 1) (pv 6) set_list))
      (pss_cons (ps_if (pt_cmpR op_eq (pv 0) pe_str (nomark _)) (pss_one (ps_augS (pv 2) (pv 5) get_list (pe_ix ix_list (pv 2) (pv 6) (fun _ _ => rfl)) ip_add set_list)) pss_nil)
      (pss_cons (ps_if (PW.pt (pw_and (pt_cmpR op_eq (pv 0) pe_str (nomark _)) (pw_and1 pt_nev))) (pss_one ps_never) pss_nil)
      (pss_one (ps_ret (pe_tup (pa_cons (pe_callTy call_tuple_of (by rfl) T.tup (by decide +kernel) (pa_cons (pv 1) pa_nil)) (pa_cons (pe_callTy call_tuple_of (by rfl) T.tup (by decide +kernel) (pa_cons (pv 2) pa_nil)) pa_nil)))))))))), ?_⟩
    refine ⟨_, rfl, u, _, rfl, .inr hU, fun l1 n1 => ?_⟩
    have s1 : Same H (upd H l1 (.lst (iv ups))) := same_new n1
    refine ⟨_, rfl, m, _, rfl, .inr (same_tup s1 hM), fun l2 n2 => ?_⟩
    obtain ⟨ne21, n2'⟩ := upd_none' n2
    refine ⟨_, _, rfl, ?_⟩
    refine ⟨_, rfl, _, rfl, _, _, rfl, ?_⟩
    show C8.tCut _ _ _ [some (.str "size"), some (.ref l1), some (.ref l2), some (.int (a : Nat)), some (.int (b : Nat)), some (.int (a : Nat)), some (.int (b : Nat))] (upd (upd H l1 (.lst (iv ups))) l2 (.lst (iv ms)))
    have s2 : Same H (upd (upd H l1 (.lst (iv ups))) l2 (.lst (iv ms))) := same_own s1 n2'
    have h1 : (upd (upd H l1 (.lst (iv ups))) l2 (.lst (iv ms))) l1 = some (.lst (iv ups)) := by rw [upd_ne (Ne.symm ne21), upd_same]
    have h2 : (upd (upd H l1 (.lst (iv ups))) l2 (.lst (iv ms))) l2 = some (.lst (iv ms)) := upd_same
    generalize upd (upd H l1 (.lst (iv ups))) l2 (.lst (iv ms)) = H2 at s2 h1 h2
    refine ⟨fun σ' H' => ∃ t g : Nat, t < n ∧ g < n ∧ lnk (ups, ms) a b = (ups.set g t, ms.set t (mk ms t + mk ms g)) ∧ σ' = [some (.str "size"), some (.ref l1), some (.ref l2), some (.int (a : Nat)), some (.int (b : Nat)), some (.int (t : Nat)), some (.int (g : Nat))] ∧ Same H H' ∧ H' l1 = some (.lst (iv ups)) ∧ H' l2 = some (.lst (iv ms)), ?_, ?_⟩
    · refine ⟨_, rfl, sz' (by show 2 ≤ 100000; decide), fun t nt => ?_⟩
      have n1t : l1 ≠ t := ne_of_none h1 nt
      have n2t : l2 ≠ t := ne_of_none h2 nt
      have st : Same H2 (upd H2 t (.tup [.str "size", .str "rank"])) := same_new nt
      refine ⟨t, _, rfl, .inr (SqT.of upd_same), rfl, rfl, _, rfl, iteT ?_⟩
      have at2 : ∀ {y : Nat}, y < n → atI (iv ms) (y : Nat) = some (.int (mk ms y : Nat)) := fun {y} hy => iv_at (mk_get (by rw [lm]; exact hy))
      have k2 := (show (upd H2 t (.tup [.str "size", .str "rank"])) l2 = some (.lst (iv ms)) from st _ _ h2)
      refine ⟨_, rfl, _, rfl, l2, _, _, _, rfl, rfl, SqL.of k2, at2 hb, _, rfl, _, rfl, l2, _, _, _, rfl, rfl, SqL.of k2, at2 ha, _, _, rfl, rfl, _, rfl, ?_⟩
      by_cases hc : mk ms a < mk ms b
      · have e1 : decide (((mk ms a : Nat) : Int) < ((mk ms b : Nat) : Int)) = true := decide_eq_true (by omega)
        show if decide (((mk ms a : Nat) : Int) < ((mk ms b : Nat) : Int)) = true then _ else _
        rw [e1]
        refine iteT (iteT ⟨_, rfl, _, rfl, _, _, rfl, ?_⟩)
        refine ⟨b, a, hb, ha, ?_, rfl, s2.trans st, st _ _ h1, k2⟩
        show (if mk ms a < mk ms b then _ else _) = _
        rw [if_pos hc]
      · have e1 : decide (((mk ms a : Nat) : Int) < ((mk ms b : Nat) : Int)) = false := decide_eq_false (by omega)
        show if decide (((mk ms a : Nat) : Int) < ((mk ms b : Nat) : Int)) = true then _ else _
        rw [e1]
        refine iteF ⟨_, rfl, rfl, _, rfl, iteF (iteF ?_)⟩
        refine ⟨a, b, ha, hb, ?_, rfl, s2.trans st, st _ _ h1, k2⟩
        show (if mk ms a < mk ms b then _ else _) = _
        rw [if_neg hc]
    · rintro σ' H3 ⟨t, g, ht, hg, el, rfl, s3, k1, k2⟩
      have at2 : ∀ {y : Nat}, y < n → atI (iv ms) (y : Nat) = some (.int (mk ms y : Nat)) := fun {y} hy => iv_at (mk_get (by rw [lm]; exact hy))
      -- ups[goes] = stays
      refine ⟨_, rfl, _, rfl, _, rfl, l1, _, _, g, rfl, rfl, k1, ixN_nat (by rw [iv_len, lu]; exact hg), ?_⟩
      rw [iv_set]
      have n12 : l1 ≠ l2 := Ne.symm ne21
      -- marks[stays] += marks[goes]
      have q2 : (upd H3 l1 (.lst (iv (ups.set g t)))) l2 = some (.lst (iv ms)) := by rw [upd_ne ne21]; exact k2
      refine ⟨_, rfl, rfl, _, rfl, iteT ?_⟩
      refine ⟨_, rfl, _, rfl, l2, _, t, _, rfl, rfl, SqL.of q2, iv_get (mk_get (by rw [lm]; exact ht)), _, rfl, _, rfl, l2, _, _, _, rfl, rfl, SqL.of q2, at2 hg, _, _, rfl, rfl, l2, _, _, t, rfl, rfl, q2, ixN_nat (by rw [iv_len, lm]; exact ht), ?_⟩
      have es : ((mk ms t : Nat) : Int) + ((mk ms g : Nat) : Int) = ((mk ms t + mk ms g : Nat) : Int) := by omega
      rw [show (iv ms).set t (V.int ((fun i j : Int => i + j) ((mk ms t : Nat) : Int) ((mk ms g : Nat) : Int))) = iv (ms.set t (mk ms t + mk ms g)) from by rw [← iv_set]; exact congrArg (fun z => (iv ms).set t (V.int z)) es]
      have s4 : Same H (upd (upd H3 l1 (.lst (iv (ups.set g t)))) l2 (.lst (iv (ms.set t (mk ms t + mk ms g))))) := same_own (same_own s3 n1) n2'
      have w1 : (upd (upd H3 l1 (.lst (iv (ups.set g t)))) l2 (.lst (iv (ms.set t (mk ms t + mk ms g))))) l1 = some (.lst (iv (ups.set g t))) := by rw [upd_ne n12, upd_same]
      have w2 : (upd (upd H3 l1 (.lst (iv (ups.set g t)))) l2 (.lst (iv (ms.set t (mk ms t + mk ms g))))) l2 = some (.lst (iv (ms.set t (mk ms t + mk ms g)))) := upd_same
      generalize upd (upd H3 l1 (.lst (iv (ups.set g t)))) l2 (.lst (iv (ms.set t (mk ms t + mk ms g)))) = H4 at s4 w1 w2
      refine ⟨_, rfl, rfl, _, rfl, iteF (iteF ?_)⟩
      refine ⟨_, rfl, l1, _, rfl, .inl ⟨SqL.of w1, fun p1 np1 => ?_⟩⟩
      have t1 : Same H4 (upd H4 p1 (.tup (iv (ups.set g t)))) := same_new np1
      refine ⟨_, rfl, l2, _, rfl, .inl ⟨SqL.of (t1 _ _ w2), fun p2 np2 => ?_⟩⟩
      have t2 : Same (upd H4 p1 (.tup (iv (ups.set g t)))) (upd (upd H4 p1 (.tup (iv (ups.set g t)))) p2 (.tup (iv (ms.set t (mk ms t + mk ms g))))) := same_new np2
      refine ⟨sz' (by show 2 ≤ 100000; decide), fun p3 np3 => ?_⟩
      refine q _ p3 p1 p2 (((s4.trans t1).trans t2).trans (same_new np3)) (SqT.of upd_same) ?_ ?_
      · rw [el]
        exact SqT.of (same_new np3 _ _ (t2 _ _ upd_same))
      · rw [el]
        exact SqT.of (same_new np3 _ _ upd_same)
end
end LH
/-! LhD -/
set_option Elab.async false
set_option linter.all false
set_option maxRecDepth 100000
set_option maxHeartbeats 4000000
namespace LH
open PySem PySem.Spec PyProof.Rows L2
/-- a store by size and none -/
def StoreAt (K : PySem.W.Frag) (H : Hp) (p : Addr) (s : Sto) : Prop := ∃ u m : Addr, SqT K H p [.str "size", .str "none", .ref u, .ref m] ∧ SqT K H u (iv s.1) ∧ SqT K H m (iv s.2)
theorem StoreAt.same {K : PySem.W.Frag} {H H' : Hp} {p : Addr} {s : Sto} (e : Same H H') (h : StoreAt K H p s) : StoreAt K H' p s := by
  obtain ⟨u, m, h1, h2, h3⟩ := h
  exact ⟨u, m, same_tup e h1, same_tup e h2, same_tup e h3⟩
section
variable {P : Program} {w : World} {K : PySem.W.Frag} {mg : Str → Option Value} {base : Heap}
/-! ### deed_done -/
theorem sc43 : FnScope ["store", "deed", "join", "short", "ups", "marks", "one", "steps", "other", "more"] ["store", "deed"] (defScope (top 43)) := ⟨rfl, rfl, rfl, by decide +kernel, rfl, by decide +kernel, by decide +kernel⟩
def sp43 (K : PySem.W.Frag) : Sp := fun vs H Q _ => ∃ (a d : Addr) (x y n k : Nat) (h : Nat → Nat) (s : Sto), vs = [.ref a, .ref d] ∧ StoreAt K H a s ∧ SqT K H d [.str "join", .int (x : Nat), .int (y : Nat)] ∧ Good n k h s ∧ k ≤ 800 ∧ x < n ∧ y < n ∧ n ≤ 1000 ∧
  ∀ (H' : Hp) (p p' : Addr) (z : Int), Same H H' → SqT K H' p [.ref p', .bl (ansS s (x, y)), .int z] → StoreAt K H' p' (stp s (x, y)) → Q (.ref p) H'
theorem ok43 (D : Df K mg "deed_done" (top 43) ["store", "deed"]) (c26 : Ca P w K mg base 3 "walked" (spW K)) (c42 : Ca P w K mg base 1 "linked" (sp42 K)) : Ca P w K mg base 4 "deed_done" (sp43 K) := by
  refine D.ca sc43 (fun vs H Q E h => ?_) (fun f cdv A outer s H vs Q E hr h => ?_)
  · obtain ⟨a, d, x, y, n, k, h, s, rfl, _⟩ := h
    rfl
  · obtain ⟨a, d, x, y, n, k, h, st, rfl, ⟨u, m, hA, hU, hM⟩, hD, G, hk, hx, hy, hn, q⟩ := h
    have nd := sc43.nd
    refine ⟨_, pss_cons (ps_asg (pv 0) (pg_tup rfl (pgs_cons (pg_name (i := 2) nd rfl (.inl rfl)) (pgs_cons (pg_name (i := 3) nd rfl (.inl rfl)) (pgs_cons (pg_name (i := 4) nd rfl (.inl rfl)) (pgs_cons (pg_name (i := 5) nd rfl (.inl rfl)) pgs_nil))))))
      (pss_cons (ps_asg (pc c26 hr (pa_cons (pv 4) (pa_cons (pv 3) (pa_cons (pe_ix ix_tup (pv 1) pe_int (fun _ _ => rfl)) pa_nil)))) (pg_tup rfl (pgs_cons (pg_name (i := 6) nd rfl (.inl rfl)) (pgs_cons (pg_name (i := 4) nd rfl (.inl rfl)) (pgs_cons (pg_name (i := 7) nd rfl (.inl rfl)) pgs_nil)))))
      (pss_cons (ps_if (pt_cmpR op_eq (pe_ix ix_tup (pv 1) pe_int (fun _ _ => rfl)) pe_str (nomark _)) (pss_one ps_never) pss_nil)
      (pss_cons (ps_asg (pc c26 hr (pa_cons (pv 4) (pa_cons (pv 3) (pa_cons (pe_ix ix_tup (pv 1) pe_int (fun _ _ => rfl)) pa_nil)))) (pg_tup rfl (pgs_cons (pg_name (i := 8) nd rfl (.inl rfl)) (pgs_cons (pg_name (i := 4) nd rfl (.inl rfl)) (pgs_cons (pg_name (i := 9) nd rfl (.inl rfl)) pgs_nil)))))
      (C8.pss_cut (ps_if (pt_cmpR op_ne (pv 6) (pv 8) (nomark _)) (pss_one (ps_asg (pc c42 hr (pa_cons (pv 2) (pa_cons (pv 4) (pa_cons (pv 5) (pa_cons (pv 6) (pa_cons (pv 8) pa_nil)))))) (pg_tup rfl (pgs_cons (pg_name (i := 4) nd rfl (.inl rfl)) (pgs_cons (pg_name (i := 5) nd rfl (.inl rfl)) pgs_nil))))) pss_nil)
      (pss_one (ps_ret (pe_tup (pa_cons (pe_tup (pa_cons (pv 2) (pa_cons (pv 3) (pa_cons (pv 4) (pa_cons (pv 5) pa_nil))))) (pa_cons (pe_cmpR op_ne (pv 6) (pv 8) (nomark _)) (pa_cons (pe_op op_add (pv 7) (pv 9)) pa_nil)))))))))), ?_⟩
    refine ⟨_, rfl, a, _, rfl, hA, rfl, _, _, rfl, _, _, rfl, _, _, rfl, _, _, rfl, rfl, ?_⟩
    -- one, ups, steps
    have F := G.fo
    have hk9 : k ≤ 900 := by omega
    refine ⟨_, rfl, _, rfl, _, rfl, d, _, 1, _, rfl, rfl, hD, atI_nat (j := 1) rfl, ?_⟩
    refine ⟨u, x, n, k, st.1, rfl, hU, F, hk9, hx, fun H1 p1 z1 s1 hp1 => ?_⟩
    refine ⟨p1, _, rfl, hp1, rfl, _, _, rfl, _, _, rfl, _, _, rfl, rfl, ?_⟩
    refine ⟨_, rfl, d, _, 0, _, rfl, rfl, same_tup s1 hD, atI_nat (j := 0) rfl, rfl, _, rfl, iteF ?_⟩
    refine ⟨_, rfl, _, rfl, _, rfl, d, _, 2, _, rfl, rfl, same_tup s1 hD, atI_nat (j := 2) rfl, ?_⟩
    refine ⟨u, y, n, k, st.1, rfl, same_tup s1 hU, F, hk9, hy, fun H2 p2 z2 s2 hp2 => ?_⟩
    refine ⟨p2, _, rfl, hp2, rfl, _, _, rfl, _, _, rfl, _, _, rfl, rfl, ?_⟩
    have s12 := s1.trans s2
    refine ⟨fun σ' H' => ∃ u' m' : Addr, σ' = [some (.ref a), some (.ref d), some (.str "size"), some (.str "none"), some (.ref u'), some (.ref m'), some (.int (hd st.1 x : Nat)), some (.int z1), some (.int (hd st.1 y : Nat)), some (.int z2)] ∧ Same H H' ∧ SqT K H' u' (iv (stp st (x, y)).1) ∧ SqT K H' m' (iv (stp st (x, y)).2), ?_, ?_⟩
    · refine ⟨_, rfl, _, rfl, rfl, _, rfl, ?_⟩
      by_cases hc : hd st.1 x = hd st.1 y
      · have e1 : decide (V.int (hd st.1 x : Nat) = V.int (hd st.1 y : Nat)) = true := decide_eq_true (by rw [hc])
        have e2 : stp st (x, y) = st := if_pos hc
        rw [e1, e2]
        exact iteF ⟨u, m, rfl, s12, same_tup s12 hU, same_tup s12 hM⟩
      · have e1 : decide (V.int (hd st.1 x : Nat) = V.int (hd st.1 y : Nat)) = false := decide_eq_false fun z => hc (Int.ofNat.inj (V.int.inj z))
        have e2 : stp st (x, y) = lnk st (hd st.1 x) (hd st.1 y) := if_neg hc
        rw [e1, e2]
        refine iteT ⟨_, rfl, _, rfl, _, rfl, _, rfl, _, rfl, ?_⟩
        refine ⟨u, m, _, _, n, st.1, st.2, rfl, same_tup s12 hU, same_tup s12 hM, F.len, G.len, F.hd_lt hk9 _ hx, F.hd_lt hk9 _ hy, hn, fun H3 p3 u3 m3 s3 hp3 hu3 hm3 => ?_⟩
        exact ⟨p3, _, rfl, hp3, rfl, _, _, rfl, _, _, rfl, rfl, u3, m3, rfl, s12.trans s3, hu3, hm3⟩
    · rintro σ' H3 ⟨u', m', rfl, s3, hu3, hm3⟩
      refine ⟨_, rfl, _, rfl, _, rfl, _, rfl, sz' (by show 4 ≤ 100000; decide), fun p4 n4 => ?_⟩
      refine ⟨_, rfl, _, rfl, rfl, _, rfl, _, rfl, _, _, rfl, rfl, sz' (by show 3 ≤ 100000; decide), fun p5 n5 => ?_⟩
      have s4 : Same H3 (upd H3 p4 (.tup [.str "size", .str "none", .ref u', .ref m'])) := same_new n4
      have s5 := s4.trans (same_new (o := .tup [.ref p4, .bl (!decide (V.int (hd st.1 x : Nat) = V.int (hd st.1 y : Nat))), .int (z1 + z2)]) n5)
      refine q _ p5 p4 (z1 + z2) (s3.trans s5) ?_ ⟨u', m', same_tup (same_new n5) (SqT.of upd_same), same_tup s5 hu3, same_tup s5 hm3⟩
      have e3 : decide (V.int (hd st.1 x : Nat) = V.int (hd st.1 y : Nat)) = decide (hd st.1 x = hd st.1 y) := by
        rw [decide_eq_decide]
        exact ⟨fun z => Int.ofNat.inj (V.int.inj z), fun z => by rw [z]⟩
      have e4 : (V.bl (!decide (V.int (hd st.1 x : Nat) = V.int (hd st.1 y : Nat)))) = .bl (ansS st (x, y)) := by rw [e3]; rfl
      rw [← e4]
      exact SqT.of upd_same
end
end LH
/-! LhE -/
set_option Elab.async false
set_option linter.all false
set_option maxRecDepth 100000
set_option maxHeartbeats 4000000
namespace LH
open PySem PySem.Spec PyProof.Rows L2
theorem rgV_iv (n : Nat) : rgV 0 (n : Nat) = iv (List.range n) := by
  unfold rgV iv
  rw [show (((n : Nat) : Int) - 0).toNat = n by omega]
  refine List.map_congr_left fun i _ => ?_
  rw [Int.zero_add]
theorem rep_iv (n : Nat) : (List.replicate ((n : Nat) : Int).toNat [V.int 1]).flatten = iv (List.replicate n 1) := by
  rw [Int.toNat_natCast]
  induction n with
  | zero => rfl
  | succ n ih => rw [List.replicate_succ, List.flatten_cons, ih, List.replicate_succ]; rfl
section
variable {P : Program} {w : World} {K : PySem.W.Frag} {mg : Str → Option Value} {base : Heap}
theorem sc20 : FnScope ["thing"] ["thing"] (defScope (top 20)) := ⟨rfl, rfl, rfl, by decide +kernel, rfl, by decide +kernel, by decide +kernel⟩
def spNone : Sp := fun vs H Q _ => vs = [.str "none"] ∧ Q (.bl true) H
theorem ok20 (D : Df K mg "is_short" (top 20) ["thing"]) (T : Tx K mg) : Ca P w K mg base 1 "is_short" spNone := by
  refine D.ca sc20 (fun vs H Q E h => ?_) (fun f cdv A outer s H vs Q E hr h => ?_)
  · obtain ⟨rfl, _⟩ := h
    rfl
  · obtain ⟨rfl, q⟩ := h
    obtain ⟨a, hm, ha⟩ := T.sh
    refine ⟨_, pss_one (ps_ret (pe_and (pe_isi (T' := "str") T.isi T.str (by decide +kernel) (pv 0)) (pe_one (pe_cmpR op_in_seq (pv 0) (pe_glob (v := .ref a) (by rfl) hm rfl) (by rfl))))), ?_⟩
    exact ⟨_, rfl, isi_str_str ⟨true, rfl, iteT ⟨_, rfl, a, _, rfl, .inr (ha H), rfl, rfl, q⟩⟩⟩
theorem sc21 : FnScope ["short"] ["short"] (defScope (top 21)) := ⟨rfl, rfl, rfl, by decide +kernel, rfl, by decide +kernel, by decide +kernel⟩
def spNoneN : Sp := fun vs H Q _ => vs = [.str "none"] ∧ Q .non H
theorem ok21 (D : Df K mg "check_short" (top 21) ["short"]) (c20 : Ca P w K mg base 1 "is_short" spNone) : Ca P w K mg base 2 "check_short" spNoneN := by
  refine D.ca sc21 (fun vs H Q E h => ?_) (fun f cdv A outer s H vs Q E hr h => ?_)
  · obtain ⟨rfl, _⟩ := h
    rfl
  · obtain ⟨rfl, q⟩ := h
    refine ⟨_, pss_one (ps_if (pt_not (pt_val (pc c20 hr (pa_cons (pv 0) pa_nil)))) (pss_one ps_never) pss_nil), ?_⟩
    exact ⟨_, rfl, rfl, _, rfl, iteF q⟩
theorem sc30 : FnScope ["thing"] ["thing"] (defScope (top 30)) := ⟨rfl, rfl, rfl, by decide +kernel, rfl, by decide +kernel, by decide +kernel⟩
def spInt : Sp := fun vs H Q _ => ∃ i : Int, vs = [.int i] ∧ Q (.bl true) H
theorem ok30 (D : Df K mg "is_whole" (top 30) ["thing"]) (T : Tx K mg) : Ca P w K mg base 1 "is_whole" spInt := by
  refine D.ca sc30 (fun vs H Q E h => ?_) (fun f cdv A outer s H vs Q E hr h => ?_)
  · obtain ⟨i, rfl, _⟩ := h
    rfl
  · obtain ⟨i, rfl, q⟩ := h
    refine ⟨_, pss_one (ps_ret (pe_and (pe_isi T.isi T.int boot_int (pv 0)) (pe_one (pe_not (pe_isi (T' := "bool") T.isi T.bool (by decide +kernel) (pv 0)))))), ?_⟩
    exact ⟨_, rfl, isi_int_int ⟨true, rfl, iteT ⟨_, rfl, isi_int_bool ⟨false, rfl, q⟩⟩⟩⟩
theorem sc31 : FnScope ["many"] ["many"] (defScope (top 31)) := ⟨rfl, rfl, rfl, by decide +kernel, rfl, by decide +kernel, by decide +kernel⟩
def sp31 : Sp := fun vs H Q _ => ∃ m : Int, vs = [.int m] ∧ 1 ≤ m ∧ m ≤ 40 ∧ Q .non H
theorem ok31 (D : Df K mg "check_many" (top 31) ["many"]) (T : Tx K mg) (c30 : Ca P w K mg base 1 "is_whole" spInt) : Ca P w K mg base 2 "check_many" sp31 := by
  refine D.ca sc31 (fun vs H Q E h => ?_) (fun f cdv A outer s H vs Q E hr h => ?_)
  · obtain ⟨m, rfl, _⟩ := h
    rfl
  · obtain ⟨m, rfl, h1, h2, q⟩ := h
    obtain ⟨t, hm⟩ := T.ms
    refine ⟨_, pss_one (ps_if (PW.pt (pw_or (pt_not (pt_val (pc c30 hr (pa_cons (pv 0) pa_nil)))) (pw_or1 (pt_not (pt_chain op_le op_le pe_int (pv 0) (pe_glob (v := .int 40) (by rfl) hm ⟨_, rfl⟩)))))) (pss_one ps_never) pss_nil), ?_⟩
    refine ⟨_, rfl, m, rfl, _, rfl, iteF ⟨_, rfl, 1, m, rfl, rfl, decide (1 ≤ m), rfl, ?_⟩⟩
    rw [decide_eq_true h1]
    refine iteT ⟨m, 40, rfl, rfl, decide (m ≤ 40), rfl, ?_⟩
    rw [decide_eq_true h2]
    exact iteF q
theorem sc32 : FnScope ["thing"] ["thing"] (defScope (top 32)) := ⟨rfl, rfl, rfl, by decide +kernel, rfl, by decide +kernel, by decide +kernel⟩
def spSize : Sp := fun vs H Q _ => vs = [.str "size"] ∧ Q (.bl true) H
theorem ok32 (D : Df K mg "is_join_word" (top 32) ["thing"]) (T : Tx K mg) : Ca P w K mg base 1 "is_join_word" spSize := by
  refine D.ca sc32 (fun vs H Q E h => ?_) (fun f cdv A outer s H vs Q E hr h => ?_)
  · obtain ⟨rfl, _⟩ := h
    rfl
  · obtain ⟨rfl, q⟩ := h
    obtain ⟨a, hm, ha⟩ := T.jo
    refine ⟨_, pss_one (ps_ret (pe_and (pe_isi (T' := "str") T.isi T.str (by decide +kernel) (pv 0)) (pe_one (pe_cmpR op_in_seq (pv 0) (pe_glob (v := .ref a) (by rfl) hm rfl) (by rfl))))), ?_⟩
    exact ⟨_, rfl, isi_str_str ⟨true, rfl, iteT ⟨_, rfl, a, _, rfl, .inr (ha H), rfl, rfl, q⟩⟩⟩
theorem sc33 : FnScope ["join"] ["join"] (defScope (top 33)) := ⟨rfl, rfl, rfl, by decide +kernel, rfl, by decide +kernel, by decide +kernel⟩
def spSizeN : Sp := fun vs H Q _ => vs = [.str "size"] ∧ Q .non H
theorem ok33 (D : Df K mg "check_join" (top 33) ["join"]) (c32 : Ca P w K mg base 1 "is_join_word" spSize) : Ca P w K mg base 2 "check_join" spSizeN := by
  refine D.ca sc33 (fun vs H Q E h => ?_) (fun f cdv A outer s H vs Q E hr h => ?_)
  · obtain ⟨rfl, _⟩ := h
    rfl
  · obtain ⟨rfl, q⟩ := h
    refine ⟨_, pss_one (ps_if (pt_not (pt_val (pc c32 hr (pa_cons (pv 0) pa_nil)))) (pss_one ps_never) pss_nil), ?_⟩
    exact ⟨_, rfl, rfl, _, rfl, iteF q⟩
theorem sc34 : FnScope ["many", "join", "short"] ["many", "join", "short"] (defScope (top 34)) := ⟨rfl, rfl, rfl, by decide +kernel, rfl, by decide +kernel, by decide +kernel⟩
def sp34 (K : PySem.W.Frag) : Sp := fun vs H Q _ => ∃ n : Nat, vs = [.int (n : Nat), .str "size", .str "none"] ∧ 1 ≤ n ∧ n ≤ 40 ∧ ∀ (H' : Hp) (p : Addr), Same H H' → StoreAt K H' p (new n) → Q (.ref p) H'
theorem ok34 (D : Df K mg "new_store" (top 34) ["many", "join", "short"]) (T : Tx K mg) (c31 : Ca P w K mg base 2 "check_many" sp31) (c33 : Ca P w K mg base 2 "check_join" spSizeN) (c21 : Ca P w K mg base 2 "check_short" spNoneN) : Ca P w K mg base 3 "new_store" (sp34 K) := by
  refine D.ca sc34 (fun vs H Q E h => ?_) (fun f cdv A outer s H vs Q E hr h => ?_)
  · obtain ⟨n, rfl, _⟩ := h
    rfl
  · obtain ⟨n, rfl, h1, h2, q⟩ := h
    refine ⟨_, pss_cons (ps_expr (pc c31 hr (pa_cons (pv 0) pa_nil))) (pss_cons (ps_expr (pc c33 hr (pa_cons (pv 1) pa_nil))) (pss_cons (ps_expr (pc c21 hr (pa_cons (pv 2) pa_nil)))
      (pss_one (ps_ret (pe_tup (pa_cons (pv 1) (pa_cons (pv 2) (pa_cons (pe_tupRg rfl (by rfl) T.tup (prg_1 (by rfl) T.rng (pv 0)))
        (pa_cons (pe_op op_repA (pe_tup (pa_cons (pe_callTy call_int1 (by rfl) T.int (by decide +kernel) (pa_cons (pe_cmpR op_eq (pv 1) pe_str (nomark _)) pa_nil)) pa_nil)) (pv 0)) pa_nil))))))))), ?_⟩
    refine ⟨_, rfl, (n : Nat), rfl, by omega, by omega, _, rfl, rfl, _, rfl, rfl, ?_⟩
    refine ⟨_, rfl, _, rfl, _, rfl, _, rfl, RgOk.of_le (by omega) (by omega) (by omega) (by omega), fun u nu => ?_⟩
    rw [rgV_iv]
    have s1 : Same H (upd H u (.tup (iv (List.range n)))) := same_new nu
    have hu1 : (upd H u (.tup (iv (List.range n)))) u = some (.tup (iv (List.range n))) := upd_same
    generalize upd H u (.tup (iv (List.range n))) = H1 at s1 hu1
    refine ⟨_, rfl, rfl, .inr ⟨_, rfl, sz' (by show 1 ≤ 100000; decide), fun t nt => ?_⟩⟩
    have s2 : Same H1 (upd H1 t (.tup [.int 1])) := same_new nt
    have ht : SqT K (upd H1 t (.tup [.int 1])) t [.int 1] := SqT.of upd_same
    have fin : ∀ (H' : Hp) (m : Addr), Same H1 H' → SqT K H' m (iv (List.replicate n 1)) → [V.str "size", .str "none", .ref u, .ref m].length ≤ sizeLine ∧ ∀ p, H' p = none → Q (.ref p) (upd H' p (.tup [.str "size", .str "none", .ref u, .ref m])) := fun H' m s3 hm =>
      ⟨sz' (by show 4 ≤ 100000; decide), fun p np => q _ p ((s1.trans s3).trans (same_new np)) ⟨u, m, SqT.of upd_same, SqT.of (same_new np _ _ (s3 _ _ hu1)), same_tup (same_new np) hm⟩⟩
    refine ⟨_, rfl, ?_⟩
    by_cases hn : n = 1
    · subst hn
      exact .inr ⟨t, _, rfl, rfl, ht, fin _ _ s2 ht⟩
    · refine .inl ⟨t, (n : Nat), _, rfl, rfl, ht, by simp, by omega, by omega, by show 1 ≤ 1000; decide, fun m nm => ?_⟩
      rw [rep_iv]
      exact fin _ m (s2.trans (same_new nm)) (SqT.of upd_same)
end
end LH
/-! LhR2 -/
set_option Elab.async false
set_option linter.all false
set_option maxRecDepth 100000
set_option maxHeartbeats 4000000
/-! LhR2: sorted of tuples of ints of unlike lengths; sorted of one tuple of ints. -/
namespace LH
open PySem PySem.Spec PyProof.Rows L2 Srt SrtO
/-! ### the order of lists of ints -/
theorem lex_asym : ∀ x y : List Int, HT.lexLt x y = true → HT.lexLt y x = false
  | [], [], h => by rw [HT.lexLt_nil_nil] at h; cases h
  | [], b :: y, _ => HT.lexLt_cons_nil _ _
  | a :: x, [], h => by rw [HT.lexLt_cons_nil] at h; cases h
  | a :: x, b :: y, h => by
    rw [HT.lexLt_cons] at h ⊢
    by_cases e : a = b
    · rw [if_pos e] at h
      rw [if_pos e.symm]
      exact lex_asym x y h
    · rw [if_neg e] at h
      rw [if_neg (Ne.symm e)]
      have := of_decide_eq_true h
      exact decide_eq_false (by omega)
theorem lex_tr : ∀ x y z : List Int, HT.lexLt y x = false → HT.lexLt z y = false → HT.lexLt z x = false
  | [], _, [], _, _ => HT.lexLt_nil_nil
  | [], _, c :: z, _, _ => HT.lexLt_cons_nil _ _
  | a :: x, [], z, h, _ => by rw [HT.lexLt_nil_cons] at h; cases h
  | a :: x, b :: y, [], _, h => by rw [HT.lexLt_nil_cons] at h; cases h
  | a :: x, b :: y, c :: z, h1, h2 => by
    rw [HT.lexLt_cons] at h1 h2 ⊢
    by_cases e1 : b = a
    · rw [if_pos e1] at h1
      by_cases e2 : c = b
      · rw [if_pos e2] at h2
        rw [if_pos (e2.trans e1)]
        exact lex_tr x y z h1 h2
      · rw [if_neg e2] at h2
        rw [if_neg (by omega)]
        have := of_decide_eq_false h2
        exact decide_eq_false (by omega)
    · rw [if_neg e1] at h1
      have q1 := of_decide_eq_false h1
      by_cases e2 : c = b
      · rw [if_neg (by omega)]
        exact decide_eq_false (by omega)
      · rw [if_neg e2] at h2
        have q2 := of_decide_eq_false h2
        rw [if_neg (by omega)]
        exact decide_eq_false (by omega)
theorem swo_lexL {α : Type} (k : α → List Int) : Swo fun v u => HT.lexLt (k v) (k u) := ⟨fun x y h => lex_asym _ _ h, fun x y z h1 h2 => lex_tr _ _ _ h1 h2⟩
section
variable {prog : Program} {w : World} {A : Around} {E : Value → Shared → Prop} {s : Shared}
/-- a tuple of ints -/
def IsTI (h : Heap) (v : Value) (ns : List Int) : Prop := ∃ (a : Addr) (o : Obj) (its : Array Value) (n : Nat), v = .ref a ∧ h.get? a = some o ∧ o.cls = .type "tuple" ∧ o.data = .seq its n ∧ IntsAre its.toList ns
theorem IsTI.keeps {h h' : Heap} {v : Value} {ns : List Int} (p : IsTI h v ns) (k : ∀ b o, h.get? b = some o → o.cls = .type "tuple" → h'.get? b = some o) : IsTI h' v ns := by
  obtain ⟨a, o, its, n, e, ho, hc, hd, hi⟩ := p
  exact ⟨a, o, its, n, e, k _ _ ho hc, hc, hd, hi⟩
theorem lex_cmp {Q : Bool → Shared → Prop} : ∀ {xs ys : List Value} {ns ms : List Int} (i : Nat) {fin : Bool}, IntsAre xs ns → IntsAre ys ms → fin = decide (ns.length < ms.length) → Q (HT.lexLt ns ms) s → PySem.W.KatLex prog w A true fin Q (xs.zip ys) i s
  | _, _, _, _, i, fin, .nil, .nil, hf, q => PySem.W.kat_nil (by rw [hf]; exact q)
  | _, _, _, _, i, fin, .nil, .cons n t r, hf, q => PySem.W.kat_nil (by rw [hf]; exact q)
  | _, _, _, _, i, fin, .cons n t r, .nil, hf, q => PySem.W.kat_nil (by rw [hf]; exact q)
  | _, _, _, _, i, fin, .cons n t r, .cons m u r', hf, q => by
    rw [HT.lexLt_cons] at q
    refine PySem.W.kat_cons (SeqAt.EqAt.int_int n t m u prog w _ _ ?_)
    refine PySem.W.kat_go (fun e1 => ?_) (fun e1 => ?_)
    · have ex : n = m := by simpa using e1
      rw [if_pos ex] at q
      refine PySem.W.kat_yes (lex_cmp (i + 1) r r' (by rw [hf]; simp) q)
    · have ex : ¬ n = m := by simpa using e1
      rw [if_neg ex] at q
      exact PySem.W.kat_no (TS.oneLt_ints _ q)
theorem ti_cmp {vs : List Value} {k : Value → List Int} (hp : ∀ v ∈ vs, IsTI s.heap v (k v)) : Cmp prog w A s (tuples' true) (fun p => p.1 ∈ vs) (lt2 fun v u => HT.lexLt (k v) (k u)) := by
  intro p q hm hm'
  obtain ⟨a, o, its, n, e, ho, hc, hd, hi⟩ := hp _ hm
  obtain ⟨a', o', its', n', e', ho', hc', hd', hi'⟩ := hp _ hm'
  show wpAny (model prog w) A (keyLt' (tuples' true) p.1 q.1) (fun r s' => s' = s ∧ r = HT.lexLt (k p.1) (k q.1)) (fun _ _ => False) s
  generalize k p.1 = ns at hi ⊢
  generalize k q.1 = ms at hi' ⊢
  rw [e, e']
  refine PySem.W.kat_lt ho hd ho' hd' (lex_cmp 0 hi hi' ?_ ⟨rfl, rfl⟩)
  have h1 := hi.length
  have h2 := hi'.length
  rw [Array.length_toList] at h1 h2
  rw [h1, h2]
theorem ti_firsts {h : Heap} : ∀ {vs : List Value} {k : Value → List Int}, (∀ v ∈ vs, IsTI h v (k v) ∧ k v ≠ []) → ∃ fs : List Value, PySem.W.KatTups h vs fs ∧ fs.length = vs.length ∧ ∀ f ∈ fs, ∃ x t, f = Value.int x t
  | [], _, _ => ⟨[], PySem.W.KatTups.nil, rfl, fun _ hm => by simp at hm⟩
  | v :: vs, k, hp => by
    obtain ⟨fs, h1, h2, h3⟩ := ti_firsts (vs := vs) (k := k) fun v' hm => hp v' (List.mem_cons_of_mem _ hm)
    obtain ⟨⟨a, o, its, n, e, ho, hc, hd, hi⟩, hne⟩ := hp v List.mem_cons_self
    generalize k v = ns at hi hne
    subst e
    obtain ⟨l⟩ := its
    cases hi with
    | nil => exact absurd rfl hne
    | cons x t r =>
      refine ⟨.int x t :: fs, PySem.W.KatTups.cons ho hc hd rfl h1, by rw [List.length_cons, List.length_cons, h2], fun f hm => ?_⟩
      rcases List.mem_cons.mp hm with rfl | hm
      · exact ⟨x, t, rfl⟩
      · exact h3 f hm
theorem ti_sortable {a : Addr} {vs : List Value} {k : Value → List Int} (h0 : 0 < vs.length) (hp : ∀ v ∈ vs, IsTI s.heap v (k v) ∧ k v ≠ []) (ha : ∀ o, s.heap.get? a = some o → o.cls ≠ .type "tuple") : SortableO prog w A s a vs fun v u => HT.lexLt (k v) (k u) := by
  intro h' keep
  have hp' : ∀ v ∈ vs, IsTI h' v (k v) ∧ k v ≠ [] := fun v hm => ⟨(hp v hm).1.keeps fun b o e c => keep b o (fun z => by subst z; exact ha o e c) e, (hp v hm).2⟩
  obtain ⟨fs, h1, h2, h3⟩ := ti_firsts hp'
  refine ⟨tuples' true, fun Q E hq => ?_, ti_cmp fun v hm => (hp' v hm).1⟩
  refine PySem.W.kat_kind (T := .type "int") h1 (by omega) (fun f hm => ?_) (by rfl) ?_
  · obtain ⟨x, t, rfl⟩ := h3 f hm
    exact PySem.W.Looks.now
  · have e : (Value.type "int" != Value.type "tuple") = true := by first | decide +kernel | rfl | decide
    rw [e]
    exact hq
end
/-- sorted(xs), xs a list of tuples of ints, none empty, of any lengths -/
def rSortTI (K : PySem.W.Frag) : List V → Hp → VK → Prop := fun vs H Q => ∃ (a : Addr) (xs : List V) (k : V → List Int), vs = [V.ref a] ∧ SqL K H a xs ∧ (∀ x ∈ xs, (∃ t, x = V.ref t ∧ SqT K H t ((k x).map V.int)) ∧ k x ≠ []) ∧
  ∀ ys p, ys.Perm xs → ys.Pairwise (fun x y => HT.lexLt (k y) (k x) = false) → H p = none → Q (.ref p) (upd H p (.lst ys))
section
variable {X : Cx}
theorem cr_sortTI : CallR X (.builtin "sorted") (rSortTI X.K) := by
  intro pins s σ H vs us Q I r h
  obtain ⟨a, xs, k, rfl, hs, hx, q⟩ := h
  obtain ⟨its, rv, hl, hz⟩ := I.list hs
  obtain ⟨u, rfl, ru⟩ := vals1 r
  obtain rfl : u = Value.ref a := ru
  obtain ⟨e1, e2⟩ := refs_back rv fun x m => by
    obtain ⟨⟨t, e, _⟩, _⟩ := hx x m
    exact ⟨t, e⟩
  have hp : ∀ v ∈ its, IsTI s.heap v (k (backV v)) ∧ k (backV v) ≠ [] := fun v hv => by
    obtain ⟨t, rfl⟩ := e2 v hv
    have hm : V.ref t ∈ xs := by rw [e1]; exact List.mem_map.mpr ⟨_, hv, rfl⟩
    obtain ⟨⟨t', e, ht⟩, hne⟩ := hx _ hm
    cases e
    obtain ⟨its2, r2, ⟨o, ho, hc, n, hd⟩, _⟩ := I.tuple ht
    exact ⟨⟨t, o, its2.toArray, n, rfl, ho, hc, hd, r2.ints⟩, hne⟩
  refine SrtO.sorted_ord (swo_lexL fun u => k (backV u)) hl.isList (by rw [← rv.length]; exact hz) (fun h2 h₁ b hb kk => ?_) fun out h1 h2 => ?_
  · refine ti_sortable (s := { s with heap := h₁ }) (by omega) (fun v hm => ⟨(hp v hm).1.keeps fun b o e _ => (kk b o e).2, (hp v hm).2⟩) fun o e => ?_
    have e' : some o = some (seqObj "list" its.toArray 0) := e.symm.trans hb
    cases e'
    intro c
    exact absurd (Value.type.inj c) (by decide)
  · have h3 : ∀ u ∈ out, ∃ a, u = Value.ref a := fun u hu => e2 u (h2.perm.mem_iff.mp hu)
    obtain ⟨ep, he'⟩ := PyProof.Rows.sortedAll_at s.heap its out.toArray
    have hperm : (out.map backV).Perm xs := by
      rw [e1]
      exact h2.perm.map backV
    refine ⟨.ref _, upd H (s.heap.objs.size + 1) (.lst (out.map backV)), I.laid (t' := s.toks) (fun _ _ => PyProof.Rows.sortedAll_old) (Nat.le_succ _) ⟨?_, out, ep, vals_back h3, he'⟩, rfl, q _ _ hperm (List.pairwise_map.mpr h1) (I.hok.fresh (Nat.le_succ _))⟩
    rw [hperm.length_eq]
    exact hz
end
end LH
/-! LhR3 -/
set_option Elab.async false
set_option linter.all false
set_option maxRecDepth 100000
set_option maxHeartbeats 4000000
/-! LhR3: sorted of one tuple of ints. -/
namespace LH
open PySem PySem.Spec PyProof.Rows L2 Srt SrtO
section
variable {prog : Program} {w : World} {A : Around} {E : Value → Shared → Prop} {s : Shared}
theorem collect_tup {l : Addr} {vs : List Value} {Q : List Value → Shared → Prop} (hl : IsTup s.heap l vs.toArray)
    (h : Q vs { s with heap := (s.heap.push (seqObj "list" #[] 0)).update s.heap.objs.size (Obj.mapSeq (· ++ vs.toArray)) }) (hsz : vs.length ≤ sizeLine) :
    wpAny (model prog w) A (collect (.ref l)) Q E s := by
  obtain ⟨o, ho, hc, n, hd⟩ := id hl
  unfold collect
  refine wpAny_bind (wpAny_runValue (codeAny_builtin entry_proto_collect' ?_))
  show wpAny _ _ (do again (.builtin "list.__iadd__" ⟨[← newList [], .ref l], []⟩)) _ _ s
  refine wpAny_bind (wpAny_newList (wpAny_pure ⟨Code.quiet_builtin _ (by decide +kernel), codeAny_builtin entry_list_iadd' ?_⟩))
  show wpAny _ _ (Builtin.List.listExtendWith (.ref s.heap.objs.size) (.ref l) (.ref s.heap.objs.size)) _ _ { s with heap := s.heap.push (seqObj "list" #[] 0) }
  unfold Builtin.List.listExtendWith
  have ho' : (s.heap.push (seqObj "list" #[] 0)).get? l = some o := Heap.get?_push_of_some _ ho
  refine wpAny_bind (wpAny_typeOf (T := "tuple") ⟨o, ho', hc⟩ ?_)
  have ht : (Value.type "tuple" == Value.type "tuple") = true := by rfl
  rw [if_pos (by rw [ht]; simp)]
  refine wpAny_bind (listItems_at ho' hd ?_)
  refine wpAny_bind (listItems_at (xs := #[]) (n := 0) (Heap.get?_push_size _ rfl) rfl ?_)
  rw [if_neg (by simp)]
  refine wpAny_bind (listUpdate_at (xs := #[]) (n := 0) (Heap.get?_push_size _ rfl) rfl ?_ (Nat.zero_le _) (by show (#[] ++ vs.toArray).size ≤ sizeLine + 1; simp only [Array.size_append, List.size_toArray, List.length_nil]; omega))
  refine wpAny_pure ?_
  show wpAny (model prog w) A (do
      let o ← load s.heap.objs.size
      match o.data with
      | .seq xs _ => pure xs.toList
      | _ => unsupported "internal:collect") Q E { s with heap := (s.heap.push (seqObj "list" #[] 0)).update s.heap.objs.size (Obj.mapSeq (· ++ vs.toArray)) }
  refine wpAny_bind (wpAny_load (get?_update_seq (Heap.get?_push_size _ rfl) _) ?_)
  show wpAny _ _ (pure ((#[] : Array Value) ++ vs.toArray).toList) Q E _
  rw [show ((#[] : Array Value) ++ vs.toArray).toList = vs by simp]
  exact wpAny_pure h
theorem sorted_ordT {l : Addr} {vs : List Value} {ltv : Value → Value → Bool} {Q : Value → Shared → Prop} (O : Swo ltv) (hl : IsTup s.heap l vs.toArray) (hz : vs.length ≤ sizeLine)
    (hS : 2 ≤ vs.length → ∀ (h₁ : Heap) (a : Addr), h₁.get? a = some (seqObj "list" vs.toArray 0) → (∀ b o, s.heap.get? b = some o → b ≠ a ∧ h₁.get? b = some o) → SortableO prog w A.in1.in1 { s with heap := h₁ } a vs ltv)
    (h : ∀ out : List Value, Srtd ltv out → Stb ltv out vs → Q (.ref (s.heap.objs.size + 1)) { s with heap := sortedAll s.heap vs out.toArray }) :
    wpAny (model prog w) A (call (.builtin "sorted") [.ref l]) Q E s := by
  refine Calls.call_function_entry kind_sorted plain_sorted entry_sorted (args_sorted1 _) ?_
  unfold Builtin.«sorted»
  refine wpAny_bind (m := checkCount "sorted" 1 1 _) (wpAny_pure ?_)
  refine wpAny_bind (collect_tup hl ?_ hz)
  refine wpAny_bind (wpAny_newList ?_ hz)
  have hsz : ((s.heap.push (seqObj "list" #[] 0)).update s.heap.objs.size (Obj.mapSeq (· ++ vs.toArray))).objs.size = s.heap.objs.size + 1 := by
    rw [Heap.size_update, size_push']
  have hoL : (((s.heap.push (seqObj "list" #[] 0)).update s.heap.objs.size (Obj.mapSeq (· ++ vs.toArray))).push (seqObj "list" vs.toArray 0)).get? (s.heap.objs.size + 1) = some (seqObj "list" vs.toArray 0) := by
    rw [← hsz]; exact Heap.get?_push_size _ rfl
  have keep : ∀ b o, s.heap.get? b = some o → b ≠ s.heap.objs.size + 1 ∧ (((s.heap.push (seqObj "list" #[] 0)).update s.heap.objs.size (Obj.mapSeq (· ++ vs.toArray))).push (seqObj "list" vs.toArray 0)).get? b = some o := fun b o q => by
    have hlt : b < s.heap.objs.size := Heap.lt_size q
    refine ⟨Nat.ne_of_lt (Nat.lt_succ_of_lt hlt), Heap.get?_push_of_some _ ?_⟩
    rw [Heap.get?_update_ne _ _ _ _ (Nat.ne_of_lt hlt)]
    exact Heap.get?_push_of_some _ q
  show wpAny _ _ _ _ _ { s with heap := ((s.heap.push (seqObj "list" #[] 0)).update s.heap.objs.size (Obj.mapSeq (· ++ vs.toArray))).push (seqObj "list" vs.toArray 0) }
  rw [hsz]
  refine wpAny_bind (wpAny_holding (wpAny_call_entry slot_list_sort ⟨_, hoL, rfl⟩ entry_list_sort (list_sort_ord O hoL hz (fun h2 => hS h2 _ _ hoL keep) fun out hs hb => ⟨_, rfl, ?_⟩) (args_list_sort _)))
  exact wpAny_pure ⟨_, rfl, h out hs hb⟩
end
/-- sorted(t), t a tuple of ints -/
def rSortedIT (K : PySem.W.Frag) : List V → Hp → VK → Prop := fun vs H Q => ∃ (a : Addr) (ns : List Int), vs = [V.ref a] ∧ SqT K H a (ns.map V.int) ∧
  ∀ (ns' : List Int) (p : Addr), ns'.Perm ns → ns'.Pairwise (· ≤ ·) → H p = none → Q (.ref p) (upd H p (.lst (ns'.map V.int)))
section
variable {X : Cx}
theorem cr_sortedIT : CallR X (.builtin "sorted") (rSortedIT X.K) := by
  intro pins s σ H vs us Q I r h
  obtain ⟨a, ns, rfl, hs, q⟩ := h
  obtain ⟨its, rv, hl, hz⟩ := I.tuple hs
  rw [Vals.ref1 r]
  have hi := rv.ints
  refine sorted_ordT SrtO.swo_int hl (by rw [← rv.length]; exact hz) (fun h2 h₁ a' _ _ => SrtO.ints_sortable hi h2) fun out h1 h2 => ?_
  obtain ⟨k1, k2, k3⟩ := SrtO.ints_out hi h1 h2
  obtain ⟨ep, he'⟩ := PyProof.Rows.sortedAll_at s.heap its out.toArray
  have hlen : ((out.map SrtO.iv).map V.int).length ≤ sizeLine := by
    rw [List.length_map, k2.length_eq]
    rw [List.length_map] at hz
    exact hz
  exact ⟨.ref _, upd H (s.heap.objs.size + 1) (.lst ((out.map SrtO.iv).map V.int)), I.laid (t' := s.toks) (fun _ _ => PyProof.Rows.sortedAll_old) (Nat.le_succ _) ⟨hlen, out, ep, vals_of_ints k1, he'⟩, rfl, q _ _ k2 k3 (I.hok.fresh (Nat.le_succ _))⟩
end
end LH
/-! LhF -/
set_option Elab.async false
set_option linter.all false
set_option maxRecDepth 100000
set_option maxHeartbeats 4000000
namespace LH
open PySem PySem.Spec PyProof.Rows L2
theorem all_rep (n : Nat) : (List.replicate n true).all id = true := by
  induction n with
  | zero => rfl
  | succ n ih => rw [List.replicate_succ, List.all_cons, ih]; rfl
theorem rep_snoc (n : Nat) (b : Bool) : (List.replicate n b).map V.bl ++ [V.bl b] = (List.replicate (n + 1) b).map V.bl := by
  rw [List.replicate_succ', List.map_append]
  rfl
theorem iv_of {xs : List Nat} {i : Nat} {x : V} (h : (iv xs)[i]? = some x) : ∃ a, xs[i]? = some a ∧ x = .int (a : Nat) := by
  unfold iv at h
  rw [List.getElem?_map] at h
  cases e : xs[i]? with
  | none => rw [e] at h; cases h
  | some a => rw [e] at h; exact ⟨a, rfl, (Option.some.inj h).symm⟩
section
variable {P : Program} {w : World} {K : PySem.W.Frag} {mg : Str → Option Value} {base : Heap}
/-! ### is_forest, check_forest -/
theorem sc15 : FnScope ["thing", "lasts", "up", "x", "last"] ["thing"] (defScope (top 15)) := ⟨rfl, rfl, rfl, by decide +kernel, rfl, by decide +kernel, by decide +kernel⟩
def sp15 (K : PySem.W.Frag) : Sp := fun vs H Q _ => ∃ (u : Addr) (n k : Nat) (ups : List Nat), vs = [.ref u] ∧ SqT K H u (iv ups) ∧ Fo n k ups ∧ k ≤ 900 ∧ 1 ≤ n ∧ n ≤ 40 ∧ ∀ H' : Hp, Same H H' → Q (.bl true) H'
theorem ok15 (D : Df K mg "is_forest" (top 15) ["thing"]) (T : Tx K mg) (c12 : Ca P w K mg base 1 "is_thing" sp12) (c14 : Ca P w K mg base 1 "ends_at" (sp14 K)) : Ca P w K mg base 2 "is_forest" (sp15 K) := by
  refine D.ca sc15 (fun vs H Q E h => ?_) (fun f cdv A outer s H vs Q E hr h => ?_)
  · obtain ⟨u, n, k, ups, rfl, _⟩ := h
    rfl
  · obtain ⟨u, n, k, ups, rfl, hU, F, hk, hn1, hn40, q⟩ := h
    obtain ⟨tf, hmf⟩ := T.mf
    have nd := sc15.nd
    have hlen : (iv ups).length = n := by rw [iv_len, F.len]
    refine ⟨_, pss_cons (ps_if (PW.pt (pw_or (pt_not (pt_val (pe_isi T.isi T.tup boot_tuple (pv 0)))) (pw_or1 (pt_not (pt_chain op_le op_le pe_int (plen (K := K) T.len (pv 0)) (pe_glob (v := .int 40) (by rfl) hmf ⟨_, rfl⟩)))))) (pss_one ps_never) pss_nil)
      (pss_cons (ps_if (pt_not (pt_val (pe_callB (cr_all rfl) (by rfl) T.all (by decide +kernel) (pa_cons (pe_lc (own := [("up", 2)]) (g := gName 2) (tt := tYes) rfl nd (pi_tup (pv 0)) (blkOk_by (N := ["thing", "lasts", "up", "x", "last"]) (sc := defScope (top 15)) (by decide +kernel))
          (fun _ _ _ _ _ => pg_name (i := 2) nd rfl (.inl rfl)) (fun _ _ _ _ _ => pts_nil) (fun _ _ _ _ _ => pc c12 hr (pa_cons (plen (K := K) T.len (pv 0)) (pa_cons (pv 2) pa_nil)))) pa_nil)))) (pss_one ps_never) pss_nil)
      (pss_cons (ps_setLc (i := 1) (own := [("x", 3)]) (g := gName 3) (tt := tYes) rfl nd rfl rfl (sw_true rfl rfl rfl (by decide +kernel)) (pi_range1 (by rfl) T.rng (pa_cons (plen (K := K) T.len (pv 0)) pa_nil)) (blkOk_by (N := ["thing", "lasts", "up", "x", "last"]) (sc := defScope (top 15)) (by decide +kernel))
          (fun _ _ _ _ _ => pg_name (i := 3) nd rfl (.inl rfl)) (fun _ _ _ _ _ => pts_nil) (fun _ _ _ _ _ => pil (K := K) (pc c14 hr (pa_cons (pv 0) (pa_cons (pv 3) pa_nil))) (pe_un un_neg pe_int)))
      (pss_one (ps_ret (pe_callB (cr_all rfl) (by rfl) T.all (by decide +kernel) (pa_cons (pe_lc (own := [("last", 4)]) (g := gName 4) (tt := tYes) rfl nd (pi_list (pv 1)) (blkOk_by (N := ["thing", "lasts", "up", "x", "last"]) (sc := defScope (top 15)) (by decide +kernel))
          (fun _ _ _ _ _ => pg_name (i := 4) nd rfl (.inl rfl)) (fun _ _ _ _ _ => pts_nil) (fun _ _ _ _ _ => pe_cmpR op_eq (pit (K := K) (pv 0) (pv 4)) (pv 4) (nomark _))) pa_nil)))))), ?_⟩
    -- the first test
    refine ⟨_, rfl, isi_tup hU ⟨true, rfl, iteF ?_⟩⟩
    refine ⟨_, rfl, u, _, rfl, .inr hU, 1, _, rfl, rfl, decide ((1 : Int) ≤ ((iv ups).length : Nat)), rfl, ?_⟩
    rw [hlen, decide_eq_true (by omega : (1 : Int) ≤ (n : Nat))]
    refine iteT ⟨_, 40, rfl, rfl, decide (((n : Nat) : Int) ≤ 40), rfl, ?_⟩
    rw [decide_eq_true (by omega : ((n : Nat) : Int) ≤ 40)]
    refine iteF ?_
    -- all are things
    refine ⟨_, rfl, u, rfl, ⟨_, hU⟩, fun D1 n1 => ?_⟩
    refine lc_tup (K := K) (a := u) (xs := iv ups) (fun i H' => Same H H' ∧ H' D1 = some (.lst ((List.replicate i true).map V.bl))) ⟨same_new n1, upd_same⟩ (fun i H' _ p => same_tup p.1 hU) ?_ ?_
    · rintro i x H1 hi ⟨s1, h1⟩
      obtain ⟨a, ha, rfl⟩ := iv_of hi
      have hin : i < n := by rw [← F.len]; exact (List.getElem?_eq_some_iff.mp ha).1
      have han : a < n := by
        have e : a = up ups i := Option.some.inj (ha.symm.trans (up_get (by rw [F.len]; exact hin)))
        rw [e]
        exact F.lt i hin
      refine ⟨rfl, yes ?_⟩
      refine ⟨_, rfl, u, _, rfl, .inr (same_tup s1 hU), _, rfl, _, _, rfl, _, h1, ?_, same_own s1 n1, ?_⟩
      · rw [List.length_map, List.length_replicate]
        exact sz (by omega)
      · rw [upd_same, hlen, decide_eq_true (by omega : (0 : Int) ≤ (a : Nat)), decide_eq_true (by omega : ((a : Nat) : Int) < (n : Nat)), ← rep_snoc]
        rfl
    · rintro H1 ⟨s1, h1⟩
      rw [hlen] at h1
      refine ⟨D1, _, rfl, SqL.of h1, _, rfl, ?_⟩
      show if (!(List.replicate n true).all id) = true then _ else _
      rw [all_rep]
      refine iteF ?_
      -- the heads
      refine ⟨_, rfl, u, _, rfl, .inr (same_tup s1 hU), _, rfl, by rw [hlen]; omega, by rw [hlen]; omega, fun D2 n2 => ?_⟩
      rw [hlen, Int.toNat_natCast]
      have n2H : H D2 = none := s1.free n2
      refine lc_range (lo := 0) (n := n) (fun i H' => Same H H' ∧ H' D2 = some (.lst (iv ((List.range i).map (hd ups))))) ⟨same_own s1 n2H, upd_same⟩ ?_ ?_
      · rintro i H2 hi ⟨s2, h2⟩
        rw [Int.zero_add]
        refine ⟨rfl, yes ?_⟩
        refine ⟨_, rfl, _, rfl, u, i, n, k, ups, rfl, same_tup s2 hU, F, hk, hi, fun H3 p ws s3 np hp => ?_⟩
        have last : atI (iv (ws ++ [hd ups i])) (-1) = some (.int (hd ups i : Nat)) := by rw [iv_app]; exact atI_last _ _
        refine ⟨1, rfl, p, _, -1, _, rfl, rfl, SqL.of hp, last, _, s3 _ _ h2, ?_, same_own (s2.trans s3) n2H, ?_⟩
        · rw [iv_len, List.length_map, List.length_range]
          exact sz (by omega)
        · rw [upd_same, List.range_succ, List.map_append, iv_app]
          rfl
      · rintro H2 ⟨s2, h2⟩
        refine ⟨_, rfl, D2, rfl, ⟨_, SqL.of h2⟩, fun D3 n3 => ?_⟩
        have n3H : H D3 = none := s2.free n3
        have n32 : D2 ≠ D3 := ne_of_none h2 n3
        refine lc_list (K := K) (a := D2) (xs := iv ((List.range n).map (hd ups))) (fun i H' => Same H H' ∧ H' D2 = some (.lst (iv ((List.range n).map (hd ups)))) ∧ H' D3 = some (.lst ((List.replicate i true).map V.bl))) ⟨same_own s2 n3H, by rw [upd_ne n32]; exact h2, upd_same⟩ (fun i H' _ p => SqL.of p.2.1) ?_ ?_
        · rintro i x H3 hi ⟨s3, g2, g3⟩
          obtain ⟨a, ha, rfl⟩ := iv_of hi
          have hin : i < n := by
            have := (List.getElem?_eq_some_iff.mp ha).1
            rwa [List.length_map, List.length_range] at this
          have ea : a = hd ups i := by
            rw [List.getElem?_map, List.getElem?_range hin] at ha
            exact (Option.some.inj ha).symm
          subst ea
          refine ⟨rfl, yes ?_⟩
          refine ⟨_, rfl, _, rfl, u, _, _, _, rfl, rfl, same_tup s3 hU, ups_at F (F.hd_lt hk i hin), _, rfl, rfl, _, g3, ?_, same_own s3 n3H, ?_, ?_⟩
          · rw [List.length_map, List.length_replicate]
            exact sz (by omega)
          · rw [upd_ne n32]
            exact g2
          · rw [upd_same, F.hd_is hk i hin, decide_eq_true rfl, ← rep_snoc]
        · rintro H3 ⟨s3, g2, g3⟩
          rw [iv_len, List.length_map, List.length_range] at g3
          refine ⟨D3, _, rfl, SqL.of g3, ?_⟩
          rw [all_rep]
          exact q _ s3
theorem sc16 : FnScope ["ups"] ["ups"] (defScope (top 16)) := ⟨rfl, rfl, rfl, by decide +kernel, rfl, by decide +kernel, by decide +kernel⟩
def sp16 (K : PySem.W.Frag) : Sp := fun vs H Q _ => ∃ (u : Addr) (n k : Nat) (ups : List Nat), vs = [.ref u] ∧ SqT K H u (iv ups) ∧ Fo n k ups ∧ k ≤ 900 ∧ 1 ≤ n ∧ n ≤ 40 ∧ ∀ H' : Hp, Same H H' → Q .non H'
theorem ok16 (D : Df K mg "check_forest" (top 16) ["ups"]) (c15 : Ca P w K mg base 2 "is_forest" (sp15 K)) : Ca P w K mg base 3 "check_forest" (sp16 K) := by
  refine D.ca sc16 (fun vs H Q E h => ?_) (fun f cdv A outer s H vs Q E hr h => ?_)
  · obtain ⟨u, n, k, ups, rfl, _⟩ := h
    rfl
  · obtain ⟨u, n, k, ups, rfl, hU, F, hk, hn1, hn40, q⟩ := h
    refine ⟨_, pss_one (ps_if (pt_not (pt_val (pc c15 hr (pa_cons (pv 0) pa_nil)))) (pss_one ps_never) pss_nil), ?_⟩
    exact ⟨_, rfl, u, n, k, ups, rfl, hU, F, hk, hn1, hn40, fun H' s1 => ⟨_, rfl, iteF (q H' s1)⟩⟩
end
end LH
/-! LhR4 -/
set_option Elab.async false
set_option linter.all false
set_option maxRecDepth 100000
set_option maxHeartbeats 4000000
/-! LhR4: sorted of a list of lots; what two sorted lists of lots are. -/
namespace LH
open PySem PySem.Spec PyProof.Rows L2
def zs (xs : List Nat) : List Int := xs.map fun n : Nat => (n : Int)
theorem iv_zs (xs : List Nat) : iv xs = (zs xs).map V.int := by
  unfold iv zs
  rw [List.map_map]
  rfl
theorem zs_inj : ∀ {a b : List Nat}, zs a = zs b → a = b
  | [], [], _ => rfl
  | [], _ :: _, h => by cases h
  | _ :: _, [], h => by cases h
  | x :: a, y :: b, h => by
    have h' := List.cons.inj (show ((x : Nat) : Int) :: zs a = ((y : Nat) : Int) :: zs b from h)
    rw [Int.ofNat.inj h'.1, zs_inj h'.2]
theorem map_inj {α β : Type} {f : α → β} (hf : ∀ a b, f a = f b → a = b) : ∀ {l m : List α}, l.map f = m.map f → l = m
  | [], [], _ => rfl
  | [], _ :: _, h => by cases h
  | _ :: _, [], h => by cases h
  | x :: a, y :: b, h => by
    obtain ⟨h1, h2⟩ := List.cons.inj h
    rw [hf _ _ h1, map_inj hf h2]
/-- a rearrangement of images is an image of a rearrangement -/
theorem perm_lift {α β : Type} {f : α → β} {ys zs : List β} (p : ys.Perm zs) : ∀ {L : List α}, zs = L.map f → ∃ L' : List α, L'.Perm L ∧ ys = L'.map f := by
  induction p with
  | nil =>
    intro L e
    cases L with
    | nil => exact ⟨[], .nil, rfl⟩
    | cons a L => cases e
  | cons x p ih =>
    intro L e
    cases L with
    | nil => cases e
    | cons a L =>
      obtain ⟨e1, e2⟩ := List.cons.inj e
      obtain ⟨L', h1, h2⟩ := ih e2
      exact ⟨a :: L', h1.cons a, by rw [h2, e1]; rfl⟩
  | swap x y l =>
    intro L e
    match L, e with
    | [], e => cases e
    | [a], e => cases (List.cons.inj e).2
    | a :: b :: L, e =>
      obtain ⟨e1, e2⟩ := List.cons.inj e
      obtain ⟨e3, e4⟩ := List.cons.inj e2
      exact ⟨b :: a :: L, .swap a b L, by rw [e1, e3, e4]; rfl⟩
  | trans p q ih1 ih2 =>
    intro L e
    obtain ⟨L1, h1, h2⟩ := ih2 e
    obtain ⟨L2, h3, h4⟩ := ih1 h2
    exact ⟨L2, h3.trans h1, h4⟩
/-- ints that rearrange numbers are numbers -/
theorem perm_zs {ns : List Int} {xs : List Nat} (p : ns.Perm (zs xs)) : ∃ ys : List Nat, ns = zs ys ∧ ys.Perm xs := by
  obtain ⟨L, h1, h2⟩ := perm_lift (f := fun n : Nat => (n : Int)) p rfl
  exact ⟨L, h2, h1⟩
theorem zs_le {xs : List Nat} (h : (zs xs).Pairwise (· ≤ ·)) : xs.Pairwise (· ≤ ·) := (List.pairwise_map.mp h).imp fun q => Int.ofNat_le.mp q

/-- sorted(xs), xs a list of tuples of numbers -/
def rSortL (K : PySem.W.Frag) : List V → Hp → VK → Prop := fun vs H Q => ∃ (a : Addr) (L : List (Addr × List Nat)), vs = [V.ref a] ∧ SqL K H a (L.map fun q => V.ref q.1) ∧ (∀ q ∈ L, SqT K H q.1 (iv q.2) ∧ q.2 ≠ []) ∧
  ∀ (L' : List (Addr × List Nat)) (p : Addr), L'.Perm L → L'.Pairwise (fun q r => HT.lexLt (zs r.2) (zs q.2) = false) → H p = none → Q (.ref p) (upd H p (.lst (L'.map fun q => V.ref q.1)))
section
variable {X : Cx}
theorem cr_sortL : CallR X (.builtin "sorted") (rSortL X.K) := by
  intro pins s σ H vs us Q I r h
  obtain ⟨a, L, rfl, hs, hL, q⟩ := h
  have one : ∀ p ∈ L, ∀ p' ∈ L, p.1 = p'.1 → p.2 = p'.2 := fun p hp p' hp' e => by
    have h1 := (hL p hp).1
    have h2 := (hL p' hp').1
    rw [e] at h1
    have h3 := I.tuple_inj h1 h2
    rw [iv_zs, iv_zs] at h3
    exact zs_inj (map_inj (fun a b => V.int.inj) h3)
  let k : V → List Int := fun x => match x with
    | .ref t => zs (((L.find? fun p => decide (p.1 = t)).map (·.2)).getD [])
    | _ => []
  have hk : ∀ p ∈ L, k (.ref p.1) = zs p.2 := fun p hp => by
    show zs (((L.find? fun p' => decide (p'.1 = p.1)).map (·.2)).getD []) = zs p.2
    cases e : L.find? fun p' => decide (p'.1 = p.1) with
    | none => exact absurd (List.find?_eq_none.mp e p hp) (by simp)
    | some p' =>
      have h1 : p'.1 = p.1 := by simpa using List.find?_some e
      show zs p'.2 = zs p.2
      rw [one p' (List.mem_of_find?_eq_some e) p hp h1]
  refine cr_sortTI pins s σ H _ us Q I r ⟨a, _, k, rfl, hs, fun x hx => ?_, fun ys p hp hy hn => ?_⟩
  · obtain ⟨p, hp, rfl⟩ := List.mem_map.mp hx
    rw [hk p hp, ← iv_zs]
    refine ⟨⟨p.1, rfl, (hL p hp).1⟩, fun z => (hL p hp).2 ?_⟩
    exact List.map_eq_nil_iff.mp z
  · obtain ⟨L', h1, rfl⟩ := perm_lift (f := fun q : Addr × List Nat => V.ref q.1) hp rfl
    refine q L' p h1 ?_ hn
    have hy' := List.pairwise_map.mp hy
    refine List.Pairwise.imp_of_mem (fun {x y} hx hyy z => ?_) hy'
    rw [hk x (h1.mem_iff.mp hx), hk y (h1.mem_iff.mp hyy)] at z
    exact z
end
/-! ### lots in their order -/
theorem cls_ne {n : Nat} {h : Nat → Nat} {x : Nat} (hx : x < n) : cls n h x ≠ [] := fun z => by
  have := cls_self (h := h) hx
  rw [z] at this
  cases this
/-- lots, by their least things -/
structure Lots (n : Nat) (h : Nat → Nat) (ls : List (List Nat)) : Prop where
  is : IsLots n h ls
  ord : ls.Pairwise fun l m => l.headD 0 < m.headD 0
theorem cls_head {n : Nat} {h : Nat → Nat} {x y : Nat} (hx : x < n) (hy : y < n) (e : (cls n h x).headD 0 = (cls n h y).headD 0) : cls n h x = cls n h y := by
  have key : ∀ z, z < n → (cls n h z).headD 0 ∈ cls n h z := fun z hz => by
    cases q : cls n h z with
    | nil => exact absurd q (cls_ne hz)
    | cons a r => simp
  have h1 := key x hx
  have h2 := key y hy
  rw [e] at h1
  exact cls_congr ((mem_cls.mp h1).2.symm.trans (mem_cls.mp h2).2)
theorem Lots.of {n : Nat} {h : Nat → Nat} {ls : List (List Nat)} (i : IsLots n h ls) (s : ls.Pairwise fun l m => HT.lexLt (zs m) (zs l) = false) : Lots n h ls := by
  refine ⟨i, ?_⟩
  have s2 := List.Pairwise.and s (List.nodup_iff_pairwise_ne.mp i.nodup)
  refine List.Pairwise.imp_of_mem (fun {l m} hl hm z => ?_) s2
  obtain ⟨z1, z2⟩ := z
  obtain ⟨x, hx, rfl⟩ := (i.mem l).mp hl
  obtain ⟨y, hy, rfl⟩ := (i.mem m).mp hm
  have ne : (cls n h x).headD 0 ≠ (cls n h y).headD 0 := fun e => z2 (cls_head hx hy e)
  cases q : cls n h x with
  | nil => exact absurd q (cls_ne hx)
  | cons a r =>
    cases q' : cls n h y with
    | nil => exact absurd q' (cls_ne hy)
    | cons b r' =>
      rw [q, q'] at z1 ne
      have ne' : a ≠ b := ne
      have z1' : (if ((b : Nat) : Int) = (a : Nat) then HT.lexLt (zs r') (zs r) else decide (((b : Nat) : Int) < (a : Nat))) = false := z1
      rw [if_neg (by omega)] at z1'
      have := of_decide_eq_false z1'
      show a < b
      omega
theorem key_eq : ∀ {l m : List (List Nat)}, l.Pairwise (fun a b => a.headD 0 < b.headD 0) → m.Pairwise (fun a b => a.headD 0 < b.headD 0) → (∀ x, x ∈ l ↔ x ∈ m) → l = m
  | [], [], _, _, _ => rfl
  | [], b :: m, _, _, h => absurd ((h b).mpr (by simp)) (by simp)
  | a :: l, [], _, _, h => absurd ((h a).mp (by simp)) (by simp)
  | a :: l, b :: m, hl, hm, h => by
    obtain ⟨h1, h2⟩ := List.pairwise_cons.mp hl
    obtain ⟨h3, h4⟩ := List.pairwise_cons.mp hm
    have e : a = b := by
      rcases List.mem_cons.mp ((h a).mp (by simp)) with e | q
      · exact e
      · rcases List.mem_cons.mp ((h b).mpr (by simp)) with e | r
        · exact e.symm
        · have := h1 b r
          have := h3 a q
          omega
    subst e
    rw [key_eq h2 h4 fun x => ?_]
    constructor
    · intro q
      rcases List.mem_cons.mp ((h x).mp (by simp [q])) with e | r
      · have := h1 x q
        rw [e] at this
        omega
      · exact r
    · intro q
      rcases List.mem_cons.mp ((h x).mpr (by simp [q])) with e | r
      · have := h3 x q
        rw [e] at this
        omega
      · exact r
theorem Lots.uniq {n : Nat} {h h' : Nat → Nat} {ls ls' : List (List Nat)} (a : Lots n h ls) (b : Lots n h' ls') (r : ∀ x y, x < n → y < n → (h x = h y ↔ h' x = h' y)) : ls = ls' :=
  key_eq a.ord b.ord fun x => ((a.is.rel r).mem x).trans (b.is.mem x).symm
end LH
/-! LhG -/
set_option Elab.async false
set_option linter.all false
set_option maxRecDepth 100000
set_option maxHeartbeats 4000000
namespace LH
open PySem PySem.Spec PyProof.Rows L2
def kvsOf (G : List (Nat × Addr)) : List (Key × V) := G.map fun p => ((Sum.inl ((p.1 : Nat) : Int) : Key), V.ref p.2)
theorem valG (k : Nat) : ∀ G : List (Nat × Addr), valV (kvsOf G) (Sum.inl ((k : Nat) : Int)) = (G.find? fun p => decide (p.1 = k)).map fun p => V.ref p.2
  | [] => rfl
  | p :: G => by
    show valV (((Sum.inl ((p.1 : Nat) : Int) : Key), V.ref p.2) :: kvsOf G) _ = _
    by_cases e : p.1 = k
    · rw [valV_pos (by rw [e]), List.find?_cons_of_pos (by simpa using e)]
      rfl
    · rw [valV_neg (p := ((Sum.inl ((p.1 : Nat) : Int) : Key), V.ref p.2)) (show ¬ (Sum.inl ((p.1 : Nat) : Int) : Key) = Sum.inl ((k : Nat) : Int) from fun z => e (Int.ofNat.inj (Sum.inl.inj z))), List.find?_cons_of_neg (by simpa using e), valG k G]
theorem nodup_inj {α β : Type} {f : α → β} : ∀ {G : List α}, (G.map f).Nodup → ∀ p ∈ G, ∀ q ∈ G, f p = f q → p = q
  | [], _, p, hp, _, _, _ => absurd hp (by simp)
  | a :: G, hn, p, hp, q, hq, e => by
    obtain ⟨h1, h2⟩ := List.nodup_cons.mp (show (f a :: G.map f).Nodup from hn)
    rcases List.mem_cons.mp hp with ep | hp <;> rcases List.mem_cons.mp hq with eq | hq
    · rw [ep, eq]
    · rw [ep] at e
      exact absurd (List.mem_map.mpr ⟨q, hq, e.symm⟩) h1
    · rw [eq] at e
      exact absurd (List.mem_map.mpr ⟨p, hp, e⟩) h1
    · exact nodup_inj h2 p hp q hq e
structure Grp (h : Nat → Nat) (i : Nat) (H0 H : Hp) (d : Addr) (G : List (Nat × Addr)) : Prop where
  same : Same H0 H
  dct : H d = some (.dK (kvsOf G))
  keys : (G.map (·.1)).Nodup
  adrs : (G.map (·.2)).Nodup
  lst : ∀ p ∈ G, H p.2 = some (.lst (iv ((List.range i).filter fun y => decide (h y = p.1))))
  new : ∀ p ∈ G, H0 p.2 = none
  has : ∀ x, x < i → h x ∈ G.map (·.1)
  use : ∀ p ∈ G, ∃ x, x < i ∧ h x = p.1
theorem Grp.len {h : Nat → Nat} {i : Nat} {H0 H : Hp} {d : Addr} {G : List (Nat × Addr)} (g : Grp h i H0 H d G) : G.length ≤ i := by
  have := nodup_le g.keys (m := (List.range i).map h) fun k hk => by
    obtain ⟨p, hp, rfl⟩ := List.mem_map.mp hk
    obtain ⟨x, hx, e⟩ := g.use p hp
    exact List.mem_map.mpr ⟨x, List.mem_range.mpr hx, e⟩
  simpa using this
theorem filt_yes {h : Nat → Nat} {i k : Nat} (e : h i = k) : (List.range (i + 1)).filter (fun y => decide (h y = k)) = (List.range i).filter (fun y => decide (h y = k)) ++ [i] := by
  rw [List.range_succ, List.filter_append]
  simp [e]
theorem filt_no {h : Nat → Nat} {i k : Nat} (e : h i ≠ k) : (List.range (i + 1)).filter (fun y => decide (h y = k)) = (List.range i).filter (fun y => decide (h y = k)) := by
  rw [List.range_succ, List.filter_append]
  simp [e]
theorem Grp.old {h : Nat → Nat} {i : Nat} {H0 H H3 : Hp} {d : Addr} {G : List (Nat × Addr)} (g : Grp h i H0 H d G) (s3 : Same H H3) {p0 : Nat × Addr} (hp0 : p0 ∈ G) (e0 : p0.1 = h i) :
    Grp h (i + 1) H0 (upd H3 p0.2 (.lst (iv ((List.range i).filter fun y => decide (h y = p0.1)) ++ [.int (i : Nat)]))) d G := by
  have nd : d ≠ p0.2 := ne_of g.dct (g.lst p0 hp0) (fun z => by cases z)
  refine ⟨same_own (g.same.trans s3) (g.new p0 hp0), by rw [upd_ne nd]; exact s3 _ _ g.dct, g.keys, g.adrs, fun p hp => ?_, g.new, fun x hx => ?_, fun p hp => ?_⟩
  · by_cases e : p.2 = p0.2
    · have ep := nodup_inj g.adrs p hp p0 hp0 e
      subst ep
      rw [upd_same, filt_yes e0.symm, iv_app]
      rfl
    · rw [upd_ne e, s3 _ _ (g.lst p hp), filt_no]
      intro z
      exact e (congrArg (·.2) (nodup_inj g.keys p hp p0 hp0 (z.symm.trans e0.symm)))
  · by_cases e : x = i
    · rw [e, ← e0]
      exact List.mem_map.mpr ⟨p0, hp0, rfl⟩
    · exact g.has x (by omega)
  · obtain ⟨x, hx, e⟩ := g.use p hp
    exact ⟨x, by omega, e⟩
theorem Grp.fresh {h : Nat → Nat} {i : Nat} {H0 H H3 : Hp} {d t : Addr} {G : List (Nat × Addr)} (g : Grp h i H0 H d G) (s3 : Same H H3) (hno : h i ∉ G.map (·.1)) (nt : H t = none) (nd0 : H0 d = none) (ht : H3 t = some (.lst [])) :
    Grp h (i + 1) H0 (upd (upd H3 d (.dK (kvsOf (G ++ [(h i, t)])))) t (.lst ([] ++ [.int (i : Nat)]))) d (G ++ [(h i, t)]) := by
  have ntd : d ≠ t := ne_of_none g.dct nt
  have nta : ∀ p ∈ G, p.2 ≠ t := fun p hp => ne_of_none (g.lst p hp) nt
  have ntp : ∀ p ∈ G, p.2 ≠ d := fun p hp => ne_of (g.lst p hp) g.dct (fun z => by cases z)
  refine ⟨same_own (same_own (g.same.trans s3) nd0) (g.same.free nt), by rw [upd_ne ntd, upd_same], ?_, ?_, fun p hp => ?_, fun p hp => ?_, fun x hx => ?_, fun p hp => ?_⟩
  · rw [List.map_append]
    refine List.nodup_append.mpr ⟨g.keys, by simp, fun a h1 b h2 e => ?_⟩
    have : b = h i := by simpa using h2
    rw [e, this] at h1
    exact hno h1
  · rw [List.map_append]
    refine List.nodup_append.mpr ⟨g.adrs, by simp, fun a h1 b h2 e => ?_⟩
    have eb : b = t := by simpa using h2
    obtain ⟨p, hp, ep⟩ := List.mem_map.mp h1
    exact nta p hp (ep.trans (e.trans eb))
  · rcases List.mem_append.mp hp with hp | hp
    · rw [upd_ne (nta p hp), upd_ne (ntp p hp), s3 _ _ (g.lst p hp), filt_no]
      intro z
      exact hno (z ▸ List.mem_map.mpr ⟨p, hp, rfl⟩)
    · have ep : p = (h i, t) := by simpa using hp
      subst ep
      rw [upd_same, filt_yes rfl]
      have e0 : (List.range i).filter (fun y => decide (h y = h i)) = [] := List.filter_eq_nil_iff.mpr fun y hy z => by
        have z' : h y = h i := by simpa using z
        exact hno (z' ▸ g.has y (List.mem_range.mp hy))
      rw [e0]
      rfl
  · rcases List.mem_append.mp hp with hp | hp
    · exact g.new p hp
    · have ep : p = (h i, t) := by simpa using hp
      subst ep
      exact g.same.free nt
  · rw [List.map_append]
    by_cases e : x = i
    · exact List.mem_append_right _ (by simp [e])
    · exact List.mem_append_left _ (g.has x (by omega))
  · rcases List.mem_append.mp hp with hp | hp
    · obtain ⟨x, hx, e⟩ := g.use p hp
      exact ⟨x, by omega, e⟩
    · have ep : p = (h i, t) := by simpa using hp
      subst ep
      exact ⟨i, by omega, rfl⟩
/-- the groups are the lots -/
theorem Grp.lots {h : Nat → Nat} {n : Nat} {H0 H : Hp} {d : Addr} {G : List (Nat × Addr)} (g : Grp h n H0 H d G) : IsLots n h (G.map fun p => (List.range n).filter fun y => decide (h y = p.1)) := by
  have e : ∀ p ∈ G, ∃ x, x < n ∧ h x = p.1 ∧ (List.range n).filter (fun y => decide (h y = p.1)) = cls n h x := fun p hp => by
    obtain ⟨x, hx, e⟩ := g.use p hp
    exact ⟨x, hx, e, by unfold cls; rw [e]⟩
  refine ⟨?_, fun l => ?_⟩
  · rw [List.nodup_iff_pairwise_ne, List.pairwise_map]
    have hk := List.pairwise_map.mp (List.nodup_iff_pairwise_ne.mp g.keys)
    refine List.Pairwise.imp_of_mem (fun {p q} hp hq hne z => ?_) hk
    obtain ⟨x, hx, e1, e2⟩ := e p hp
    obtain ⟨y, hy, e3, e4⟩ := e q hq
    rw [e2, e4] at z
    exact hne (e1.symm.trans (((cls_eq hx).mp z).trans e3))
  · rw [List.mem_map]
    constructor
    · rintro ⟨p, hp, rfl⟩
      obtain ⟨x, hx, e1, e2⟩ := e p hp
      exact ⟨x, hx, e2⟩
    · rintro ⟨x, hx, rfl⟩
      obtain ⟨p, hp, e1⟩ := List.mem_map.mp (g.has x hx)
      refine ⟨p, hp, ?_⟩
      unfold cls
      rw [← e1]
/-- a list of lots -/
def LotsAt (K : PySem.W.Frag) (H : Hp) (p : Addr) (ls : List (List Nat)) : Prop := ∃ L : List (Addr × List Nat), SqL K H p (L.map fun q => V.ref q.1) ∧ L.map (·.2) = ls ∧ ∀ q ∈ L, SqT K H q.1 (iv q.2)
theorem LotsAt.same {K : PySem.W.Frag} {H H' : Hp} {p : Addr} {ls : List (List Nat)} (e : Same H H') (h : LotsAt K H p ls) : LotsAt K H' p ls := by
  obtain ⟨L, h1, h2, h3⟩ := h
  exact ⟨L, e.seq h1, h2, fun q hq => same_tup e (h3 q hq)⟩
section
variable {P : Program} {w : World} {K : PySem.W.Frag} {mg : Str → Option Value} {base : Heap}
theorem sc17 : FnScope ["ups", "lots", "x", "head"] ["ups"] (defScope (top 17)) := ⟨rfl, rfl, rfl, by decide +kernel, rfl, by decide +kernel, by decide +kernel⟩
def sp17 (K : PySem.W.Frag) : Sp := fun vs H Q _ => ∃ (u : Addr) (n k : Nat) (ups : List Nat), vs = [.ref u] ∧ SqT K H u (iv ups) ∧ Fo n k ups ∧ k ≤ 900 ∧ 1 ≤ n ∧ n ≤ 40 ∧
  ∀ (H' : Hp) (p : Addr) (ls : List (List Nat)), Same H H' → LotsAt K H' p ls → Lots n (hd ups) ls → Q (.ref p) H'
theorem ok17 (D : Df K mg "lots_of" (top 17) ["ups"]) (T : Tx K mg) (c14 : Ca P w K mg base 1 "ends_at" (sp14 K)) (c16 : Ca P w K mg base 3 "check_forest" (sp16 K)) : Ca P w K mg base 4 "lots_of" (sp17 K) := by
  refine D.ca sc17 (fun vs H Q E h => ?_) (fun f cdv A outer s H vs Q E hr h => ?_)
  · obtain ⟨u, n, k, ups, rfl, _⟩ := h
    rfl
  · obtain ⟨u, n, k, ups, rfl, hU, F, hk, hn1, hn40, q⟩ := h
    have nd := sc17.nd
    have hlen : (iv ups).length = n := by rw [iv_len, F.len]
    have hu := hu_of hr
    refine ⟨_, pss_cons (ps_expr (pc c16 hr (pa_cons (pv 0) pa_nil)))
      (pss_cons (ps_set (i := 1) nd rfl (.inr rfl) pe_dnewK)
      (pss_cons (ps_for PassesOwn.never rfl (pi_range1 (by rfl) T.rng (pa_cons (plen (K := K) T.len (pv 0)) pa_nil)) (pg_name (i := 2) nd rfl (.inl rfl))
        (pss_one (ps_expr (pe_bm PySem.F.plainAttrs_list PySem.F.slot_list_append PySem.F.type_list_append mt_append
          (pe_dsetd (pv 1) (pil (K := K) (pc c14 hr (pa_cons (pv 0) (pa_cons (pv 2) pa_nil))) (pe_un un_neg pe_int)) (pe_lst pa_nil) ⟨by rfl, by rfl, by rfl, by rfl⟩) (pa_cons (pv 2) pa_nil)))))
      (pss_one (ps_ret (pe_callB cr_sortL (by rfl) T.srt (by decide +kernel) (pa_cons (pe_lock (pe_lc (own := [("head", 3)]) (g := gName 3) (tt := tYes) rfl nd (pi_keys (pv 1)) (blkOk_by (N := ["ups", "lots", "x", "head"]) (sc := defScope (top 17)) (by decide +kernel))
          (fun _ _ _ _ _ => pg_name (i := 3) nd rfl (.inl rfl)) (fun _ _ _ _ _ => pts_nil) (fun _ _ _ _ _ => ptup (K := K) T.tup (pe_dget hu (pv 1) (pv 3) (fun _ _ => rfl))))) pa_nil)))))), ?_⟩
    refine ⟨_, rfl, u, n, k, ups, rfl, hU, F, hk, hn1, hn40, fun H0 s0 => ?_⟩
    refine fun d nd0 => ?_
    have ndH : H d = none := s0.free nd0
    refine ⟨_, rfl, u, _, rfl, .inr (same_tup (s0.trans (same_new nd0)) hU), _, rfl, by rw [hlen]; omega, by rw [hlen]; omega, ?_⟩
    rw [hlen, Int.toNat_natCast]
    refine for_range (lo := 0) (n := n) (fun i σ H' => ∃ (y : Option V) (G : List (Nat × Addr)), σ = [some (.ref u), some (.ref d), y, none] ∧ Grp (hd ups) i H H' d G) ⟨none, [], rfl, same_own s0 ndH, upd_same, List.nodup_nil, List.nodup_nil, fun p hp => absurd hp (by simp), fun p hp => absurd hp (by simp), fun x hx => absurd hx (by omega), fun p hp => absurd hp (by simp)⟩ ?_ ?_
    · rintro i σ H1 hi ⟨y, G, rfl, g⟩
      rw [Int.zero_add]
      have gl := g.len
      refine ⟨_, rfl, d, rfl, .inl ⟨_, .inl g.dct⟩, _, rfl, _, rfl, u, i, n, k, ups, rfl, same_tup g.same hU, F, hk, hi, fun H2 p ws s2 np hp => ?_⟩
      have last : atI (iv (ws ++ [hd ups i])) (-1) = some (.int (hd ups i : Nat)) := by rw [iv_app]; exact atI_last _ _
      refine ⟨1, rfl, p, _, -1, _, rfl, rfl, SqL.of hp, last, Nat.zero_le _, fun t nt => ?_⟩
      have s3 : Same H1 (upd H2 t (.lst [])) := s2.trans (same_new nt)
      have ht : (upd H2 t (.lst [])) t = some (.lst []) := upd_same
      have ntH : H1 t = none := s2.free nt
      generalize upd H2 t (.lst []) = H3 at s3 ht
      refine ⟨kvsOf G, Sum.inl ((hd ups i : Nat) : Int), s3 _ _ g.dct, rfl, by unfold kvsOf; rw [List.length_map]; exact sz (by omega), fun v hv => ?_, fun hv => ?_⟩
      · rw [valG] at hv
        cases e : G.find? fun p => decide (p.1 = hd ups i) with
        | none => rw [e] at hv; cases hv
        | some p0 =>
          rw [e] at hv
          have ev : V.ref p0.2 = v := Option.some.inj hv
          subst ev
          have hp0 := List.mem_of_find?_eq_some e
          have e0 : p0.1 = hd ups i := by simpa using List.find?_some e
          have hl := s3 _ _ (g.lst p0 hp0)
          refine ⟨.inl ⟨rfl, _, SqL.of hl⟩, _, rfl, p0.2, _, _, rfl, rfl, hl, ?_, some (.int (i : Nat)), G, rfl, g.old s3 hp0 e0⟩
          rw [iv_len]
          exact sz (Nat.le_trans (List.length_filter_le _ _) (by rw [List.length_range]; omega))
      · have hno : hd ups i ∉ G.map (·.1) := fun hm => by
          obtain ⟨p0, hp0, e0⟩ := List.mem_map.mp hm
          rw [valG] at hv
          have e := Option.map_eq_none_iff.mp hv
          exact absurd (List.find?_eq_none.mp e p0 hp0) (by simp [e0])
        have ek : putK (kvsOf G) (Sum.inl ((hd ups i : Nat) : Int)) (V.ref t) = kvsOf (G ++ [(hd ups i, t)]) := by
          rw [putK_new _ hv]
          unfold kvsOf
          rw [List.map_append]
          rfl
        rw [ek]
        have ntd : t ≠ d := (ne_of_none g.dct ntH).symm
        have ht' : (upd H3 d (.dK (kvsOf (G ++ [(hd ups i, t)])))) t = some (.lst []) := by rw [upd_ne ntd]; exact ht
        exact ⟨.inl ⟨rfl, _, SqL.of ht'⟩, _, rfl, t, _, _, rfl, rfl, ht', sz (by show 0 ≤ 100000; decide), some (.int (i : Nat)), G ++ [(hd ups i, t)], rfl, g.fresh s3 hno ntH ndH ht⟩
    · rintro σ H1 ⟨y, G, rfl, g⟩
      have gl := g.len
      -- the lots as tuples, the dict locked
      refine ⟨d, _, g.dct, trivial, fun od => ?_⟩
      have dl : ∀ p ∈ G, p.2 ≠ d := fun p hp => ne_of (g.lst p hp) g.dct (fun z => by cases z)
      refine ⟨_, rfl, d, od, rfl, .inl ⟨_, upd_same, fun D nD => ?_⟩⟩
      have nDd : D ≠ d := (upd_none' nD).1
      have nD1 : H1 D = none := (upd_none' nD).2
      have fl : ∀ p ∈ G, ∃ x, x < n ∧ (List.range n).filter (fun y => decide (hd ups y = p.1)) = cls n (hd ups) x := fun p hp => by
        obtain ⟨x, hx, e⟩ := g.use p hp
        exact ⟨x, hx, by unfold cls; rw [e]⟩
      refine lc_it walk_keys (fun i H' => ∃ L : List (Addr × List Nat), H' d = some (.frz od (.dK (kvsOf G))) ∧ (∀ b o, H1 b = some o → b ≠ d → H' b = some o) ∧ H' D = some (.lst (L.map fun q => V.ref q.1)) ∧ L.map (·.2) = (G.take i).map (fun p => (List.range n).filter fun y => decide (hd ups y = p.1)) ∧ ∀ q ∈ L, SqT K H' q.1 (iv q.2))
        ⟨[], by rw [upd_ne (Ne.symm nDd), upd_same], fun b o e hb => by rw [upd_ne (ne_of_none e nD1), upd_ne hb]; exact e, upd_same, rfl, fun q hq => absurd hq (by simp)⟩ (fun i H' _ ⟨L, h, _⟩ => h) ?_ ?_
      · rintro i x H2 H2' hi ⟨L, c1, c2, c3, c4, c5⟩ ⟨rfl, kk, vv, ek, rfl⟩
        have hiG : i < G.length := by
          have : (kvsOf G).length = G.length := by unfold kvsOf; rw [List.length_map]
          omega
        have ek' : kk = Sum.inl ((G[i].1 : Nat) : Int) := by
          unfold kvsOf at ek
          rw [List.getElem?_map, List.getElem?_eq_getElem hiG] at ek
          exact (congrArg Prod.fst (Option.some.inj ek)).symm
        subst ek'
        have hm : G[i] ∈ G := List.getElem_mem hiG
        have hv : valV (kvsOf G) (Sum.inl ((G[i].1 : Nat) : Int)) = some (V.ref G[i].2) := by
          rw [valG]
          cases e : G.find? fun p => decide (p.1 = G[i].1) with
          | none => exact absurd (List.find?_eq_none.mp e _ hm) (by simp)
          | some p0 =>
            have h0 : p0.1 = G[i].1 := by simpa using List.find?_some e
            rw [nodup_inj g.keys p0 (List.mem_of_find?_eq_some e) _ hm h0]
            rfl
        refine ⟨rfl, yes ?_⟩
        refine ⟨_, rfl, _, rfl, d, _, rfl, .inl ⟨_, _, .inr ⟨od, c1⟩, rfl, hv.symm⟩, ?_⟩
        have hl := c2 _ _ (g.lst _ hm) (dl _ hm)
        refine .inl ⟨_, _, rfl, SqL.of hl, fun t nt => ?_⟩
        have st : Same H2' (upd H2' t (.tup (iv ((List.range n).filter fun y => decide (hd ups y = G[i].1))))) := same_new nt
        have ntD : D ≠ t := ne_of_none c3 nt
        have ntd : d ≠ t := ne_of_none c1 nt
        refine ⟨_, st _ _ c3, ?_, L ++ [(t, (List.range n).filter fun y => decide (hd ups y = G[i].1))], ?_, fun b o e hb => ?_, ?_, ?_, fun q hq => ?_⟩
        · have := congrArg List.length c4
          rw [List.length_map, List.length_map, List.length_take] at this
          rw [List.length_map]
          exact sz (by omega)
        · rw [upd_ne (Ne.symm nDd), upd_ne ntd]
          exact c1
        · rw [upd_ne (ne_of_none e nD1)]
          exact st _ _ (c2 b o e hb)
        · rw [upd_same, List.map_append]
          rfl
        · rw [List.map_append, c4, List.take_add_one, List.getElem?_eq_getElem hiG, List.map_append]
          rfl
        · refine sqt_lst (st _ _ c3) ?_
          rcases List.mem_append.mp hq with hq | hq
          · exact same_tup st (c5 q hq)
          · have eq : q = (t, (List.range n).filter fun y => decide (hd ups y = G[i].1)) := by simpa using hq
            rw [eq]
            exact SqT.of upd_same
      · rintro H2 ⟨L, c1, c2, c3, c4, c5⟩
        have hG : (kvsOf G).length = G.length := by unfold kvsOf; rw [List.length_map]
        rw [hG, List.take_length] at c4
        refine ⟨c1, ?_⟩
        have s2 : Same H (upd H2 d (.dK (kvsOf G))) := fun b o e => by
          have hb : b ≠ d := fun z => by rw [z, ndH] at e; cases e
          rw [upd_ne hb]
          exact c2 b o (g.same b o e) hb
        have hD : (upd H2 d (.dK (kvsOf G))) D = some (.lst (L.map fun q => V.ref q.1)) := by rw [upd_ne nDd]; exact c3
        have hL : ∀ q ∈ L, SqT K (upd H2 d (.dK (kvsOf G))) q.1 (iv q.2) := fun q hq => sqt_upd (fun ys z => by rw [c1] at z; cases z) (fun u ys z => by rw [c1] at z; cases z) (c5 q hq)
        have il : IsLots n (hd ups) (L.map (·.2)) := by rw [c4]; exact g.lots
        refine ⟨D, L, rfl, SqL.of hD, fun q' hq => ⟨hL q' hq, fun z => ?_⟩, fun L' p pm so np => ?_⟩
        · obtain ⟨x, hx, e⟩ := (il.mem q'.2).mp (List.mem_map.mpr ⟨q', hq, rfl⟩)
          exact cls_ne hx (e.symm.trans z)
        · refine q _ p (L'.map (·.2)) (s2.trans (same_new np)) ⟨L', SqL.of upd_same, rfl, fun q' hq => same_tup (same_new np) (hL q' (pm.mem_iff.mp hq))⟩ (Lots.of (il.perm (pm.map _)) ?_)
          exact List.pairwise_map.mpr so
end
end LH
/-! LhL -/
set_option Elab.async false
set_option linter.all false
set_option maxRecDepth 100000
set_option maxHeartbeats 1000000
/-! LhL: a lambda of one parameter handed to a def that calls it. -/
namespace LH
open PySem PySem.Spec PyProof.Rows L2 LamX
/-- one parameter p; the rest captured or global -/
structure LamP (sc scope : Scope) (p : Str) : Prop where
  kind : scope.kind = .function
  co : scope.isCoroutine = false
  gen : scope.isGenerator = false
  nocell : ∀ y ∈ scope.names, y.2 ≠ .cell
  own : ∀ y ∈ scope.names, y.2 = .local → y.1 = p
  par : scope.names.lookup p = some .local
  free : ∀ y ∈ scope.names, y.2 = .free → sc.names.lookup y.1 = some .cell ∨ sc.names.lookup y.1 = some .free
def lamPB (sc scope : Scope) (p : Str) : Bool :=
  decide (scope.kind = .function) && !scope.isCoroutine && !scope.isGenerator && decide (scope.names.lookup p = some .local) && scope.names.all fun y => !decide (y.2 = .cell) && (!decide (y.2 = .local) || decide (y.1 = p)) && (!decide (y.2 = .free) || decide (sc.names.lookup y.1 = some .cell) || decide (sc.names.lookup y.1 = some .free))
theorem lamP_by {sc scope : Scope} {p : Str} (h : lamPB sc scope p = true) : LamP sc scope p := by
  unfold lamPB at h
  simp only [Bool.and_eq_true, Bool.or_eq_true, Bool.not_eq_true', decide_eq_true_eq, decide_eq_false_iff_not, List.all_eq_true] at h
  obtain ⟨⟨⟨⟨h1, h2⟩, h3⟩, h5⟩, h4⟩ := h
  refine ⟨h1, h2, h3, fun y hy => (h4 y hy).1.1, fun y hy e => ?_, h5, fun y hy e => ?_⟩
  · rcases (h4 y hy).1.2 with z | z
    · exact absurd e z
    · exact z
  · rcases (h4 y hy).2 with (z | z) | z
    · exact absurd e z
    · exact .inl z
    · exact .inr z
theorem LamP.has {X : Cx} {scope : Scope} {p : Str} (L : LamP X.env.scope scope p) (ok : X.Ok) : ∀ y ∈ scope.names, y.2 = .free → ∃ c, X.env.cells.lookup y.1 = some c := fun y hy e => by
  rcases L.free y hy e with k | k
  · exact ok.has _ (.inl k)
  · exact ok.has _ (.inr k)
/-- the context of the lambda's body -/
def lamC1 (X : Cx) (p : Str) (A : Around) (outer : List Env) (s : Shared) (H : Hp) (scope : Scope) (f c' : Addr) : Cx where
  prog := X.prog
  w := X.w
  K := X.K
  mg := X.mg
  base := X.base
  A := A.deeper (lamEnv X scope s.heap.objs.size f c')
  N := p :: X.N
  s_0 := s
  H_0 := H
  env := lamEnv X scope s.heap.objs.size f c'
  outer := outer
  stack := lamEnv X scope s.heap.objs.size f c' :: outer
  ex := []
  fn := fun _ => false
  calm := true
  pn := []
  xe := fun _ _ => False
section
variable {X : Cx} {pins : List (Addr × Obj)} {σ : L2.St} {H HZ : Hp} {s s1 : Shared} {p : Str}
theorem lam_start1 {A : Around} {outer : List Env} {scope : Scope} {f c' : Addr} {h₁ : Heap} {tk : Nat} {v : V} {u : Value} (I : Inv X pins σ H s) (L : LamP X.env.scope scope p) (hp : p ∉ X.N) (e0 : Env0 X.prog X.w X.K X.mg X.base A outer s1 HZ) (hd : A.handled = none)
    (un : Un (frs X.stack) [] H HZ s.heap s1.heap) (r : RelV v u) (hns : h₁.Ns s1.heap.objs.size fun y => ([(p, u)] : List (Str × Value)).reverse.lookup y) (kp : ∀ b o, s1.heap.get? b = some o → h₁.get? b = some o) :
    Inv (lamC1 X p A outer s1 HZ scope f c') [] (some v :: σ) HZ { s1 with heap := h₁, toks := tk } := by
  have hfree := L.has I.ok
  have cm : ∀ {y c}, (cloFrom X.env.cells scope.names []).lookup y = some c → X.env.cells.lookup y = some c := fun {y c} e => by
    rcases cloFrom_mem (PySem.mem_of_lookup e) with hm | ⟨h1, h2⟩
    · cases hm
    · obtain ⟨c1, hc⟩ := hfree _ h1 rfl
      have hc : X.env.cells.lookup y = some c1 := hc
      have e2 : c = c1 := by
        rw [h2, hc] <;> rfl
      rw [e2]
      exact hc
  have look : ∀ {y}, scope.names.lookup y = some .free → ∃ c, (cloFrom X.env.cells scope.names []).lookup y = some c := fun {y} hl => by
    have hy : (y, NameKind.free) ∈ scope.names := PySem.mem_of_lookup hl
    exact mem_lookup (cloFrom_has (cells := X.env.cells) (acc := []) hy)
  have cellK : ∀ {c : Addr} {v : Option Value}, H c = none → s.heap.IsCell c v → h₁.IsCell c v := fun {c v} n ⟨o, ho, hd⟩ => by
    obtain ⟨sl, q⟩ := un.any ho n (by simp)
    exact ⟨_, kp _ _ q, hd⟩
  have noA : ∀ b : Addr, b ∉ (lamC1 X p A outer s1 HZ scope f c').ex := fun b z => absurd (show b ∈ ([] : List Addr) from z) (by simp)
  refine ⟨⟨e0.mod, L.kind, rfl, rfl, Nat.le_refl _, fun y z c e1 e2 => I.ok.inj y z c (cm e1) (cm e2), fun y hy => ?_, fun y c z _ => ?_, fun _ => hd, Around.frames_deeper e0.frames, .inr ⟨rfl, rfl⟩, fun b z => absurd z (noA b), e0.bs, e0.bsz, fun b _ _ => noA b,
      fun b z => absurd z (noA b), e0.funs, e0.frf⟩,
    rfl, e0.bare, Un.kept kp, ⟨_, hns, fun i y v' e1 e2 e3 => ?_⟩, fun y c e => ?_, e0.hok.fresh (Nat.le_refl _), fun y c e => ?_, fun q hq => absurd (show q ∈ ([] : List (Addr × Obj)) ++ [] from hq) (by simp), e0.hok.kept kp, by show (some v :: σ).length = (p :: X.N).length; rw [List.length_cons, List.length_cons, I.len]⟩
  · have hy : scope.names.lookup y = some .cell ∨ scope.names.lookup y = some .free := hy
    rcases hy with hy | hy
    · exact absurd rfl (L.nocell _ (PySem.mem_of_lookup hy))
    · exact look hy
  · have z : false = true := z
    cases z
  · have e3 : Vis scope y := e3
    cases i with
    | zero =>
      have ey : y = p := (Option.some.inj (show some p = some y from e1)).symm
      have ev : v = v' := Option.some.inj (Option.some.inj (show some (some v) = some (some v') from e2))
      subst ey ev
      refine ⟨u, r, .inl ⟨L.par, ?_⟩⟩
      show ([(y, u)] : List (Str × Value)).reverse.lookup y = some u
      simp [List.lookup]
    | succ i =>
      have e1 : X.N[i]? = some y := e1
      have e2 : σ[i]? = some (some v') := e2
      have yp : y ≠ p := fun z => hp (z ▸ List.mem_of_getElem? e1)
      rcases e3 with k | k | k
      · exact absurd (L.own _ (PySem.mem_of_lookup k) rfl) yp
      · exact absurd rfl (L.nocell _ (PySem.mem_of_lookup k))
      · obtain ⟨m, hn, hl⟩ := I.loc
        have hvis : Vis X.env.scope y := (L.free _ (PySem.mem_of_lookup k) rfl).elim (fun k => .inr (.inl k)) (fun k => .inr (.inr k))
        obtain ⟨w', r', q⟩ := hl i y v' e1 e2 hvis
        obtain ⟨c2, h2⟩ := look k
        refine ⟨w', r', .inr ⟨.inr k, c2, h2, ?_⟩⟩
        have c1 := cm h2
        rcases q with ⟨k', _⟩ | ⟨_, c3, e', z⟩
        · have k' : X.env.scope.names.lookup y = some .local := k'
          rcases L.free _ (PySem.mem_of_lookup k) rfl with k2 | k2 <;> rw [show X.env.scope.names.lookup y = _ from k2] at k' <;> cases k'
        · rw [c1] at e'
          cases e'
          exact cellK (I.freeC y _ c1) z
  · obtain ⟨w', z⟩ := I.cell y c (cm e)
    exact ⟨w', cellK (I.freeC y c (cm e)) z⟩
  · obtain ⟨v', o, ho, hd⟩ := I.cell y c (cm e)
    exact un.free c o ho (I.freeC y c (cm e)) (by simp)
def one1 (P : V → Prop) : List V → Prop
  | [v] => P v
  | _ => False
theorem one_of {P : V → Prop} : ∀ {vs : List V}, one1 P vs → ∃ v, vs = [v] ∧ P v
  | [], h => h.elim
  | [v], h => ⟨v, rfl, h⟩
  | _ :: _ :: _, h => h.elim
/-- a(e), in the def that got the lambda -/
theorem pe_act1 {Ng : List Str} {qg : Str} {sg : Scope} {g f c' : Addr} {cdg pm ctv : Value} {params : Arguments} {body : Expr} {scope : Scope} {k i : Nat} {a : Str} {tb : TE} {p1 p2 : Pos} {e : Expr} {te : TE}
    (I : Inv X pins σ H s) (L : LamP X.env.scope scope p) (hp : p ∉ X.N) (hf : s.heap.get? f = some (PySem.W.kla_obj "<lambda>" (X.env.qual ++ "<lambda>") params body scope (cloFrom X.env.cells scope.names []) pm c' ctv)) (hfn : H f = none) (hfr : f ∉ frs X.stack)
    (hbind : ∀ u : Value, bindArgs (PySem.W.kla_fn "<lambda>" (X.env.qual ++ "<lambda>") params body scope (cloFrom X.env.cells scope.names []) pm (.ref c') ctv) ⟨[u], []⟩ = pure [(p, u)])
    (hr : Room (k + 1) (X.A.deeper (envOfC qg sg s.heap.objs.size g cdg)))
    (hbody : ∀ (A : Around) (outer : List Env) (s : Shared) (H : Hp), Room k (A.deeper (lamEnv X scope s.heap.objs.size f c')) → PE (lamC1 X p A outer s H scope f c') body tb)
    (hN : Ng[i]? = some a) (hv : Vis sg a) (he : PE (cxOf CX0 X.prog X.w X.K X.mg X.base Ng qg sg g cdg X.A X.stack s H E0).nox e te)
    (hst : ∀ env : Env, starEach [e] env = (false, eval e env) :: starEach [] env)
    (hd : (a == ("__debug__" : Str)) = false := by decide) (hcd : (a == ("__classdict__" : Str)) = false := by decide) :
    PE (cxOf CX0 X.prog X.w X.K X.mg X.base Ng qg sg g cdg X.A X.stack s H E0).nox (.Call (.Name a p1) [e] [] p2)
      (fun σZ HZ Q => σZ[i]? = some (some (.ref f)) ∧ te σZ HZ (fun v H1 => H1 c' = some (CodeO c' (X.env.qual ++ "<lambda>")) ∧ tb (some v :: σ) H1 Q)) := by
  refine ⟨fun pinsZ sZ σZ HZ Q IZ h => ?_⟩
  obtain ⟨hs, ht⟩ := h
  refine wpAny_Call_Name_kw (thn ((pe_var (pos := p1) (i := i) hN hv hd hcd).run pinsZ sZ σZ HZ (fun v H1 => v = .ref f ∧ H1 = HZ) IZ ⟨.ref f, hs, rfl, rfl⟩) fun u s1 ⟨v, H1, I1, r1, q1⟩ => ?_)
  obtain ⟨ev, eH⟩ := q1
  subst ev
  rw [eH] at I1
  obtain rfl : u = Value.ref f := r1
  have at_ : ∀ {s2 : Shared} {H2 : Hp} {σ2 : L2.St}, Inv (cxOf CX0 X.prog X.w X.K X.mg X.base Ng qg sg g cdg X.A X.stack s H E0).nox pinsZ σ2 H2 s2 → s2.heap.get? f = some (PySem.W.kla_obj "<lambda>" (X.env.qual ++ "<lambda>") params body scope (cloFrom X.env.cells scope.names []) pm c' ctv) :=
    fun I2 => I2.base.keep f _ hf hfn hfr (fun z => nomatch (show f ∈ ([] : List Addr) from z))
  refine PySem.W.callWith_F (first := []) ⟨_, _, _, _, at_ I1⟩ ?_ (hst _) rfl
  refine thn ((pa_cons he pa_nil (hst _)).run p2 pinsZ s1 σZ HZ (fun vs H1 => one1 (fun v => H1 c' = some (CodeO c' (X.env.qual ++ "<lambda>")) ∧ tb (some v :: σ) H1 Q) vs) I1 ht) fun us s2 ⟨vs, H2, I2, r2, q2⟩ => ⟨⟨_, _, _, _, at_ I2⟩, ?_⟩
  show wpAny _ _ (call (.ref f) us) _ _ _
  obtain ⟨v, rfl, hc, hq⟩ := one_of q2
  obtain ⟨u, rfl, rv⟩ := vals1 r2
  have of2 := at_ I2
  have un : Un (frs X.stack) [] H H2 s.heap s2.heap := I2.base
  obtain ⟨⟨oc, vs, t, hoc, hdc, hvc⟩, _, _⟩ := I2.hok c' _ hc
  have rc : codeAny (model X.prog X.w) (X.A.deeper (envOfC qg sg s.heap.objs.size g cdg)) (.call (.ref f) ⟨[u], []⟩) (CR CX0 (envOfC qg sg s.heap.objs.size g cdg :: X.stack) X.prog X.w H2 s2 Q E0) s2 := by
    refine PySem.W.kla_callFunE hr.depth of2 rfl L.co L.gen rfl ⟨c', oc, vs, t, rfl, hoc, hdc, hvc⟩ ?_
    rw [hbind u]
    refine wpAny_pure (wpAny_newFunctionEnv L.nocell (fun y hy => by rw [List.mem_singleton.mp hy]; exact L.par) (fun h₁ hns hsb => ⟨I2.nolimit.fresh _ hsb, ?_⟩) L.kind)
    show codeAny _ _ (.expr body (lamEnv X scope s2.heap.objs.size f c')) _ _
    have kp : ∀ b o, s2.heap.get? b = some o → h₁.get? b = some o := fun b o e => hsb.extBut b o (Nat.ne_of_lt (Heap.lt_size e)) (Heap.get?_push_of_some _ e)
    have J : Inv (lamC1 X p (X.A.deeper (envOfC qg sg s.heap.objs.size g cdg)) (envOfC qg sg s.heap.objs.size g cdg :: X.stack) s2 H2 scope f c') [] (some v :: σ) H2 { s2 with heap := h₁, toks := s2.toks + ([(p, u)] : List (Str × Value)).length } :=
      lam_start1 I L hp I2.env0 hr.hd un rv hns kp
    refine PySem.W.kla_codeExpr (wpAny_mono ((hbody _ _ s2 H2 (hr.deeper _)).run [] _ _ H2 Q J hq) (fun v s' hq => ?_) fun e s' hq => hq.elim)
    obtain ⟨w', H', J', rv, q⟩ := hq
    exact ⟨w', H', J'.os, J'.bare, J'.base, J'.hok, rv, q⟩
  refine wpAny_call (codeAny_mono rc fun r s' hq => ?_)
  cases r with
  | error e => exact (show False from hq).elim
  | ok fl =>
    cases fl with
    | ret u => exact I2.after hq
    | next => exact False.elim hq
    | brk => exact False.elim hq
    | cont => exact False.elim hq
end
end LH
/-! LhM -/
set_option Elab.async false
set_option linter.all false
set_option maxRecDepth 100000
set_option maxHeartbeats 1000000
/-! LhM: check_row with a lambda. -/
namespace LH
open PySem PySem.Spec PyProof.Rows L2 LamX
theorem sc40 : FnScope ["row", "looked", "number"] ["row", "looked"] (defScope (top 40)) := ⟨rfl, rfl, rfl, by decide +kernel, rfl, by decide +kernel, by decide +kernel⟩
section
variable {P : Program} {w : World} {K : PySem.W.Frag} {mg : Str → Option Value} {base : Heap}
theorem row_gives {g f c' row : Addr} {cdg : Value} {A : Around} {stack : List Env} {s : Shared} {H : Hp} {Q : VK} {q : Str} {tl : V → Hp → VK → Prop} {xs : List V} (T : Tx K mg)
    (act : ∀ {e : Expr} {te : TE} {p1 p2 : Pos}, PE (cxOf CX0 P w K mg base ["row", "looked", "number"] "check_row" (defScope (top 40)) g cdg A stack s H E0).nox e te → (∀ env : Env, starEach [e] env = (false, eval e env) :: starEach [] env) →
      PE (cxOf CX0 P w K mg base ["row", "looked", "number"] "check_row" (defScope (top 40)) g cdg A stack s H E0).nox (.Call (.Name "looked" p1) [e] [] p2) (fun σZ HZ Q => σZ[1]? = some (some (.ref f)) ∧ te σZ HZ (fun v H1 => H1 c' = some (CodeO c' q) ∧ tl v H1 Q)))
    (hR : SqT K H row xs) (hl : xs.length ≤ 1000) (hc : H c' = some (CodeO c' q)) (ht : ∀ (i : Nat) (x : V) (H' : Hp) (R : VK), Same H H' → xs[i]? = some x → (∀ H'', Same H' H'' → R (.bl true) H'') → tl x H' R) (hq : ∀ H', Same H H' → Q .non H') :
    ∃ t, PSs (cxOf CX0 P w K mg base ["row", "looked", "number"] "check_row" (defScope (top 40)) g cdg A stack s H E0).nox (defBody (top 40)) t ∧ t { nx := fun _ H' => Q .non H', rt := Q } (L2.start ["row", "looked", "number"] [.ref row, .ref f]) H := by
  have nd := sc40.nd
  refine ⟨_, pss_cons (ps_if (pt_not (pt_val (pe_isi T.isi T.tup boot_tuple (pv 0)))) (pss_one ps_never) pss_nil)
    (pss_one (ps_for PassesOwn.never rfl (pi_range1 (by rfl) T.rng (pa_cons (plen (K := K) T.len (pv 0)) pa_nil)) (pg_name (i := 2) nd rfl (.inl rfl)) (pss_one (ps_if (pt_not (pt_val (act (pit (K := K) (pv 0) (pv 2)) (fun _ => rfl)))) (pss_one ps_never) pss_nil)))), ?_⟩
  refine ⟨_, rfl, isi_tup hR ⟨true, rfl, iteF ?_⟩⟩
  refine ⟨_, rfl, row, _, rfl, .inr hR, _, rfl, by omega, by omega, ?_⟩
  rw [Int.toNat_natCast]
  refine for_range (lo := 0) (n := xs.length) (fun i σ H' => ∃ y : Option V, σ = [some (.ref row), some (.ref f), y] ∧ Same H H') ⟨none, rfl, Same.refl H⟩ ?_ ?_
  · rintro i σ H1 hi ⟨y, rfl, s1⟩
    rw [Int.zero_add]
    have hx : xs[i]? = some xs[i] := List.getElem?_eq_getElem hi
    refine ⟨rfl, _, rfl, _, rfl, row, _, _, _, rfl, rfl, same_tup s1 hR, atI_nat hx, s1 _ _ hc, ?_⟩
    exact ht i _ H1 _ s1 hx fun H2 s2 => ⟨_, rfl, iteF ⟨_, rfl, s1.trans s2⟩⟩
  · rintro σ H1 ⟨y, rfl, s1⟩
    exact hq _ s1
end
/-- check_row, its data: a def of the module at g -/
structure Row (K : PySem.W.Frag) (mg : Str → Option Value) : Prop where
  ex : ∃ (g : Addr) (oc : Value) (od : Option Addr) (kV doc pm : Value) (an : Option Addr) (cdv ct : Value) (osl : Array (Option Value)), mg "check_row" = some (.ref g) ∧ PySem.W.keepIn K (.ref g) = true ∧
    K.lookup g = some ⟨oc, od, .func (PySem.W.fnOf "check_row" "check_row" (defArgs (top 40)) (defBody (top 40)) (defScope (top 40)) .none kV doc pm an cdv ct), osl⟩ ∧ PySem.W.codeIn K cdv "check_row" = true ∧ Binds K (PySem.W.fnOf "check_row" "check_row" (defArgs (top 40)) (defBody (top 40)) (defScope (top 40)) .none kV doc pm an cdv ct) ["row", "looked"] []
/-- what is asked of check_row(e, lambda): tb is what the lambda's body asks, at the slots as they stand -/
def tRow (K : PySem.W.Frag) (T : List (Addr × Str)) (te tb : TE) : TE := fun σ H Q => te σ H fun v H1 => ∃ (row : Addr) (xs : List V), v = .ref row ∧ SqT K H1 row xs ∧ xs.length ≤ 1000 ∧ Tabs T H1 ∧ ∀ H2, ExtN H1 H2 → Tabs T H2 →
  (∀ (i : Nat) (x : V) (H' : Hp) (R : VK), Same H2 H' → xs[i]? = some x → (∀ H'', Same H' H'' → R (.bl true) H'') → tb (some x :: σ) H' R) ∧ ∀ H', Same H2 H' → Q .non H'
theorem extN_tup {K : PySem.W.Frag} {H H' : Hp} {a : Addr} {xs : List V} (e : ExtN H H') (h : SqT K H a xs) : SqT K H' a xs := by
  rcases h with (h | ⟨o, h⟩) | h
  · exact .inl (.inl (e _ _ h (fun _ z => by cases z)))
  · exact .inl (.inr ⟨o, e _ _ h (fun _ z => by cases z)⟩)
  · exact .inr h
section
variable {X : Cx} {T : List (Addr × Str)} {p : Str} {c P : Addr} {k : Nat} {params : Arguments} {body : Expr} {scope : Scope} {te tb : TE} {pc lpos pos : Pos} {e : Expr}
theorem pe_lamrow (Tt : Tx X.K X.mg) (R : Row X.K X.mg) (he : PE X e te) (TB : TabB X.base X.mg c P) (hcode : X.env.code = .ref c) (hmT : (P, X.env.qual ++ "<lambda>") ∈ T) (hu : ∀ p ∈ T, p.1 = P → p.2 = X.env.qual ++ "<lambda>") (hr : Room (k + 2) X.A)
    (L : LamP X.env.scope scope p) (hp : p ∉ X.N) (hdef : defaultsOf params X.env = ([], []))
    (hbind : ∀ (q : Str) (cl : List (Str × Addr)) (pm cv ctv u : Value), bindArgs (PySem.W.kla_fn "<lambda>" q params body scope cl pm cv ctv) ⟨[u], []⟩ = pure [(p, u)])
    (hbody : ∀ (A : Around) (outer : List Env) (s : Shared) (H : Hp) (f c' : Addr), Room k (A.deeper (lamEnv X scope s.heap.objs.size f c')) → PE (lamC1 X p A outer s H scope f c') body tb) (hg : Gl X "check_row" := by rfl)
    (hs1 : starEach [e, .Lambda params body scope lpos] X.env = (false, eval e X.env) :: starEach [.Lambda params body scope lpos] X.env := by rfl) (hpl : (backTo pos (starEach [.Lambda params body scope lpos] X.env)).any (·.1) = false := by rfl) :
    PE X (.Call (.Name "check_row" pc) [e, .Lambda params body scope lpos] [] pos) (tRow X.K T te tb) := by
  refine ⟨fun pins s σ H Q I h => ?_⟩
  obtain ⟨g, oc, od, kV, doc, pm, an, cdv, ct, osl, hm, hk, lk, hcg, hb⟩ := R.ex
  refine wpAny_Call_Name_kw (ld_glob I hg hm ?_ (by decide))
  refine PySem.W.callWith_K (h₀ := X.base) I.ok.mod.kin hk ?_ hs1 hpl
  rw [hs1]
  show wpAny _ _ (spliced ((false, eval e X.env) :: backTo pos (starEach [.Lambda params body scope lpos] X.env))) _ _ s
  refine Calls.spliced_cons (thn (he.run pins s σ H _ I h) fun u s1 ⟨v, H1, I1, r1, row, xs, ev, hR, hl, hT, q⟩ => ?_)
  subst ev
  obtain rfl : u = Value.ref row := r1
  show wpAny _ _ (spliced ((false, eval (.Lambda params body scope lpos) X.env) :: backTo pos (starEach [] X.env))) _ _ s1
  refine Calls.spliced_cons (lam_make2 I1 TB hcode hmT hu hT hdef (L.has I.ok) fun f c' pm' ctv H2 s' I2 eN T2 hf hfn hfr hco => ?_)
  refine Calls.spliced_nil ⟨I2.kIn, ?_⟩
  obtain ⟨q1, q2⟩ := q H2 eN T2
  have rc : codeAny (model X.prog X.w) X.A (.call (.ref g) ⟨[.ref row, .ref f], []⟩) (CR CX0 X.stack X.prog X.w H2 s' Q E0) s' := by
    refine run_ofS (N := ["row", "looked", "number"]) (ps := ["row", "looked"]) (us := [.ref row, .ref f]) (vs := [.ref row, .ref f]) lk hcg sc40 hr I2.env0 (hb s' [.ref row, .ref f] I2.kIn rfl) (.cons rfl (.cons rfl .nil)) rfl fun hr' => ?_
    obtain ⟨t', ht', hq'⟩ := row_gives (P := X.prog) (w := X.w) (base := X.base) (g := g) (f := f) (c' := c') (row := row) (cdg := cdv) (A := X.A) (stack := X.stack) (s := s') (H := H2) (Q := Q) (q := X.env.qual ++ "<lambda>") (tl := fun v H1 Q => tb (some v :: σ) H1 Q) (xs := xs) Tt
      (fun he2 hst => pe_act1 (i := 1) I2 L hp hf hfn hfr (hbind _ _ _ _ _) hr' (fun A outer s H hr2 => hbody A outer s H f c' hr2) rfl (.inl rfl) he2 hst)
      (extN_tup eN hR) hl hco q1 q2
    exact ⟨t', ht'.nox, hq'⟩
  refine wpAny_call (codeAny_mono rc fun r s2 hq => ?_)
  cases r with
  | error e => exact (show False from hq).elim
  | ok fl =>
    cases fl with
    | ret u => exact I2.after hq
    | next => exact False.elim hq
    | brk => exact False.elim hq
    | cont => exact False.elim hq
end
end LH
/-! LhN -/
set_option Elab.async false
set_option linter.all false
set_option maxRecDepth 100000
set_option maxHeartbeats 1000000
namespace LH
open PySem PySem.Spec PyProof.Rows L2 LamX
/-- a row of joins -/
def RowAt (K : PySem.W.Frag) (H : Hp) (a : Addr) (es : List E) : Prop := ∃ L : List (Addr × E), SqT K H a (L.map fun q => V.ref q.1) ∧ L.map (·.2) = es ∧ ∀ q ∈ L, SqT K H q.1 [.int (q.2.1 : Nat), .int (q.2.2 : Nat)]
theorem RowAt.same {K : PySem.W.Frag} {H H' : Hp} {a : Addr} {es : List E} (e : Same H H') (h : RowAt K H a es) : RowAt K H' a es := by
  obtain ⟨L, h1, h2, h3⟩ := h
  exact ⟨L, same_tup e h1, h2, fun q hq => same_tup e (h3 q hq)⟩
theorem RowAt.ext {K : PySem.W.Frag} {H H' : Hp} {a : Addr} {es : List E} (e : ExtN H H') (h : RowAt K H a es) : RowAt K H' a es := by
  obtain ⟨L, h1, h2, h3⟩ := h
  exact ⟨L, extN_tup e h1, h2, fun q hq => extN_tup e (h3 q hq)⟩
abbrev Val (n : Nat) (es : List E) : Prop := ∀ e ∈ es, e.1 < n ∧ e.2 < n
/-- the lambda's name in a def -/
def lq (x : Str) : Str := (x ++ ".<locals>.") ++ "<lambda>"
section
variable (K : PySem.W.Frag) (mg : Str → Option Value)
/-- a def of the module, under its name, by its code object -/
structure Dc (x : Str) (st : Stmt) (ps : List Str) (c : Addr) : Prop where
  ex : ∃ (f : Addr) (oc : Value) (od : Option Addr) (kV doc pm : Value) (an : Option Addr) (ct : Value) (osl : Array (Option Value)), mg x = some (.ref f) ∧ PySem.W.keepIn K (.ref f) = true ∧
    K.lookup f = some ⟨oc, od, .func (PySem.W.fnOf x x (defArgs st) (defBody st) (defScope st) .none kV doc pm an (.ref c) ct), osl⟩ ∧ PySem.W.codeIn K (.ref c) x = true ∧ Binds K (PySem.W.fnOf x x (defArgs st) (defBody st) (defScope st) .none kV doc pm an (.ref c) ct) ps []
end
section
variable {P : Program} {w : World} {K : PySem.W.Frag} {mg : Str → Option Value} {base : Heap}
theorem Dc.ca {x : Str} {st : Stmt} {N ps : List Str} {k : Nat} {sp : Sp} {c : Addr} (D : Dc K mg x st ps c) (S : FnScope N ps (defScope st)) (len : ∀ vs H Q E, sp vs H Q E → vs.length = ps.length)
    (hbody : ∀ (f : Addr) (A : Around) (outer : List Env) (s : Shared) (H : Hp) (vs : List V) (Q : VK) (E : XK), Room k (A.deeper (envOfC x (defScope st) s.heap.objs.size f (.ref c))) → sp vs H Q E →
      ∃ t, PSs (cxOf CX0 P w K mg base N x (defScope st) f (.ref c) A outer s H E).nox (defBody st) t ∧ t { nx := fun _ H' => Q .non H', rt := Q } (start N vs) H) : Ca P w K mg base (k + 1) x sp := by
  obtain ⟨f, oc, od, kV, doc, pm, an, ct, osl, hm, kp, lk, hcd, b⟩ := D.ex
  refine ⟨f, _, ps, fn_of lk hcd S len fun A outer s H vs Q E hr hsp => ?_, hm, kp, b⟩
  obtain ⟨t, h, q⟩ := hbody f A outer s H vs Q E hr hsp
  exact ⟨t, h.nox, q⟩
/-! ### is_thing_of, is_word, is_deed, is_join -/
theorem sc36 : FnScope ["many", "thing"] ["many", "thing"] (defScope (top 36)) := ⟨rfl, rfl, rfl, by decide +kernel, rfl, by decide +kernel, by decide +kernel⟩
def sp36 : Sp := fun vs H Q _ => ∃ n x : Nat, vs = [.int (n : Nat), .int (x : Nat)] ∧ x < n ∧ Q (.bl true) H
theorem ok36 (D : Df K mg "is_thing_of" (top 36) ["many", "thing"]) (c30 : Ca P w K mg base 1 "is_whole" spInt) : Ca P w K mg base 2 "is_thing_of" sp36 := by
  refine D.ca sc36 (fun vs H Q E h => ?_) (fun f cdv A outer s H vs Q E hr h => ?_)
  · obtain ⟨n, x, rfl, _⟩ := h
    rfl
  · obtain ⟨n, x, rfl, hx, q⟩ := h
    refine ⟨_, pss_one (ps_ret (pe_and (pc c30 hr (pa_cons (pv 1) pa_nil)) (pe_one (pe_chain op_le op_lt pe_int (pv 1) (pv 0))))), ?_⟩
    refine ⟨_, rfl, _, rfl, true, rfl, iteT ⟨_, rfl, 0, _, rfl, rfl, decide ((0 : Int) ≤ (x : Nat)), rfl, ?_⟩⟩
    rw [decide_eq_true (by omega : (0 : Int) ≤ (x : Nat))]
    refine iteT ⟨_, rfl, _, _, rfl, rfl, ?_⟩
    show Q (.bl (decide (((x : Nat) : Int) < (n : Nat)))) H
    rw [decide_eq_true (by omega : ((x : Nat) : Int) < (n : Nat))]
    exact q
theorem sc37 : FnScope ["thing", "word"] ["thing", "word"] (defScope (top 37)) := ⟨rfl, rfl, rfl, by decide +kernel, rfl, by decide +kernel, by decide +kernel⟩
def sp37 : Sp := fun vs H Q _ => ∃ a b : Str, vs = [.str a, .str b] ∧ Q (.bl (decide (V.str a = V.str b))) H
theorem ok37 (D : Df K mg "is_word" (top 37) ["thing", "word"]) (T : Tx K mg) : Ca P w K mg base 1 "is_word" sp37 := by
  refine D.ca sc37 (fun vs H Q E h => ?_) (fun f cdv A outer s H vs Q E hr h => ?_)
  · obtain ⟨a, b, rfl, _⟩ := h
    rfl
  · obtain ⟨a, b, rfl, q⟩ := h
    refine ⟨_, pss_one (ps_ret (pe_and (pe_isi (T' := "str") T.isi T.str (by decide +kernel) (pv 0)) (pe_one (pe_cmpR op_eq (pv 0) (pv 1) (nomark _))))), ?_⟩
    exact ⟨_, rfl, isi_str_str ⟨true, rfl, iteT ⟨_, rfl, _, rfl, rfl, q⟩⟩⟩
theorem sc38 : FnScope ["many", "thing", "x"] ["many", "thing"] (defScope (top 38)) := ⟨rfl, rfl, rfl, by decide +kernel, rfl, by decide +kernel, by decide +kernel⟩
def sp38 (K : PySem.W.Frag) : Sp := fun vs H Q _ => ∃ (d : Addr) (n x y : Nat), vs = [.int (n : Nat), .ref d] ∧ SqT K H d [.str "join", .int (x : Nat), .int (y : Nat)] ∧ x < n ∧ y < n ∧ ∀ H', Same H H' → Q (.bl true) H'
/-- all things of a written tuple are things -/
theorem two_all {n x y : Nat} (hx : x < n) (hy : y < n) : ∀ {i : Nat} {z : V}, ([.int (x : Nat), .int (y : Nat)] : List V)[i]? = some z → ∃ a : Nat, a < n ∧ z = .int (a : Nat)
  | 0, z, h => ⟨x, hx, (Option.some.inj h).symm⟩
  | 1, z, h => ⟨y, hy, (Option.some.inj h).symm⟩
  | _ + 2, z, h => by simp at h
theorem ok38 (D : Df K mg "is_deed" (top 38) ["many", "thing"]) (T : Tx K mg) (c36 : Ca P w K mg base 2 "is_thing_of" sp36) (c37 : Ca P w K mg base 1 "is_word" sp37) : Ca P w K mg base 3 "is_deed" (sp38 K) := by
  refine D.ca sc38 (fun vs H Q E h => ?_) (fun f cdv A outer s H vs Q E hr h => ?_)
  · obtain ⟨d, n, x, y, rfl, _⟩ := h
    rfl
  · obtain ⟨d, n, x, y, rfl, hD, hx, hy, q⟩ := h
    have nd := sc38.nd
    refine ⟨_, pss_cons (ps_if (PW.pt (pw_or (pt_not (pt_val (pe_isi T.isi T.tup boot_tuple (pv 1)))) (pw_or (pt_cmpR op_eq (plen (K := K) T.len (pv 1)) pe_int (nomark _)) (pw_or1 (pt_not (pt_val
        (pe_callB (cr_all rfl) (by rfl) T.all (by decide +kernel) (pa_cons (pe_lc (own := [("x", 2)]) (g := gName 2) (tt := tYes) rfl nd (pi_tup (pe_slice sl_tup (pv 1) (po_some pe_int) po_none)) (blkOk_by (N := ["many", "thing", "x"]) (sc := defScope (top 38)) (by decide +kernel))
          (fun _ _ _ _ _ => pg_name (i := 2) nd rfl (.inl rfl)) (fun _ _ _ _ _ => pts_nil) (fun _ _ _ _ _ => pc c36 hr (pa_cons (pv 0) (pa_cons (pv 2) pa_nil)))) pa_nil)))))))) (pss_one ps_never) pss_nil)
      (pss_one (ps_ret (pe_or (pe_and (pc c37 hr (pa_cons (pit (K := K) (pv 1) pe_int) (pa_cons pe_str pa_nil))) (pe_one (pe_cmpR op_eq (plen (K := K) T.len (pv 1)) pe_int (nomark _)))) (pe_one
        (pe_and (pc c37 hr (pa_cons (pit (K := K) (pv 1) pe_int) (pa_cons pe_str pa_nil))) (pe_one (pe_cmpR op_eq (plen (K := K) T.len (pv 1)) pe_int (nomark _)))))))), ?_⟩
    refine ⟨_, rfl, isi_tup hD ⟨true, rfl, iteF ?_⟩⟩
    refine ⟨_, rfl, d, _, rfl, .inr hD, rfl, _, rfl, iteF ?_⟩
    refine ⟨_, rfl, 1, rfl, d, _, rfl, hD, (show ¬ (HT.sIx 3 0 (some 1) = 0 ∧ HT.sIx 3 3 none = 3) by decide), fun t nt => ?_⟩
    have st : Same H (upd H t (.tup [.int (x : Nat), .int (y : Nat)])) := same_new nt
    have ht : (upd H t (.tup (cutV [.str "join", .int (x : Nat), .int (y : Nat)] (some 1) none))) t = some (.tup [.int (x : Nat), .int (y : Nat)]) := upd_same
    have st : Same H (upd H t (.tup (cutV [.str "join", .int (x : Nat), .int (y : Nat)] (some 1) none))) := same_new nt
    generalize upd H t (.tup (cutV [.str "join", .int (x : Nat), .int (y : Nat)] (some 1) none)) = H1 at st ht
    refine ⟨t, rfl, ⟨_, SqT.of ht⟩, fun D1 n1 => ?_⟩
    have n1H : H D1 = none := st.free n1
    have nt1 : t ≠ D1 := ne_of_none ht n1
    refine lc_tup (K := K) (a := t) (xs := [.int (x : Nat), .int (y : Nat)]) (fun i H' => Same H H' ∧ H' t = some (.tup [.int (x : Nat), .int (y : Nat)]) ∧ H' D1 = some (.lst ((List.replicate i true).map V.bl))) ⟨same_own st n1H, by rw [upd_ne nt1]; exact ht, upd_same⟩ (fun i H' _ p => SqT.of p.2.1) ?_ ?_
    · rintro i z H2 hi ⟨s2, g1, g2⟩
      obtain ⟨a, ha, rfl⟩ := two_all hx hy hi
      refine ⟨rfl, yes ?_⟩
      refine ⟨_, rfl, _, rfl, n, a, rfl, ha, _, g2, ?_, same_own s2 n1H, ?_, ?_⟩
      · rw [List.length_map, List.length_replicate]
        exact sz (by have := (List.getElem?_eq_some_iff.mp hi).1; simp at this; omega)
      · rw [upd_ne nt1]
        exact g1
      · rw [upd_same, ← rep_snoc]
    · rintro H2 ⟨s2, g1, g2⟩
      refine ⟨D1, _, rfl, SqL.of g2, _, rfl, iteF ?_⟩
      have hD2 := same_tup s2 hD
      refine ⟨_, rfl, d, _, 0, _, rfl, rfl, hD2, atI_nat (j := 0) rfl, _, _, rfl, false, rfl, iteF ⟨false, rfl, iteF ?_⟩⟩
      refine ⟨_, rfl, d, _, 0, _, rfl, rfl, hD2, atI_nat (j := 0) rfl, _, _, rfl, true, rfl, iteT ?_⟩
      exact ⟨_, rfl, d, _, rfl, .inr hD2, rfl, q _ s2⟩
theorem sc39 : FnScope ["many", "thing", "x"] ["many", "thing"] (defScope (top 39)) := ⟨rfl, rfl, rfl, by decide +kernel, rfl, by decide +kernel, by decide +kernel⟩
def sp39 (K : PySem.W.Frag) : Sp := fun vs H Q _ => ∃ (d : Addr) (n x y : Nat), vs = [.int (n : Nat), .ref d] ∧ SqT K H d [.int (x : Nat), .int (y : Nat)] ∧ x < n ∧ y < n ∧ ∀ H', Same H H' → Q (.bl true) H'
theorem ok39 (D : Df K mg "is_join" (top 39) ["many", "thing"]) (T : Tx K mg) (c36 : Ca P w K mg base 2 "is_thing_of" sp36) : Ca P w K mg base 3 "is_join" (sp39 K) := by
  refine D.ca sc39 (fun vs H Q E h => ?_) (fun f cdv A outer s H vs Q E hr h => ?_)
  · obtain ⟨d, n, x, y, rfl, _⟩ := h
    rfl
  · obtain ⟨d, n, x, y, rfl, hD, hx, hy, q⟩ := h
    have nd := sc39.nd
    refine ⟨_, pss_one (ps_ret (pe_and (pe_isi T.isi T.tup boot_tuple (pv 1)) (pe_and (pe_cmpR op_eq (plen (K := K) T.len (pv 1)) pe_int (nomark _)) (pe_one
        (pe_callB (cr_all rfl) (by rfl) T.all (by decide +kernel) (pa_cons (pe_lc (own := [("x", 2)]) (g := gName 2) (tt := tYes) rfl nd (pi_tup (pv 1)) (blkOk_by (N := ["many", "thing", "x"]) (sc := defScope (top 39)) (by decide +kernel))
          (fun _ _ _ _ _ => pg_name (i := 2) nd rfl (.inl rfl)) (fun _ _ _ _ _ => pts_nil) (fun _ _ _ _ _ => pc c36 hr (pa_cons (pv 0) (pa_cons (pv 2) pa_nil)))) pa_nil)))))), ?_⟩
    refine ⟨_, rfl, isi_tup hD ⟨true, rfl, iteT ?_⟩⟩
    refine ⟨_, rfl, d, _, rfl, .inr hD, rfl, true, rfl, iteT ?_⟩
    refine ⟨_, rfl, d, rfl, ⟨_, hD⟩, fun D1 n1 => ?_⟩
    refine lc_tup (K := K) (a := d) (xs := [.int (x : Nat), .int (y : Nat)]) (fun i H' => Same H H' ∧ H' D1 = some (.lst ((List.replicate i true).map V.bl))) ⟨same_new n1, upd_same⟩ (fun i H' _ p => same_tup p.1 hD) ?_ ?_
    · rintro i z H2 hi ⟨s2, g2⟩
      obtain ⟨a, ha, rfl⟩ := two_all hx hy hi
      refine ⟨rfl, yes ?_⟩
      refine ⟨_, rfl, _, rfl, n, a, rfl, ha, _, g2, ?_, same_own s2 n1, ?_⟩
      · rw [List.length_map, List.length_replicate]
        exact sz (by have := (List.getElem?_eq_some_iff.mp hi).1; simp at this; omega)
      · rw [upd_same, ← rep_snoc]
    · rintro H2 ⟨s2, g2⟩
      exact ⟨D1, _, rfl, SqL.of g2, q _ s2⟩
/-! ### check_joins -/
theorem sc41 : FnScope ["many", "row"] ["many", "row"] (defScope (top 41)) := ⟨rfl, rfl, rfl, by decide +kernel, rfl, by decide +kernel, by decide +kernel⟩
def sp41 (K : PySem.W.Frag) (T : List (Addr × Str)) : Sp := fun vs H Q _ => ∃ (a : Addr) (n : Nat) (es : List E), vs = [.int (n : Nat), .ref a] ∧ RowAt K H a es ∧ Val n es ∧ es.length ≤ 100 ∧ 1 ≤ n ∧ n ≤ 40 ∧ Tabs T H ∧ ∀ H', ExtN H H' → Tabs T H' → Q .non H'
theorem ok41 {T : List (Addr × Str)} {c Pt : Addr} (D : Dc K mg "check_joins" (top 41) ["many", "row"] c) (Tt : Tx K mg) (R : Row K mg) (TB : TabB base mg c Pt) (hmT : (Pt, lq "check_joins") ∈ T) (hu : ∀ p ∈ T, p.1 = Pt → p.2 = lq "check_joins")
    (c31 : Ca P w K mg base 2 "check_many" sp31) (c39 : Ca P w K mg base 3 "is_join" (sp39 K)) : Ca P w K mg base 6 "check_joins" (sp41 K T) := by
  refine D.ca sc41 (fun vs H Q E h => ?_) (fun f A outer s H vs Q E hr h => ?_)
  · obtain ⟨a, n, es, rfl, _⟩ := h
    rfl
  · obtain ⟨a, n, es, rfl, ⟨L, hA, hLe, hL⟩, hv, hlen, h1, h2, hT, q⟩ := h
    refine ⟨_, pss_cons (ps_expr (pc c31 hr (pa_cons (pv 0) pa_nil)))
      (pss_one (ps_expr (pe_lamrow (T := T) (p := "thing") (c := c) (P := Pt) (k := 3) Tt R (pv 1) TB rfl hmT hu hr (lamP_by (sc := defScope (top 41)) (by decide +kernel)) (show ("thing" : Str) ∉ (["many", "row"] : List Str) by decide +kernel) rfl (fun _ _ _ _ _ _ => rfl)
        (fun A outer s H f c' hr2 => pc c39 hr2 (pa_cons (pv 1) (pa_cons (pv 0) pa_nil)))))), ?_⟩
    refine ⟨_, rfl, (n : Nat), rfl, by omega, by omega, ?_⟩
    refine ⟨_, rfl, a, _, rfl, hA, ?_, hT, fun H2 e2 T2 => ⟨fun i x H' R s2 hi hR => ?_, fun H' s2 => ?_⟩⟩
    · have := congrArg List.length hLe
      rw [List.length_map] at this
      rw [List.length_map]
      omega
    · rw [List.getElem?_map] at hi
      cases e : L[i]? with
      | none => rw [e] at hi; cases hi
      | some p =>
        rw [e] at hi
        have ex : V.ref p.1 = x := Option.some.inj hi
        subst ex
        have hp := List.mem_of_getElem? e
        have hve := hv p.2 (hLe ▸ List.mem_map.mpr ⟨p, hp, rfl⟩)
        exact ⟨_, rfl, _, rfl, p.1, n, p.2.1, p.2.2, rfl, same_tup s2 (extN_tup e2 (hL p hp)), hve.1, hve.2, hR⟩
    · exact q _ (e2.trans (ExtN.of s2)) (T2.ext s2)
end
end LH
/-! LhO -/
set_option Elab.async false
set_option linter.all false
set_option maxRecDepth 100000
set_option maxHeartbeats 1000000
namespace LH
open PySem PySem.Spec PyProof.Rows L2 LamX
/-- a row of deeds -/
def DeedsAt (K : PySem.W.Frag) (H : Hp) (a : Addr) (es : List E) : Prop := ∃ L : List (Addr × E), SqT K H a (L.map fun q => V.ref q.1) ∧ L.map (·.2) = es ∧ ∀ q ∈ L, SqT K H q.1 [.str "join", .int (q.2.1 : Nat), .int (q.2.2 : Nat)]
theorem ansU_snoc : ∀ (es : List E) (s : Sto) (e : E), ansU s (es ++ [e]) = ansU s es ++ [ansS (es.foldl stp s) e]
  | [], s, e => rfl
  | a :: es, s, e => by
    show ansS s a :: ansU (stp s a) (es ++ [e]) = _
    rw [ansU_snoc es]
    rfl
theorem ansU_len : ∀ (es : List E) (s : Sto), (ansU s es).length = es.length
  | [], _ => rfl
  | e :: es, s => by show (ansU (stp s e) es).length + 1 = es.length + 1; rw [ansU_len es]
theorem extN_store {K : PySem.W.Frag} {H H' : Hp} {p : Addr} {s : Sto} (e : ExtN H H') (h : StoreAt K H p s) : StoreAt K H' p s := by
  obtain ⟨u, m, h1, h2, h3⟩ := h
  exact ⟨u, m, extN_tup e h1, extN_tup e h2, extN_tup e h3⟩
/-- a new object, and one that was not there ahead written, beside the tables -/
theorem extN_own {H H1 : Hp} {p : Addr} {o : HO} (s : ExtN H H1) (n : H p = none) : ExtN H (upd H1 p o) := fun b x e ne => by
  rw [upd_ne (ne_of_none e n)]
  exact s _ _ e ne
theorem tabs_upd {T : List (Addr × Str)} {H : Hp} {p : Addr} {o : HO} {xs : List V} (t : Tabs T H) (h : H p = some (.lst xs)) : Tabs T (upd H p o) := fun q hq => by
  obtain ⟨ps, h1, h2, h3⟩ := t q hq
  refine ⟨ps, by rw [upd_ne (ne_of h1 h (fun z => by cases z))]; exact h1, h2, fun pos cv hc => ?_⟩
  obtain ⟨c, e1, e2⟩ := h3 pos cv hc
  refine ⟨c, e1, ?_⟩
  rw [upd_ne (fun z => ?_)]
  · exact e2
  · rw [z, h] at e2
    cases e2
theorem extN_free {H H1 : Hp} {p : Addr} (e : ExtN H H1) (h : H1 p = none) (ht : ∀ ps, H p ≠ some (.tbl ps)) : H p = none := by
  cases q : H p with
  | none => rfl
  | some o =>
    rw [e p o q (fun ps z => ht ps (by rw [q, z]))] at h
    cases h
section
variable {P : Program} {w : World} {K : PySem.W.Frag} {mg : Str → Option Value} {base : Heap}
theorem sc44 : FnScope ["store", "row", "answers", "steps", "deed", "answer", "many"] ["store", "row"] (defScope (top 44)) := ⟨rfl, rfl, rfl, by decide +kernel, rfl, by decide +kernel, by decide +kernel⟩
def sp44 (K : PySem.W.Frag) (T : List (Addr × Str)) : Sp := fun vs H Q _ => ∃ (b a : Addr) (n k : Nat) (h : Nat → Nat) (st : Sto) (es : List E), vs = [.ref b, .ref a] ∧ StoreAt K H b st ∧ DeedsAt K H a es ∧ Val n es ∧ Good n k h st ∧ k + es.length ≤ 800 ∧ es.length ≤ 100 ∧ n ≤ 1000 ∧ Tabs T H ∧
  ∀ (H' : Hp) (p s' an sp : Addr), ExtN H H' → Tabs T H' → SqT K H' p [.ref s', .ref an, .ref sp] → StoreAt K H' s' (es.foldl stp st) → H' an = some (.lst ((ansU st es).map V.bl)) → Q (.ref p) H'
theorem ok44 {T : List (Addr × Str)} {c Pt : Addr} (D : Dc K mg "run" (top 44) ["store", "row"] c) (Tt : Tx K mg) (R : Row K mg) (TB : TabB base mg c Pt) (hmT : (Pt, lq "run") ∈ T) (hu : ∀ p ∈ T, p.1 = Pt → p.2 = lq "run")
    (c38 : Ca P w K mg base 3 "is_deed" (sp38 K)) (c43 : Ca P w K mg base 4 "deed_done" (sp43 K)) : Ca P w K mg base 6 "run" (sp44 K T) := by
  refine D.ca sc44 (fun vs H Q E h => ?_) (fun f A outer s H vs Q E hr h => ?_)
  · obtain ⟨b, a, n, k, h, st, es, rfl, _⟩ := h
    rfl
  · obtain ⟨b, a, n, k, h, st, es, rfl, hB, ⟨L, hA, hLe, hL⟩, hv, G, hk, hlen, hn, hT, q⟩ := h
    have nd := sc44.nd
    have hLl : L.length = es.length := by rw [← hLe, List.length_map]
    refine ⟨_, pss_cons (ps_expr (pe_lamrow (T := T) (p := "thing") (c := c) (P := Pt) (k := 3) Tt R (pv 1) TB rfl hmT hu hr (lamP_by (sc := defScope (top 44)) (by decide +kernel)) (show ("thing" : Str) ∉ (["store", "row", "answers", "steps", "deed", "answer", "many"] : List Str) by decide +kernel) rfl (fun _ _ _ _ _ _ => rfl)
        (fun A outer s H f c' hr2 => pc c38 hr2 (pa_cons (plen (K := K) Tt.len (pit (K := K) (pv 1) pe_int)) (pa_cons (pv 0) pa_nil)))))
      (pss_cons (ps_set (i := 2) nd rfl (.inl rfl) (pe_lst pa_nil)) (pss_cons (ps_set (i := 3) nd rfl (.inl rfl) (pe_lst pa_nil))
      (pss_cons (ps_for PassesOwn.never rfl (pi_tup (pv 1)) (pg_name (i := 4) nd rfl (.inl rfl))
        (pss_cons (ps_asg (pc c43 hr (pa_cons (pv 0) (pa_cons (pv 4) pa_nil))) (pg_tup rfl (pgs_cons (pg_name (i := 0) nd rfl (.inr rfl)) (pgs_cons (pg_name (i := 5) nd rfl (.inl rfl)) (pgs_cons (pg_name (i := 6) nd rfl (.inl rfl)) pgs_nil)))))
        (pss_cons (ps_expr (pe_bm PySem.F.plainAttrs_list PySem.F.slot_list_append PySem.F.type_list_append mt_append (pv 2) (pa_cons (pv 5) pa_nil)))
        (pss_one (ps_expr (pe_bm PySem.F.plainAttrs_list PySem.F.slot_list_append PySem.F.type_list_append mt_append (pv 3) (pa_cons (pv 6) pa_nil)))))))
      (pss_one (ps_ret (pe_tup (pa_cons (pv 0) (pa_cons (pv 2) (pa_cons (pv 3) pa_nil))))))))), ?_⟩
    refine ⟨_, rfl, a, _, rfl, hA, by rw [List.length_map]; omega, hT, fun H2 e2 T2 => ⟨fun i x H' R s2 hi hR => ?_, fun H3 s3 => ?_⟩⟩
    · rw [List.getElem?_map] at hi
      cases e : L[i]? with
      | none => rw [e] at hi; cases hi
      | some p =>
        rw [e] at hi
        have ex : V.ref p.1 = x := Option.some.inj hi
        subst ex
        have hp := List.mem_of_getElem? e
        have hve := hv p.2 (hLe ▸ List.mem_map.mpr ⟨p, hp, rfl⟩)
        obtain ⟨u, m, g1, g2, g3⟩ := StoreAt.same s2 (extN_store e2 hB)
        refine ⟨_, rfl, b, _, 2, _, rfl, rfl, g1, atI_nat (j := 2) rfl, u, _, rfl, .inr g2, _, rfl, p.1, n, p.2.1, p.2.2, ?_, same_tup s2 (extN_tup e2 (hL p hp)), hve.1, hve.2, hR⟩
        rw [iv_len, G.fo.len]
        rfl
    · have T3 : Tabs T H3 := T2.ext s3
      have e3 : ExtN H H3 := e2.trans (ExtN.of s3)
      refine ⟨Nat.zero_le _, fun an nan => ?_⟩
      refine ⟨Nat.zero_le _, fun sp nsp => ?_⟩
      obtain ⟨nsa, nsp3⟩ := upd_none' nsp
      have t1 : Same H3 (upd (upd H3 an (.lst [])) sp (.lst [])) := same_own (same_new nan) nsp3
      refine ⟨_, rfl, a, rfl, ⟨_, same_tup t1 (extN_tup e3 hA)⟩, ?_⟩
      refine for_tup (K := K) (a := a) (xs := L.map fun q => V.ref q.1) (fun i σ H' => ∃ (si : Addr) (y1 y2 y3 : Option V) (zl : List V), σ = [some (.ref si), some (.ref a), some (.ref an), some (.ref sp), y1, y2, y3] ∧ Same H3 H' ∧ StoreAt K H' si ((es.take i).foldl stp st) ∧
          H' an = some (.lst ((ansU st (es.take i)).map V.bl)) ∧ H' sp = some (.lst zl) ∧ zl.length = i)
        ⟨b, none, none, none, [], rfl, t1, StoreAt.same t1 (extN_store e3 hB), by rw [upd_ne (Ne.symm nsa), upd_same]; rfl, upd_same, rfl⟩ (fun i σ H' _ ⟨_, _, _, _, _, _, s4, _⟩ => same_tup s4 (extN_tup e3 hA)) ?_ ?_
      · rintro i x σ H4 hi ⟨si, y1, y2, y3, zl, rfl, s4, g1, g2, g3, g4⟩
        rw [List.getElem?_map] at hi
        cases e : L[i]? with
        | none => rw [e] at hi; cases hi
        | some p =>
          rw [e] at hi
          have ex : V.ref p.1 = x := Option.some.inj hi
          subst ex
          have hp := List.mem_of_getElem? e
          have hei : es[i]? = some p.2 := by rw [← hLe, List.getElem?_map, e]; rfl
          have hii : i < es.length := (List.getElem?_eq_some_iff.mp hei).1
          have hve := hv p.2 (List.mem_of_getElem? hei)
          have etk : es.take (i + 1) = es.take i ++ [p.2] := by rw [List.take_add_one, hei]; rfl
          obtain ⟨Gi, _⟩ := G.run (es.take i) (by rw [List.length_take]; omega) (fun e' m => hv e' (List.mem_of_mem_take m))
          rw [List.length_take] at Gi
          refine ⟨_, rfl, _, rfl, si, p.1, p.2.1, p.2.2, n, _, _, _, rfl, g1, same_tup s4 (extN_tup e3 (hL p hp)), Gi, by omega, hve.1, hve.2, hn, fun H5 pp s' z s5 hpp hs' => ?_⟩
          refine ⟨pp, _, rfl, hpp, rfl, _, _, rfl, _, _, rfl, _, _, rfl, rfl, ?_⟩
          have w2 := s5 _ _ g2
          have w3 := s5 _ _ g3
          refine ⟨_, rfl, .inl ⟨rfl, _, SqL.of w2⟩, _, rfl, an, _, _, rfl, rfl, w2, ?_, ?_⟩
          · rw [List.length_map, ansU_len, List.length_take]
            exact sz (by omega)
          have x3 : (upd H5 an (.lst ((ansU st (es.take i)).map V.bl ++ [.bl (ansS ((es.take i).foldl stp st) (p.2.1, p.2.2))]))) sp = some (.lst zl) := by rw [upd_ne nsa]; exact w3
          refine ⟨_, rfl, .inl ⟨rfl, _, SqL.of x3⟩, _, rfl, sp, _, _, rfl, rfl, x3, by rw [g4]; exact sz (by omega), ?_⟩
          refine ⟨s', _, _, _, zl ++ [.int z], rfl, same_own (same_own (s4.trans s5) nan) nsp3, ?_, ?_, upd_same, by rw [List.length_append, g4]; rfl⟩
          · rw [etk, List.foldl_append]
            obtain ⟨u, m, j1, j2, j3⟩ := hs'
            exact ⟨u, m, sqt_lst x3 (sqt_lst w2 j1), sqt_lst x3 (sqt_lst w2 j2), sqt_lst x3 (sqt_lst w2 j3)⟩
          · rw [upd_ne (Ne.symm nsa), upd_same, etk, ansU_snoc, List.map_append]
            rfl
      · rintro σ H4 ⟨si, y1, y2, y3, zl, rfl, s4, g1, g2, g3, g4⟩
        rw [List.length_map, hLl, List.take_length] at g1 g2
        refine ⟨_, rfl, _, rfl, _, rfl, sz' (by show 3 ≤ 100000; decide), fun p np => ?_⟩
        have s5 : Same H4 (upd H4 p (.tup [.ref si, .ref an, .ref sp])) := same_new np
        exact q _ p si an sp (e3.trans (ExtN.of (s4.trans s5))) (T3.ext (s4.trans s5)) (SqT.of upd_same) (StoreAt.same s5 g1) (s5 _ _ g2)
end
end LH
/-! LhP -/
set_option Elab.async false
set_option linter.all false
set_option maxRecDepth 100000
set_option maxHeartbeats 1000000
namespace LH
open PySem PySem.Spec PyProof.Rows L2 LamX
section
variable {K : PySem.W.Frag} {H : Hp} {Q : VK} {a b : Addr} {xs ys : List V} {lo hi : Option Int}
theorem sl_uni (h : SqT K H a xs) (q : ∀ (H' : Hp) (p : Addr), Same H H' → SqT K H' p (cutV xs lo hi) → Q (.ref p) H') : rSlA K (.ref a) lo hi H Q := by
  refine ⟨a, xs, rfl, h, fun z => q H a (Same.refl H) ?_, fun _ p np => q _ p (same_new np) (SqT.of upd_same)⟩
  have e : cutV xs lo hi = xs := by
    unfold cutV
    rw [z.1, z.2, List.drop_zero, Nat.sub_zero, List.take_length]
  rw [e]
  exact h
theorem cat_uni (h1 : SqT K H a xs) (h2 : SqT K H b ys) (hl : xs.length + ys.length ≤ 100000) (q : ∀ (H' : Hp) (p : Addr), Same H H' → SqT K H' p (xs ++ ys) → Q (.ref p) H') : rCatA K (.ref a) (.ref b) H Q := by
  refine ⟨a, b, xs, ys, rfl, rfl, h1, h2, sz' hl, fun z => q H b (Same.refl H) (by rw [z]; exact h2), fun _ z => q H a (Same.refl H) (by rw [z, List.append_nil]; exact h1), fun _ _ p np => q _ p (same_new np) (SqT.of upd_same)⟩
theorem cut_to {m : Nat} (h : m ≤ xs.length) : cutV xs none (some ((m : Nat) : Int)) = xs.take m := by
  unfold cutV
  rw [HT.sIx_nat, HT.sIx_none, List.drop_zero, Nat.sub_zero, Nat.min_eq_left h]
theorem cut_from {m : Nat} (h : m ≤ xs.length) : cutV xs (some ((m : Nat) : Int)) none = xs.drop m := by
  unfold cutV
  rw [HT.sIx_nat, HT.sIx_none, Nat.min_eq_left h, List.take_of_length_le]
  rw [List.length_drop]
  omega
end
section
variable {X : Cx} {p p1 p2 p3 pos pos2 : Pos} {e lo hi : Expr}
/-- the tuple's slices of the text, by K -/
theorem psl {K : PySem.W.Frag} {te : TE} {tl th : L2.St → Hp → (Option Int → Hp → Prop) → Prop} {lo hi : Option Expr} (he : PE X e te) (hl : PO X lo tl) (hh : PO X hi th) (hK : X.K = K := by rfl) : PE X (.Subscript e (.Slice lo hi none p2) pos) (tSl (rSlA K) te tl th) := by
  subst hK
  exact pe_slice sl_tupA he hl hh
end
section
variable {P : Program} {w : World} {K : PySem.W.Frag} {mg : Str → Option Value} {base : Heap}
/-! ### joined -/
theorem sc46 : FnScope ["many", "row", "store", "answers", "steps", "x", "y"] ["many", "row"] (defScope (top 46)) := ⟨rfl, rfl, rfl, by decide +kernel, rfl, by decide +kernel, by decide +kernel⟩
def sp46 (K : PySem.W.Frag) (T : List (Addr × Str)) : Sp := fun vs H Q _ => ∃ (a : Addr) (n : Nat) (es : List E), vs = [.int (n : Nat), .ref a] ∧ RowAt K H a es ∧ Val n es ∧ es.length ≤ 100 ∧ 1 ≤ n ∧ n ≤ 40 ∧ Tabs T H ∧
  ∀ (H' : Hp) (p u an : Addr), ExtN H H' → Tabs T H' → SqT K H' p [.ref u, .ref an] → SqT K H' u (iv (sto n es).1) → H' an = some (.lst ((ansU (new n) es).map V.bl)) → Q (.ref p) H'
theorem ok46 {T : List (Addr × Str)} (D : Df K mg "joined" (top 46) ["many", "row"]) (Tt : Tx K mg) (c34 : Ca P w K mg base 3 "new_store" (sp34 K)) (c44 : Ca P w K mg base 6 "run" (sp44 K T)) : Ca P w K mg base 7 "joined" (sp46 K T) := by
  refine D.ca sc46 (fun vs H Q E h => ?_) (fun f cdv A outer s H vs Q E hr h => ?_)
  · obtain ⟨a, n, es, rfl, _⟩ := h
    rfl
  · obtain ⟨a, n, es, rfl, ⟨L, hA, hLe, hL⟩, hv, hlen, h1, h2, hT, q⟩ := h
    have nd := sc46.nd
    have hLl : L.length = es.length := by rw [← hLe, List.length_map]
    refine ⟨_, pss_cons (ps_asg (pc c44 hr (pa_cons (pc c34 hr (pa_cons (pv 0) (pa_cons pe_str (pa_cons pe_str pa_nil)))) (pa_cons (ptup (K := K) Tt.tup
        (pe_lc (own := [("x", 5), ("y", 6)]) (g := gTup K 2 (gCons (gName 5) (gCons (gName 6) gNil))) (tt := tYes) rfl nd (pi_tup (pv 1)) (blkOk_by (N := ["many", "row", "store", "answers", "steps", "x", "y"]) (sc := defScope (top 46)) (by decide +kernel))
          (fun _ _ _ _ _ => pg_tup rfl (pgs_cons (pg_name (i := 5) nd rfl (.inl rfl)) (pgs_cons (pg_name (i := 6) nd rfl (.inl rfl)) pgs_nil))) (fun _ _ _ _ _ => pts_nil) (fun _ _ _ _ _ => pe_tup (pa_cons pe_str (pa_cons (pv 5) (pa_cons (pv 6) pa_nil)))))) pa_nil)))
        (pg_tup rfl (pgs_cons (pg_name (i := 2) nd rfl (.inl rfl)) (pgs_cons (pg_name (i := 3) nd rfl (.inl rfl)) (pgs_cons (pg_name (i := 4) nd rfl (.inl rfl)) pgs_nil)))))
      (pss_one (ps_ret (pe_tup (pa_cons (pit (K := K) (pv 2) pe_int) (pa_cons (pv 3) pa_nil))))), ?_⟩
    refine ⟨_, rfl, n, rfl, h1, h2, fun H1 b s1 hB => ?_⟩
    refine ⟨_, rfl, a, rfl, ⟨_, same_tup s1 hA⟩, fun D1 n1 => ?_⟩
    have n1H : H D1 = none := s1.free n1
    refine lc_tup (K := K) (a := a) (xs := L.map fun q => V.ref q.1) (fun i H' => ∃ M : List (Addr × LH.E), Same H1 H' ∧ H' D1 = some (.lst (M.map fun q => V.ref q.1)) ∧ M.map (·.2) = es.take i ∧ ∀ q ∈ M, SqT K H' q.1 [.str "join", .int (q.2.1 : Nat), .int (q.2.2 : Nat)])
      ⟨[], same_new n1, upd_same, rfl, fun q hq => absurd hq (by simp)⟩ (fun i H' _ ⟨_, s2, _⟩ => same_tup (s1.trans s2) hA) ?_ ?_
    · rintro i x H2 hi ⟨M, s2, g1, g2, g3⟩
      rw [List.getElem?_map] at hi
      cases e : L[i]? with
      | none => rw [e] at hi; cases hi
      | some p =>
        rw [e] at hi
        have ex : V.ref p.1 = x := Option.some.inj hi
        subst ex
        have hp := List.mem_of_getElem? e
        have hei : es[i]? = some p.2 := by rw [← hLe, List.getElem?_map, e]; rfl
        have hMl : M.length ≤ 100 := by
          have := congrArg List.length g2
          rw [List.length_map, List.length_take] at this
          omega
        refine ⟨p.1, _, rfl, same_tup (s1.trans s2) (hL p hp), rfl, _, _, rfl, _, _, rfl, rfl, rfl, yes ?_⟩
        refine ⟨_, rfl, _, rfl, sz' (by show 3 ≤ 100000; decide), fun t nt => ?_⟩
        have st : Same H2 (upd H2 t (.tup [.str "join", .int (p.2.1 : Nat), .int (p.2.2 : Nat)])) := same_new nt
        refine ⟨_, st _ _ g1, by rw [List.length_map]; exact sz (by omega), M ++ [(t, p.2)], same_own (s2.trans st) n1, ?_, ?_, fun q' hq => ?_⟩
        · rw [upd_same, List.map_append]
          rfl
        · rw [List.map_append, g2, List.take_add_one, hei]
          rfl
        · refine sqt_lst (st _ _ g1) ?_
          rcases List.mem_append.mp hq with hq | hq
          · exact same_tup st (g3 q' hq)
          · have eq : q' = (t, p.2) := by simpa using hq
            rw [eq]
            exact SqT.of upd_same
    · rintro H2 ⟨M, s2, g1, g2, g3⟩
      rw [List.length_map, hLl, List.take_length] at g2
      refine .inl ⟨D1, _, rfl, SqL.of g1, fun tt ntt => ?_⟩
      have st : Same H2 (upd H2 tt (.tup (M.map fun q => V.ref q.1))) := same_new ntt
      have s3 : Same H (upd H2 tt (.tup (M.map fun q => V.ref q.1))) := (s1.trans s2).trans st
      refine ⟨b, tt, n, 0, id, new n, es, rfl, StoreAt.same (s2.trans st) hB, ⟨M, SqT.of upd_same, g2, fun q' hq => same_tup st (g3 q' hq)⟩, hv, Good.start n, by omega, hlen, by omega, hT.ext s3, fun H4 p s' an sp e4 T4 hp hs' han => ?_⟩
      refine ⟨p, _, rfl, hp, rfl, _, _, rfl, _, _, rfl, _, _, rfl, rfl, ?_⟩
      obtain ⟨u, m, j1, j2, j3⟩ := hs'
      refine ⟨_, rfl, s', _, 2, _, rfl, rfl, j1, atI_nat (j := 2) rfl, _, rfl, sz' (by show 2 ≤ 100000; decide), fun r nr => ?_⟩
      have s5 : Same H4 (upd H4 r (.tup [.ref u, .ref an])) := same_new nr
      exact q _ r u an (((ExtN.of s3).trans e4).trans (ExtN.of s5)) (T4.ext s5) (SqT.of upd_same) (same_tup s5 j2) (s5 _ _ han)
/-! ### without -/
theorem sc47 : FnScope ["many", "row", "number", "ups", "answers", "less", "others", "later", "k"] ["many", "row", "number"] (defScope (top 47)) := ⟨rfl, rfl, rfl, by decide +kernel, rfl, by decide +kernel, by decide +kernel⟩
def sp47 (K : PySem.W.Frag) (T : List (Addr × Str)) : Sp := fun vs H Q _ => ∃ (a : Addr) (n m : Nat) (es : List E), vs = [.int (n : Nat), .ref a, .int (m : Nat)] ∧ RowAt K H a es ∧ Val n es ∧ es.length ≤ 100 ∧ 1 ≤ n ∧ n ≤ 40 ∧ m < es.length ∧ Tabs T H ∧
  ∀ (H' : Hp) (p u l : Addr) (ks : List Int), ExtN H H' → Tabs T H' → SqT K H' p [.ref u, .ref l] → SqT K H' u (iv (sto n (es.eraseIdx m)).1) → SqT K H' l (ks.map V.int) → (ks ≠ [] → (ansU (new n) es).drop (m + 1) ≠ (ansU (new n) (es.eraseIdx m)).drop m) → Q (.ref p) H'
theorem ok47 {T : List (Addr × Str)} (D : Df K mg "without" (top 47) ["many", "row", "number"]) (Tt : Tx K mg) (c12 : Ca P w K mg base 1 "is_thing" sp12) (c41 : Ca P w K mg base 6 "check_joins" (sp41 K T)) (c46 : Ca P w K mg base 7 "joined" (sp46 K T)) : Ca P w K mg base 8 "without" (sp47 K T) := by
  refine D.ca sc47 (fun vs H Q E h => ?_) (fun f cdv A outer s H vs Q E hr h => ?_)
  · obtain ⟨a, n, m, es, rfl, _⟩ := h
    rfl
  · obtain ⟨a, n, m, es, rfl, hA0, hv, hlen, h1, h2, hm, hT, q⟩ := h
    have nd := sc47.nd
    obtain ⟨L, hA, hLe, hL⟩ := id hA0
    have hLl : L.length = es.length := by rw [← hLe, List.length_map]
    have hml : (L.map fun q => V.ref q.1).length = es.length := by rw [List.length_map, hLl]
    refine ⟨_, pss_cons (ps_expr (pc c41 hr (pa_cons (pv 0) (pa_cons (pv 1) pa_nil))))
      (pss_cons (ps_if (pt_not (pt_val (pc c12 hr (pa_cons (plen (K := K) Tt.len (pv 1)) (pa_cons (pv 2) pa_nil))))) (pss_one ps_never) pss_nil)
      (pss_cons (ps_asg (pc c46 hr (pa_cons (pv 0) (pa_cons (pv 1) pa_nil))) (pg_tup rfl (pgs_cons (pg_name (i := 3) nd rfl (.inl rfl)) (pgs_cons (pg_name (i := 4) nd rfl (.inr rfl)) pgs_nil))))
      (pss_cons (ps_asg (pc c46 hr (pa_cons (pv 0) (pa_cons (pe_op op_catA (psl (K := K) (pv 1) po_none (po_some (pv 2))) (psl (K := K) (pv 1) (po_some (pe_op op_add (pv 2) pe_int)) po_none)) pa_nil))) (pg_tup rfl (pgs_cons (pg_name (i := 5) nd rfl (.inl rfl)) (pgs_cons (pg_name (i := 6) nd rfl (.inr rfl)) pgs_nil))))
      (pss_cons (ps_setLc (i := 7) (own := [("k", 8)]) (g := gName 8) rfl nd rfl rfl (sw_true rfl rfl rfl (by decide +kernel)) (pi_range2 (by rfl) Tt.rng (pa_cons (pe_op op_add (pv 2) pe_int) (pa_cons (plen (K := K) Tt.len (pv 1)) pa_nil))) (blkOk_by (N := ["many", "row", "number", "ups", "answers", "less", "others", "later", "k"]) (sc := defScope (top 47)) (by decide +kernel))
          (fun _ _ _ _ _ => pg_name (i := 8) nd rfl (.inl rfl)) (fun _ _ _ _ _ => pts_one (pt_cmpR op_ne (pil (K := K) (pv 4) (pv 8)) (pil (K := K) (pv 6) (pe_op op_sub (pv 8) pe_int)) (nomark _))) (fun _ _ _ _ _ => pv 8))
      (pss_one (ps_ret (pe_tup (pa_cons (pv 5) (pa_cons (ptup (K := K) Tt.tup (pv 7)) pa_nil))))))))), ?_⟩
    refine ⟨_, rfl, _, rfl, a, n, es, rfl, hA0, hv, hlen, h1, h2, hT, fun H1 e1 T1 => ?_⟩
    have hA1 := RowAt.ext e1 hA0
    refine ⟨_, rfl, a, _, rfl, .inr (extN_tup e1 hA), _, rfl, _, _, rfl, _, rfl, ?_⟩
    rw [hml, decide_eq_true (by omega : (0 : Int) ≤ (m : Nat)), decide_eq_true (by omega : ((m : Nat) : Int) < (es.length : Nat))]
    refine iteF ?_
    refine ⟨_, rfl, _, rfl, a, n, es, rfl, hA1, hv, hlen, h1, h2, T1, fun H2 p2 u2 an e2 T2 hp2 hu2 han => ?_⟩
    refine ⟨p2, _, rfl, hp2, rfl, _, _, rfl, _, _, rfl, rfl, ?_⟩
    have e12 := e1.trans e2
    have hA2 := extN_tup e12 hA
    refine ⟨_, rfl, _, rfl, _, rfl, m, rfl, ?_⟩
    refine sl_uni hA2 fun H3 l1 s3 hl1 => ?_
    refine ⟨_, rfl, _, rfl, _, _, rfl, rfl, (m : Nat) + 1, rfl, ?_⟩
    unfold tNoPart
    refine sl_uni (same_tup s3 hA2) fun H4 l2 s4 hl2 => ?_
    have em : ((m : Nat) : Int) + 1 = ((m + 1 : Nat) : Int) := by omega
    rw [cut_to (by rw [hml]; omega)] at hl1
    rw [em, cut_from (by rw [hml]; omega)] at hl2
    refine cat_uni (same_tup s4 hl1) hl2 (by rw [List.length_take, List.length_drop, hml]; omega) fun H5 l3 s5 hl3 => ?_
    have s35 := (s3.trans s4).trans s5
    have hA5 : RowAt K H5 l3 (es.eraseIdx m) := by
      refine ⟨L.eraseIdx m, ?_, ?_, fun q' hq => same_tup s35 (extN_tup e12 (hL q' (List.mem_of_mem_eraseIdx hq)))⟩
      · rw [List.eraseIdx_eq_take_drop_succ, List.map_append, List.map_take, List.map_drop]
        exact hl3
      · rw [List.eraseIdx_eq_take_drop_succ, List.map_append, List.map_take, List.map_drop, hLe, ← List.eraseIdx_eq_take_drop_succ]
    have hle : (es.eraseIdx m).length = es.length - 1 := by rw [List.length_eraseIdx, if_pos hm]
    refine ⟨l3, n, es.eraseIdx m, rfl, hA5, fun e' me => hv e' (List.mem_of_mem_eraseIdx me), by omega, h1, h2, T2.ext s35, fun H6 p6 u6 an6 e6 T6 hp6 hu6 han6 => ?_⟩
    refine ⟨p6, _, rfl, hp6, rfl, _, _, rfl, _, _, rfl, rfl, ?_⟩
    have e56 : ExtN H2 H6 := (ExtN.of s35).trans e6
    have han' : H6 an = some (.lst ((ansU (new n) es).map V.bl)) := e56 _ _ han (fun _ z => by cases z)
    have hA6 : SqT K H6 a (L.map fun q => V.ref q.1) := extN_tup (e12.trans e56) hA
    refine ⟨_, rfl, _, _, rfl, rfl, _, rfl, a, _, rfl, .inr hA6, _, _, rfl, ⟨by omega, by omega, by rw [hml]; omega, by rw [hml]; omega⟩, fun D1 n1 => ?_⟩
    rw [hml, show (((es.length : Nat) : Int) - (((m : Nat) : Int) + 1)).toNat = es.length - (m + 1) by omega]
    refine lc_range (lo := ((m : Nat) : Int) + 1) (n := es.length - (m + 1)) (fun i H' => ∃ ks : List Int, Same H6 H' ∧ H' D1 = some (.lst (ks.map V.int)) ∧ ks.length ≤ i ∧ (ks ≠ [] → (ansU (new n) es).drop (m + 1) ≠ (ansU (new n) (es.eraseIdx m)).drop m)) ⟨[], same_new n1, upd_same, Nat.le_refl _, fun z => absurd rfl z⟩ ?_ ?_
    · rintro i H7 hi ⟨ks, s7, g1, g2, g3⟩
      refine ⟨rfl, ?_⟩
      have hW : ∃ x, (ansU (new n) es)[m + 1 + i]? = some x := ⟨_, List.getElem?_eq_getElem (by rw [ansU_len]; omega)⟩
      have hR : ∃ y, (ansU (new n) (es.eraseIdx m))[m + i]? = some y := ⟨_, List.getElem?_eq_getElem (by rw [ansU_len, hle]; omega)⟩
      obtain ⟨x, hx⟩ := hW
      obtain ⟨y, hy⟩ := hR
      have ei : (((m : Nat) : Int) + 1 + (i : Nat)) = ((m + 1 + i : Nat) : Int) := by omega
      have ej : (((m : Nat) : Int) + 1 + (i : Nat)) - 1 = ((m + i : Nat) : Int) := by omega
      refine ⟨_, rfl, _, rfl, an, _, _, .bl x, rfl, rfl, SqL.of (s7 _ _ han'), by rw [ei]; exact atI_nat (by rw [List.getElem?_map, hx]; rfl), ?_⟩
      refine ⟨_, rfl, _, rfl, _, _, rfl, rfl, an6, _, _, .bl y, rfl, rfl, SqL.of (s7 _ _ han6), by rw [ej]; exact atI_nat (by rw [List.getElem?_map, hy]; rfl), ?_⟩
      refine ⟨rfl, _, rfl, ?_⟩
      by_cases hxy : x = y
      · rw [hxy, decide_eq_true rfl]
        exact iteF ⟨ks, s7, g1, by omega, g3⟩
      · rw [decide_eq_false (fun z => hxy (V.bl.inj z))]
        refine iteT ⟨_, rfl, _, g1, by rw [List.length_map]; exact sz (by omega), ks ++ [((m : Nat) : Int) + 1 + (i : Nat)], same_own s7 n1, by rw [upd_same, List.map_append]; rfl, by rw [List.length_append]; show ks.length + 1 ≤ i + 1; omega, fun _ z => ?_⟩
        have z1 := congrArg (fun l => l[i]?) z
        simp only [List.getElem?_drop] at z1
        rw [hx, hy] at z1
        exact hxy (Option.some.inj z1)
    · rintro H7 ⟨ks, s7, g1, g2, g3⟩
      refine ⟨_, rfl, _, rfl, .inl ⟨D1, _, rfl, SqL.of g1, fun l nl => ?_⟩⟩
      have s8 : Same H7 (upd H7 l (.tup (ks.map V.int))) := same_new nl
      refine ⟨sz' (by show 2 ≤ 100000; decide), fun p np => ?_⟩
      have s9 := s8.trans (same_new (o := .tup [.ref u6, .ref l]) np)
      have s79 := s7.trans s9
      exact q _ p u6 l ks ((e12.trans e56).trans (ExtN.of s79)) (T6.ext s79) (SqT.of upd_same) (same_tup s79 hu6) (SqT.of (same_new np _ _ upd_same)) g3
end
end LH
/-! LhQ -/
set_option Elab.async false
set_option linter.all false
set_option maxRecDepth 100000
set_option maxHeartbeats 1000000
namespace LH
open PySem PySem.Spec PyProof.Rows L2 LamX
/-! ### the class -/
abbrev mS (j : Nat) : Stmt := inClass (top 49) j
section
variable (P : Program) (w : World) (K : PySem.W.Frag) (mg : Str → Option Value) (base : Heap)
structure Me (k : Nat) (C : Addr) (m : Str) (sp : Sp) : Prop where
  ex : ∃ (f : Addr) (fd : FuncData) (ps : List Str), Cls K C ∧ Meth K C m f ∧ FnOk P w K mg base CX0 k f fd ps sp ∧ Binds K fd ps []
structure Ma (k : Nat) (x : Str) (C : Addr) (sp : Sp) : Prop where
  ex : ∃ (f : Addr) (fd : FuncData) (ps : List Str), Mk K C f ∧ FnOk P w K mg base CX0 k f fd ps sp ∧ mg x = some (.ref C) ∧ Binds K fd ps []
structure Dm (m qual : Str) (st : Stmt) (ps : List Str) (C : Addr) : Prop where
  ex : ∃ (f : Addr) (fd : FuncData), Fun K m qual st f fd ∧ Cls K C ∧ Meth K C m f ∧ Binds K fd ps []
structure Di (x qual : Str) (st : Stmt) (ps : List Str) (C : Addr) : Prop where
  ex : ∃ (f : Addr) (fd : FuncData), Fun K "__init__" qual st f fd ∧ Mk K C f ∧ mg x = some (.ref C) ∧ Binds K fd ps []
end
section
variable {P : Program} {w : World} {K : PySem.W.Frag} {mg : Str → Option Value} {base : Heap}
theorem Dm.me {m qual : Str} {st : Stmt} {N ps : List Str} {k : Nat} {sp : Sp} {C : Addr} (D : Dm K m qual st ps C) (S : FnScope N ps (defScope st)) (len : ∀ vs H Q E, sp vs H Q E → vs.length = ps.length)
    (hbody : ∀ (f : Addr) (cdv : Value) (A : Around) (outer : List Env) (s : Shared) (H : Hp) (vs : List V) (Q : VK) (E : XK), Room k (A.deeper (envOfC qual (defScope st) s.heap.objs.size f cdv)) → sp vs H Q E →
      ∃ t, PSs (cxOf CX0 P w K mg base N qual (defScope st) f cdv A outer s H E).nox (defBody st) t ∧ t { nx := fun _ H' => Q .non H', rt := Q } (start N vs) H) : Me P w K mg base (k + 1) C m sp := by
  obtain ⟨f, fd, F, c, me, b⟩ := D.ex
  exact ⟨f, fd, ps, c, me, F.ok S len (hbody f), b⟩
theorem Di.ma {x qual : Str} {st : Stmt} {N ps : List Str} {k : Nat} {sp : Sp} {C : Addr} (D : Di K mg x qual st ps C) (S : FnScope N ps (defScope st)) (len : ∀ vs H Q E, sp vs H Q E → vs.length = ps.length)
    (hbody : ∀ (f : Addr) (cdv : Value) (A : Around) (outer : List Env) (s : Shared) (H : Hp) (vs : List V) (Q : VK) (E : XK), Room k (A.deeper (envOfC qual (defScope st) s.heap.objs.size f cdv)) → sp vs H Q E →
      ∃ t, PSs (cxOf CX0 P w K mg base N qual (defScope st) f cdv A outer s H E).nox (defBody st) t ∧ t { nx := fun _ H' => Q .non H', rt := Q } (start N vs) H) : Ma P w K mg base (k + 1) x C sp := by
  obtain ⟨f, fd, F, me, hm, b⟩ := D.ex
  exact ⟨f, fd, ps, me, F.ok S len (hbody f), hm, b⟩
end
section
variable {X : Cx} {k j : Nat} {C : Addr} {x m : Str} {sp : Sp} {p pos apos : Pos} {e o : Expr} {es : List Expr} {ta : TE} {t : TA} {pl : Sem Bool}
theorem pmk (c : Ma X.prog X.w X.K X.mg X.base k x C sp) (hr : Room j X.A) (ha : PA X (e :: es) t) (hk : k + 1 ≤ j := by decide) (hg : Gl X x := by rfl)
    (hdb : (x == ("__debug__" : Str)) = false := by decide) (he : starEach (e :: es) X.env = (false, eval e X.env) :: starEach es X.env := by rfl) (hpl : (backTo pos (starEach es X.env)).any (·.1) = false := by rfl) :
    PE X (.Call (.Name x p) (e :: es) [] pos) (tMake C sp [] E0 t) := by
  obtain ⟨f, fd, ps, M, F, hm, b⟩ := c.ex
  exact pe_make M F (hr.mono hk) hg hm b .nil pass0 ha hdb he hpl
theorem pmt (c : Me X.prog X.w X.K X.mg X.base k C m sp) (hr : Room j X.A) (he : PE X o ta) (ha : PA X (e :: es) t) (hk : k ≤ j := by decide)
    (hst : starEach (e :: es) X.env = (false, eval e X.env) :: starEach es X.env := by rfl) (hpl : (backTo pos (starEach es X.env)).any (·.1) = false := by rfl)
    (ht : eval (.Call (.Attribute o m apos) (e :: es) [] pos) X.env = (do
      let ov ← eval o X.env
      standAt apos.atName
      let (f, first) ← holding [ov] (getMethod ov m pl)
      callWith pos f first (backTo pos (starEach (e :: es) X.env)) (backToKw pos (keywordEach [] X.env))) := by rfl) :
    PE X (.Call (.Attribute o m apos) (e :: es) [] pos) (tMeth C m sp [] E0 ta t) := by
  obtain ⟨f, fd, ps, hc, hm, F, b⟩ := c.ex
  exact pe_meth (pl := pl) he hc hm F (hr.mono hk) b .nil pass0 ha hst hpl ht
theorem pmt0 (c : Me X.prog X.w X.K X.mg X.base k C m sp) (hr : Room j X.A) (he : PE X o ta) (hk : k ≤ j := by decide)
    (ht : eval (.Call (.Attribute o m apos) [] [] pos) X.env = (do
      let ov ← eval o X.env
      standAt apos.atName
      let (f, first) ← holding [ov] (getMethod ov m pl)
      callWith pos f first (backTo pos (starEach [] X.env)) (backToKw pos (keywordEach [] X.env))) := by rfl) :
    PE X (.Call (.Attribute o m apos) [] [] pos) (tMeth C m sp [] E0 ta tNil) := by
  obtain ⟨f, fd, ps, hc, hm, F, b⟩ := c.ex
  exact pe_meth0 (pl := pl) he hc hm F (hr.mono hk) b .nil pass0 ht
/-- e.f -/
theorem pfl {K : PySem.W.Frag} {f : Str} {te : TE} (he : PE X e te) (hK : X.K = K := by rfl) (hb : attributeBase e f X.env (eval e X.env) = eval e X.env := by rfl) : PE X (.Attribute e f pos) (tFld K te f) := by
  subst hK
  exact pe_fld he hb
end
/-! ### a pile -/
theorem nes : ¬ (("stood" : Str) = "stack") := by decide +kernel
def pf (l m : Addr) : List (Str × V) := putF "stack" (.ref m) (putF "stood" (.ref l) [])
theorem pf_eq (l m : Addr) : pf l m = ([("stood", V.ref l), ("stack", V.ref m)] : List (Str × V)) := by
  show (if ("stood" : Str) = "stack" then [(("stood" : Str), V.ref m)] else (("stood" : Str), V.ref l) :: putF "stack" (V.ref m) []) = ([("stood", V.ref l), ("stack", V.ref m)] : List (Str × V))
  rw [if_neg nes]
  all_goals rfl
theorem pf_stood (l m : Addr) : (pf l m).lookup ("stood" : Str) = some (.ref l) := by
  unfold pf
  rw [lookup_putF, if_neg nes, lookup_putF, if_pos rfl]
theorem pf_stack (l m : Addr) : (pf l m).lookup ("stack" : Str) = some (.ref m) := by
  unfold pf
  rw [lookup_putF, if_pos rfl]
theorem pf_no (l m : Addr) {x : Str} (h1 : ¬ x = "stack") (h2 : ¬ x = "stood") : (pf l m).lookup x = none := by
  unfold pf
  rw [lookup_putF, if_neg h1, lookup_putF, if_neg h2]
  rfl
/-- a pile at p, its lists at l and m -/
structure PileX (K : PySem.W.Frag) (C : Addr) (H : Hp) (p l m : Addr) (n : Nat) (es : List E) : Prop where
  ne : l ≠ m
  ins : ∃ dx, H p = some (.ins C dx (pf l m))
  stood : ∃ (ss : List V) (s : Addr), H l = some (.lst (ss ++ [.ref s])) ∧ StoreAt K H s (sto n es) ∧ ss.length = es.length
  stack : ∃ L : List (Addr × E), H m = some (.lst (L.map fun q => V.ref q.1)) ∧ L.map (·.2) = es ∧ ∀ q ∈ L, SqT K H q.1 [.int (q.2.1 : Nat), .int (q.2.2 : Nat)]
def PileAt (K : PySem.W.Frag) (C : Addr) (H : Hp) (p : Addr) (n : Nat) (es : List E) : Prop := ∃ l m : Addr, PileX K C H p l m n es
theorem PileAt.ext {K : PySem.W.Frag} {C : Addr} {H H' : Hp} {p : Addr} {n : Nat} {es : List E} (e : ExtN H H') (h : PileAt K C H p n es) : PileAt K C H' p n es := by
  obtain ⟨l, m, ne, ⟨dx, h1⟩, ⟨ss, s, h2, h3, h4⟩, ⟨L, h5, h6, h7⟩⟩ := h
  exact ⟨l, m, ne, ⟨dx, e _ _ h1 (fun _ z => by cases z)⟩, ⟨ss, s, e _ _ h2 (fun _ z => by cases z), extN_store e h3, h4⟩, ⟨L, e _ _ h5 (fun _ z => by cases z), h6, fun q hq => extN_tup e (h7 q hq)⟩⟩
theorem PileAt.same {K : PySem.W.Frag} {C : Addr} {H H' : Hp} {p : Addr} {n : Nat} {es : List E} (e : Same H H') (h : PileAt K C H p n es) : PileAt K C H' p n es := h.ext (ExtN.of e)
structure Cl (K : PySem.W.Frag) (C : Addr) : Prop where
  cl : Cls K C
  nA : NoAttr K C "stood"
  nB : NoAttr K C "stack"
section
variable {P : Program} {w : World} {K : PySem.W.Frag} {mg : Str → Option Value} {base : Heap} {C : Addr}
theorem scI : FnScope ["self", "many"] ["self", "many"] (defScope (mS 0)) := ⟨rfl, rfl, rfl, by decide +kernel, rfl, by decide +kernel, by decide +kernel⟩
def spInit (K : PySem.W.Frag) (C : Addr) : Sp := fun vs H Q _ => ∃ (p dx : Addr) (n : Nat), vs = [.ref p, .int (n : Nat)] ∧ H p = some (.ins C dx []) ∧ 1 ≤ n ∧ n ≤ 40 ∧
  ∀ (H' : Hp) (l m : Addr), (∀ b o, H b = some o → b ≠ p → H' b = some o) → H l = none → H m = none → l ≠ m → PileX K C H' p l m n [] → Q .non H'
theorem okI (D : Di K mg "Pile" "Pile.__init__" (mS 0) ["self", "many"] C) (T : Cl K C) (c34 : Ca P w K mg base 3 "new_store" (sp34 K)) : Ma P w K mg base 4 "Pile" C (spInit K C) := by
  refine D.ma scI (fun vs H Q E h => ?_) (fun f cdv A outer s H vs Q E hr h => ?_)
  · obtain ⟨p, dx, n, rfl, _⟩ := h
    rfl
  · obtain ⟨p, dx, n, rfl, hp, h1, h2, q⟩ := h
    refine ⟨_, pss_cons (ps_fld (pv 0) (pe_lst (pa_cons (pc c34 hr (pa_cons (pv 1) (pa_cons pe_str (pa_cons pe_str pa_nil)))) pa_nil)) rfl) (pss_one (ps_fld (pv 0) (pe_lst pa_nil) rfl)), ?_⟩
    refine ⟨_, rfl, n, rfl, h1, h2, fun H1 b s1 hB => ⟨sz' (by show 1 ≤ 100000; decide), fun l nl => ?_⟩⟩
    have hp1 := s1 _ _ hp
    have npl : p ≠ l := ne_of_none hp1 nl
    refine ⟨_, rfl, p, C, dx, [], rfl, by rw [upd_ne npl]; exact hp1, T.cl, T.nA, (by show 0 < 1000; decide), ?_⟩
    refine ⟨Nat.zero_le _, fun m nm => ?_⟩
    obtain ⟨nmp, nm2⟩ := upd_none' nm
    obtain ⟨nml, nm1⟩ := upd_none' nm2
    refine ⟨_, rfl, p, C, dx, _, rfl, by rw [upd_ne (Ne.symm nmp), upd_same], T.cl, T.nB, (by show 1 < 1000; decide), ?_⟩
    have nl0 : H l = none := s1.free nl
    have nm0 : H m = none := s1.free nm1
    refine q _ l m (fun b' o e hb => ?_) nl0 nm0 (Ne.symm nml) ⟨Ne.symm nml, ⟨dx, upd_same⟩, ⟨[], b, ?_, ?_, rfl⟩, ⟨[], ?_, rfl, fun q hq => absurd hq (by simp)⟩⟩
    · have e1 := s1 _ _ e
      rw [upd_ne hb, upd_ne (ne_of_none e nm0), upd_ne hb, upd_ne (ne_of_none e nl0)]
      exact e1
    · rw [upd_ne (Ne.symm npl), upd_ne (Ne.symm nml), upd_ne (Ne.symm npl), upd_same]
      rfl
    · obtain ⟨u, v, g1, g2, g3⟩ := hB
      have up : ∀ {a : Addr} {xs : List V}, SqT K H1 a xs → SqT K (upd (upd (upd (upd H1 l (.lst [.ref b])) p (.ins C dx (putF "stood" (.ref l) []))) m (.lst [])) p (.ins C dx (putF "stack" (.ref m) (putF "stood" (.ref l) [])))) a xs := fun {a xs} h => by
        have t1 : SqT K (upd H1 l (.lst [.ref b])) a xs := same_tup (same_new nl) h
        have t2 : SqT K (upd (upd H1 l (.lst [.ref b])) p (.ins C dx (putF "stood" (.ref l) []))) a xs := sqt_upd (fun ys z => by rw [upd_ne npl, hp1] at z; cases z) (fun u ys z => by rw [upd_ne npl, hp1] at z; cases z) t1
        have t3 : SqT K (upd (upd (upd H1 l (.lst [.ref b])) p (.ins C dx (putF "stood" (.ref l) []))) m (.lst [])) a xs := same_tup (same_new nm) t2
        exact sqt_upd (fun ys z => by rw [upd_ne (Ne.symm nmp), upd_same] at z; cases z) (fun u ys z => by rw [upd_ne (Ne.symm nmp), upd_same] at z; cases z) t3
      exact ⟨u, v, up g1, up g2, up g3⟩
    · rw [upd_ne nmp, upd_same]
      rfl
end
end LH
/-! LhS -/
set_option Elab.async false
set_option linter.all false
set_option maxRecDepth 100000
set_option maxHeartbeats 1000000
namespace LH
open PySem PySem.Spec PyProof.Rows L2 LamX
theorem sto_snoc (n : Nat) (es : List E) (e : E) : sto n (es ++ [e]) = stp (sto n es) e := by
  unfold sto
  rw [List.foldl_append]
  rfl
section
variable {P : Program} {w : World} {K : PySem.W.Frag} {mg : Str → Option Value} {base : Heap} {C : Addr}
theorem scJ : FnScope ["self", "x", "y", "many", "store", "answer", "steps"] ["self", "x", "y"] (defScope (mS 1)) := ⟨rfl, rfl, rfl, by decide +kernel, rfl, by decide +kernel, by decide +kernel⟩
def spJ (K : PySem.W.Frag) (C : Addr) : Sp := fun vs H Q _ => ∃ (p l m : Addr) (n x y : Nat) (es : List E), vs = [.ref p, .int (x : Nat), .int (y : Nat)] ∧ PileX K C H p l m n es ∧ Val n es ∧ x < n ∧ y < n ∧ es.length ≤ 99 ∧ n ≤ 40 ∧
  ∀ H' : Hp, (∀ b o, H b = some o → b ≠ l → b ≠ m → H' b = some o) → PileX K C H' p l m n (es ++ [(x, y)]) → Q (.bl (ansS (sto n es) (x, y))) H'
theorem okJ (D : Dm K "join" "Pile.join" (mS 1) ["self", "x", "y"] C) (T : Cl K C) (Tt : Tx K mg) (c13 : Ca P w K mg base 2 "check_number" sp13) (c43 : Ca P w K mg base 4 "deed_done" (sp43 K)) : Me P w K mg base 5 C "join" (spJ K C) := by
  refine D.me scJ (fun vs H Q E h => ?_) (fun f cdv A outer s H vs Q E hr h => ?_)
  · obtain ⟨p, l, m, n, x, y, es, rfl, _⟩ := h
    rfl
  · obtain ⟨p, l, m, n, x, y, es, rfl, ⟨ne, ⟨dx, hp⟩, ⟨ss, b, hl, hB, hss⟩, ⟨L, hm, hLe, hL⟩⟩, hv, hx, hy, hlen, hn, q⟩ := h
    have nd := scJ.nd
    obtain ⟨G, _⟩ := Good.of es (by omega) hv
    have hLl : L.length = es.length := by rw [← hLe, List.length_map]
    refine ⟨_, pss_cons (ps_set (i := 3) nd rfl (.inl rfl) (plen (K := K) Tt.len (pit (K := K) (pil (K := K) (pfl (K := K) (pv 0)) (pe_un un_neg pe_int)) pe_int)))
      (pss_cons (ps_expr (pc c13 hr (pa_cons (pv 3) (pa_cons (pv 1) pa_nil)))) (pss_cons (ps_expr (pc c13 hr (pa_cons (pv 3) (pa_cons (pv 2) pa_nil))))
      (pss_cons (ps_asg (pc c43 hr (pa_cons (pil (K := K) (pfl (K := K) (pv 0)) (pe_un un_neg pe_int)) (pa_cons (pe_tup (pa_cons pe_str (pa_cons (pv 1) (pa_cons (pv 2) pa_nil)))) pa_nil))) (pg_tup rfl (pgs_cons (pg_name (i := 4) nd rfl (.inl rfl)) (pgs_cons (pg_name (i := 5) nd rfl (.inl rfl)) (pgs_cons (pg_name (i := 6) nd rfl (.inl rfl)) pgs_nil)))))
      (pss_cons (ps_expr (pe_bm PySem.F.plainAttrs_list PySem.F.slot_list_append PySem.F.type_list_append mt_append (pfl (K := K) (pv 0)) (pa_cons (pv 4) pa_nil)))
      (pss_cons (ps_expr (pe_bm PySem.F.plainAttrs_list PySem.F.slot_list_append PySem.F.type_list_append mt_append (pfl (K := K) (pv 0)) (pa_cons (pe_tup (pa_cons (pv 1) (pa_cons (pv 2) pa_nil))) pa_nil)))
      (pss_one (ps_ret (pv 5)))))))), ?_⟩
    obtain ⟨u, mm, g1, g2, g3⟩ := id hB
    have last : atI (ss ++ [V.ref b]) (-1) = some (.ref b) := atI_last _ _
    refine ⟨_, rfl, p, C, dx, _, _, rfl, hp, T.cl, T.nA, pf_stood _ _, 1, rfl, l, _, -1, _, rfl, rfl, SqL.of hl, last, b, _, 2, _, rfl, rfl, g1, atI_nat (j := 2) rfl, u, _, rfl, .inr g2, ?_⟩
    rw [iv_len, G.fo.len]
    refine ⟨_, rfl, _, rfl, _, _, rfl, by omega, by omega, ?_⟩
    refine ⟨_, rfl, _, rfl, _, _, rfl, by omega, by omega, ?_⟩
    refine ⟨_, rfl, p, C, dx, _, _, rfl, hp, T.cl, T.nA, pf_stood _ _, 1, rfl, l, _, -1, _, rfl, rfl, SqL.of hl, last, ?_⟩
    refine ⟨_, rfl, _, rfl, sz' (by show 3 ≤ 100000; decide), fun t nt => ?_⟩
    have st : Same H (upd H t (.tup [.str "join", .int (x : Nat), .int (y : Nat)])) := same_new nt
    refine ⟨b, t, x, y, n, es.length, _, sto n es, rfl, StoreAt.same st hB, SqT.of upd_same, G, by omega, hx, hy, by omega, fun H2 p2 b2 z s2 hp2 hB2 => ?_⟩
    have s12 := st.trans s2
    refine ⟨p2, _, rfl, hp2, rfl, _, _, rfl, _, _, rfl, _, _, rfl, rfl, ?_⟩
    have kp := s12 _ _ hp
    have kl := s12 _ _ hl
    have km := s12 _ _ hm
    have nlp : p ≠ l := ne_of hp hl (fun z => by cases z)
    have nmp : p ≠ m := ne_of hp hm (fun z => by cases z)
    refine ⟨_, rfl, p, C, dx, _, _, rfl, kp, T.cl, T.nA, pf_stood _ _, .inl ⟨rfl, _, SqL.of kl⟩, _, rfl, l, _, _, rfl, rfl, kl, by rw [List.length_append, hss]; exact sz (by show es.length + 1 ≤ 100000; omega), ?_⟩
    have kp3 : (upd H2 l (.lst (ss ++ [.ref b] ++ [.ref b2]))) p = some (.ins C dx (pf l m)) := by rw [upd_ne nlp]; exact kp
    have km3 : (upd H2 l (.lst (ss ++ [.ref b] ++ [.ref b2]))) m = some (.lst (L.map fun q => V.ref q.1)) := by rw [upd_ne (Ne.symm ne)]; exact km
    refine ⟨_, rfl, p, C, dx, _, _, rfl, kp3, T.cl, T.nB, pf_stack _ _, .inl ⟨rfl, _, SqL.of km3⟩, _, rfl, _, rfl, sz' (by show 2 ≤ 100000; decide), fun t2 nt2 => ?_⟩
    have st2 : Same (upd H2 l (.lst (ss ++ [.ref b] ++ [.ref b2]))) (upd (upd H2 l (.lst (ss ++ [.ref b] ++ [.ref b2]))) t2 (.tup [.int (x : Nat), .int (y : Nat)])) := same_new nt2
    have km4 := st2 _ _ km3
    refine ⟨m, _, _, rfl, rfl, km4, by rw [List.length_map]; exact sz (by omega), _, rfl, ?_⟩
    have up : ∀ {a : Addr} {xs : List V}, SqT K H2 a xs → SqT K (upd (upd (upd H2 l (.lst (ss ++ [.ref b] ++ [.ref b2]))) t2 (.tup [.int (x : Nat), .int (y : Nat)])) m (.lst ((L.map fun q => V.ref q.1) ++ [.ref t2]))) a xs := fun {a xs} h => sqt_lst km4 (same_tup st2 (sqt_lst kl h))
    have nt2l : l ≠ t2 := ne_of_none (show (upd H2 l (.lst (ss ++ [.ref b] ++ [.ref b2]))) l = some _ from upd_same) nt2
    refine q _ (fun c o e h1 h2 => ?_) ⟨ne, ⟨dx, ?_⟩, ⟨ss ++ [.ref b], b2, ?_, ?_, by rw [List.length_append, List.length_append, hss]; rfl⟩, ⟨L ++ [(t2, (x, y))], ?_, by rw [List.map_append, hLe]; rfl, fun q' hq => ?_⟩⟩
    · rw [upd_ne h2]
      refine st2 _ _ ?_
      rw [upd_ne h1]
      exact s12 _ _ e
    · rw [upd_ne nmp]
      exact st2 _ _ kp3
    · rw [upd_ne ne]
      exact st2 _ _ upd_same
    · rw [sto_snoc]
      obtain ⟨u', m', j1, j2, j3⟩ := hB2
      exact ⟨u', m', up j1, up j2, up j3⟩
    · rw [upd_same, List.map_append]
      rfl
    · rcases List.mem_append.mp hq with hq | hq
      · exact up (same_tup s12 (hL q' hq))
      · have eq : q' = (t2, (x, y)) := by simpa using hq
        rw [eq]
        exact sqt_lst km4 (SqT.of upd_same)
theorem scU : FnScope ["self"] ["self"] (defScope (mS 4)) := ⟨rfl, rfl, rfl, by decide +kernel, rfl, by decide +kernel, by decide +kernel⟩
def spU (K : PySem.W.Frag) (C : Addr) : Sp := fun vs H Q _ => ∃ (p : Addr) (n : Nat) (es : List E), vs = [.ref p] ∧ PileAt K C H p n es ∧ ∀ u : Addr, SqT K H u (iv (sto n es).1) → Q (.ref u) H
theorem okU (D : Dm K "ups" "Pile.ups" (mS 4) ["self"] C) (T : Cl K C) : Me P w K mg base 1 C "ups" (spU K C) := by
  refine D.me scU (fun vs H Q E h => ?_) (fun f cdv A outer s H vs Q E hr h => ?_)
  · obtain ⟨p, n, es, rfl, _⟩ := h
    rfl
  · obtain ⟨p, n, es, rfl, ⟨l, m, ne, ⟨dx, hp⟩, ⟨ss, b, hl, ⟨u, v, g1, g2, g3⟩, hss⟩, _⟩, q⟩ := h
    refine ⟨_, pss_one (ps_ret (pit (K := K) (pil (K := K) (pfl (K := K) (pv 0)) (pe_un un_neg pe_int)) pe_int)), ?_⟩
    exact ⟨_, rfl, p, C, dx, _, _, rfl, hp, T.cl, T.nA, pf_stood _ _, 1, rfl, l, _, -1, _, rfl, rfl, SqL.of hl, atI_last _ _, b, _, 2, _, rfl, rfl, g1, atI_nat (j := 2) rfl, q u g2⟩
theorem scLo : FnScope ["self"] ["self"] (defScope (mS 5)) := ⟨rfl, rfl, rfl, by decide +kernel, rfl, by decide +kernel, by decide +kernel⟩
def spLo (K : PySem.W.Frag) (C : Addr) : Sp := fun vs H Q _ => ∃ (p : Addr) (n : Nat) (es : List E), vs = [.ref p] ∧ PileAt K C H p n es ∧ Val n es ∧ es.length ≤ 100 ∧ 1 ≤ n ∧ n ≤ 40 ∧
  ∀ (H' : Hp) (a : Addr) (ls : List (List Nat)), Same H H' → LotsAt K H' a ls → Lots n (qf id es) ls → Q (.ref a) H'
theorem okLo (D : Dm K "lots" "Pile.lots" (mS 5) ["self"] C) (T : Cl K C) (c17 : Ca P w K mg base 4 "lots_of" (sp17 K)) : Me P w K mg base 5 C "lots" (spLo K C) := by
  refine D.me scLo (fun vs H Q E h => ?_) (fun f cdv A outer s H vs Q E hr h => ?_)
  · obtain ⟨p, n, es, rfl, _⟩ := h
    rfl
  · obtain ⟨p, n, es, rfl, ⟨l, m, ne, ⟨dx, hp⟩, ⟨ss, b, hl, ⟨u, v, g1, g2, g3⟩, hss⟩, _⟩, hv, hlen, h1, h2, q⟩ := h
    obtain ⟨G, _⟩ := Good.of es (by omega) hv
    refine ⟨_, pss_one (ps_ret (pc c17 hr (pa_cons (pit (K := K) (pil (K := K) (pfl (K := K) (pv 0)) (pe_un un_neg pe_int)) pe_int) pa_nil))), ?_⟩
    refine ⟨_, rfl, p, C, dx, _, _, rfl, hp, T.cl, T.nA, pf_stood _ _, 1, rfl, l, _, -1, _, rfl, rfl, SqL.of hl, atI_last _ _, b, _, 2, _, rfl, rfl, g1, atI_nat (j := 2) rfl, ?_⟩
    exact ⟨u, n, es.length, _, rfl, g2, G.fo, by omega, h1, h2, fun H' a ls s1 hls ll => q H' a ls s1 hls ⟨ll.is.rel G.rel, ll.ord⟩⟩
theorem scJs : FnScope ["self"] ["self"] (defScope (mS 6)) := ⟨rfl, rfl, rfl, by decide +kernel, rfl, by decide +kernel, by decide +kernel⟩
def spJs (K : PySem.W.Frag) (C : Addr) : Sp := fun vs H Q _ => ∃ (p : Addr) (n : Nat) (es : List E), vs = [.ref p] ∧ PileAt K C H p n es ∧ ∀ (H' : Hp) (a : Addr), Same H H' → RowAt K H' a es → Q (.ref a) H'
theorem okJs (D : Dm K "joins" "Pile.joins" (mS 6) ["self"] C) (T : Cl K C) (Tt : Tx K mg) : Me P w K mg base 1 C "joins" (spJs K C) := by
  refine D.me scJs (fun vs H Q E h => ?_) (fun f cdv A outer s H vs Q E hr h => ?_)
  · obtain ⟨p, n, es, rfl, _⟩ := h
    rfl
  · obtain ⟨p, n, es, rfl, ⟨l, m, ne, ⟨dx, hp⟩, _, ⟨L, hm, hLe, hL⟩⟩, q⟩ := h
    refine ⟨_, pss_one (ps_ret (ptup (K := K) Tt.tup (pfl (K := K) (pv 0)))), ?_⟩
    refine ⟨_, rfl, p, C, dx, _, _, rfl, hp, T.cl, T.nB, pf_stack _ _, .inl ⟨m, _, rfl, SqL.of hm, fun a na => ?_⟩⟩
    exact q _ a (same_new na) ⟨L, SqT.of upd_same, hLe, fun q' hq => same_tup (same_new na) (hL q' hq)⟩
end
end LH
/-! LhT -/
set_option Elab.async false
set_option linter.all false
set_option maxRecDepth 100000
set_option maxHeartbeats 1000000
namespace LH
open PySem PySem.Spec PyProof.Rows L2 LamX
section
variable {P : Program} {w : World} {K : PySem.W.Frag} {mg : Str → Option Value} {base : Heap}
/-! ### _law_cell -/
theorem sc51 : FnScope ["_law_script", "_law_k", "_law_state", "_law_cell_here"] ["_law_script", "_law_k"] (defScope (top 51)) := ⟨rfl, rfl, rfl, by decide +kernel, rfl, by decide +kernel, by decide +kernel⟩
def sp51 (K : PySem.W.Frag) : Sp := fun vs H Q _ => ∃ (a : Addr) (k : Nat) (ns : List Int), vs = [.ref a, .int (k : Nat)] ∧ SqL K H a (ns.map V.int) ∧ k ≤ 100 ∧ ns.length ≤ 1000 ∧ ∀ (H' : Hp) (z : Int), Same H H' → Q (.int z) H'
theorem ok51 (D : Df K mg "_law_cell" (top 51) ["_law_script", "_law_k"]) (T : Tx K mg) : Ca P w K mg base 1 "_law_cell" (sp51 K) := by
  refine D.ca sc51 (fun vs H Q E h => ?_) (fun f cdv A outer s H vs Q E hr h => ?_)
  · obtain ⟨a, k, ns, rfl, _⟩ := h
    rfl
  · obtain ⟨a, k, ns, rfl, hA, hk, hl, q⟩ := h
    have nd := sc51.nd
    refine ⟨_, pss_cons (ps_if (pt_cmpR op_lt (pv 1) (plen (K := K) T.len (pv 0)) (nomark _)) (pss_one (ps_ret (pil (K := K) (pv 0) (pv 1)))) pss_nil)
      (pss_cons (ps_set (i := 2) nd rfl (.inl rfl) (pe_op op_mod (pe_op op_mul pe_int (pe_op op_add (pe_op op_add (pe_op op_mul (pv 1) (pv 1)) (pe_op op_mul pe_int (pv 1))) pe_int)) pe_int))
      (pss_cons (ps_for PassesOwn.never rfl (pi_list (pe_slice sl_list (pv 0) po_none (po_some pe_int))) (pg_name (i := 3) nd rfl (.inl rfl))
        (pss_one (ps_set (i := 2) nd rfl (.inl rfl) (pe_op op_mod (pe_op op_add (pe_op op_mul (pv 2) pe_int) (pv 3)) pe_int))))
      (pss_one (ps_ret (pv 2))))), ?_⟩
    refine ⟨_, rfl, _, rfl, a, _, rfl, .inl hA, _, _, rfl, rfl, _, rfl, ite2 (fun hlt => ?_) (fun _ => ?_)⟩
    · have hlt := of_decide_eq_true hlt
      rw [List.length_map] at hlt
      have hkn : k < ns.length := by omega
      exact ⟨_, rfl, _, rfl, a, _, _, .int ns[k], rfl, rfl, hA, atI_nat (by rw [List.getElem?_map, List.getElem?_eq_getElem hkn]; rfl), q H _ (Same.refl H)⟩
    · refine ⟨_, rfl, _, rfl, _, _, rfl, rfl, .inl ⟨by omega, by omega⟩, _, rfl, _, _, rfl, rfl, .inl ⟨by decide, by decide⟩, _, _, rfl, rfl, _, _, rfl, rfl, _, _, rfl, rfl, .inl ⟨by decide, by decide⟩, _, _, rfl, rfl, by show (0 : Int) < 2147483647; decide, ?_⟩
      have h0 : ∀ z : Int, 0 ≤ z % 2147483647 ∧ z % 2147483647 < 2147483647 := fun z => ⟨Int.emod_nonneg _ (by decide), Int.emod_lt_of_pos _ (by decide)⟩
      refine ⟨_, rfl, 3, rfl, a, _, rfl, hA, fun c nc => ?_⟩
      refine ⟨c, rfl, ⟨_, SqL.of upd_same⟩, ?_⟩
      have ec : cutV (ns.map V.int) none (some 3) = (ns.take 3).map V.int := by
        unfold cutV
        rw [HT.sIx_none, show (3 : Int) = ((3 : Nat) : Int) from rfl, HT.sIx_nat, List.drop_zero, Nat.sub_zero, List.map_take]
        rw [List.take_eq_take_iff]
        omega
      refine for_list (K := K) (a := c) (xs := (ns.take 3).map V.int) (fun i σ H' => ∃ (z : Int) (y : Option V), σ = [some (.ref a), some (.int (k : Nat)), some (.int z), y] ∧ Same H H' ∧ H' c = some (.lst ((ns.take 3).map V.int)) ∧ 0 ≤ z ∧ z < 2147483647)
        ⟨_, none, rfl, same_new nc, by rw [← ec]; exact upd_same, (h0 _).1, (h0 _).2⟩ (fun i σ H' _ ⟨_, _, _, _, g, _⟩ => SqL.of g) ?_ ?_
      · rintro i x σ H' hi ⟨z, y, rfl, s1, g, z0, z1⟩
        obtain ⟨u, rfl⟩ : ∃ u, x = V.int u := by
          rw [List.getElem?_map] at hi
          cases e : (ns.take 3)[i]? with
          | none => rw [e] at hi; cases hi
          | some u => rw [e] at hi; exact ⟨u, (Option.some.inj hi).symm⟩
        exact ⟨_, rfl, _, _, rfl, rfl, .inl ⟨by omega, by omega⟩, _, rfl, _, _, rfl, rfl, _, _, rfl, rfl, by show (0 : Int) < 2147483647; decide, _, _, rfl, s1, g, (h0 _).1, (h0 _).2⟩
      · rintro σ H' ⟨z, y, rfl, s1, g, z0, z1⟩
        exact ⟨_, rfl, q H' z s1⟩
/-! ### _law_numbers -/
theorem sc52 : FnScope ["_law_cell_here", "_law_many_here", "_law_some", "_law_state", "_law_digits", "_law_k"] ["_law_cell_here", "_law_many_here"] (defScope (top 52)) := ⟨rfl, rfl, rfl, by decide +kernel, rfl, by decide +kernel, by decide +kernel⟩
def sp52 : Sp := fun vs H Q _ => ∃ (c : Int) (m : Nat), vs = [.int c, .int (m : Nat)] ∧ m ≤ 100 ∧ ∀ (H' : Hp) (p : Addr) (xs : List Int), Same H H' → H p = none → H' p = some (.lst (xs.map V.int)) → xs.length = m → Q (.ref p) H'
theorem ok52 (D : Df K mg "_law_numbers" (top 52) ["_law_cell_here", "_law_many_here"]) (T : Tx K mg) : Ca P w K mg base 1 "_law_numbers" sp52 := by
  refine D.ca sc52 (fun vs H Q E h => ?_) (fun f cdv A outer s H vs Q E hr h => ?_)
  · obtain ⟨c, m, rfl, _⟩ := h
    rfl
  · obtain ⟨c, m, rfl, hm, q⟩ := h
    have nd := sc52.nd
    have h0 : ∀ z : Int, 0 ≤ z % 1999999973 ∧ z % 1999999973 < 1999999973 := fun z => ⟨Int.emod_nonneg _ (by decide), Int.emod_lt_of_pos _ (by decide)⟩
    refine ⟨_, pss_cons (ps_set (i := 2) nd rfl (.inl rfl) (pe_lst pa_nil))
      (pss_cons (ps_set (i := 3) nd rfl (.inl rfl) (pe_op op_mod (pe_op op_mul (pe_op op_add (pe_op op_mod (pv 0) pe_int) pe_int) pe_int) pe_int))
      (pss_cons (ps_set (i := 4) nd rfl (.inl rfl) pe_int)
      (C8.pss_cut (ps_if (PW.pt (pw_or (pt_cmpR op_lt (pv 0) pe_int (nomark _)) (pw_or1 (pt_cmpR op_ge (pv 0) (pe_op op_pow pe_int pe_int) (nomark _))))) (pss_one (ps_set (i := 4) nd rfl (.inl rfl) (pe_callB call_abs (by rfl) T.abs (by decide +kernel) (pa_cons (pv 0) pa_nil)))) pss_nil)
      (pss_cons (ps_for PassesOwn.never rfl (pi_range1 (by rfl) T.rng (pa_cons (pv 1) pa_nil)) (pg_name (i := 5) nd rfl (.inl rfl))
        (pss_cons (ps_set (i := 3) nd rfl (.inl rfl) (pe_op op_mod (pe_op op_add (pe_op op_add (pe_op op_mul (pv 3) (pe_op op_add (pe_op op_mod (pv 3) pe_int) pe_int)) (pe_op op_mul pe_int (pv 5))) pe_int) pe_int))
        (pss_cons (ps_expr (pe_bm PySem.F.plainAttrs_list PySem.F.slot_list_append PySem.F.type_list_append mt_append (pv 2) (pa_cons (pil (K := K) (pe_lst (pa_cons (pv 3) (pa_cons (pe_op op_mod (pv 4) pe_int) pa_nil))) (pe_callTy call_int1 (by rfl) T.int (by decide +kernel) (pa_cons (pe_cmpR op_gt (pv 4) pe_int (nomark _)) pa_nil))) pa_nil)))
        (pss_one (ps_set (i := 4) nd rfl (.inl rfl) (pe_op op_fdiv (pv 4) pe_int))))))
      (pss_one (ps_ret (pv 2))))))), ?_⟩
    refine ⟨Nat.zero_le _, fun p np => ?_⟩
    refine ⟨_, rfl, _, _, rfl, rfl, by show (0 : Int) < 1999999973; decide, _, _, rfl, rfl, _, _, rfl, rfl, .inl ⟨by have := (h0 c).1; omega, by have := (h0 c).2; omega⟩, _, _, rfl, rfl, by show (0 : Int) < 1999999973; decide, ?_⟩
    refine ⟨fun σ' H' => ∃ d : Int, σ' = [some (.int c), some (.int (m : Nat)), some (.ref p), some (.int ((c % 1999999973 + 31) * 765432101 % 1999999973)), some (.int d), none] ∧ H' = upd H p (.lst []), ?_, ?_⟩
    · refine ⟨_, rfl, _, _, rfl, rfl, _, rfl, ite2 (fun _ => ?_) (fun _ => ?_)⟩
      · exact iteT ⟨_, rfl, _, rfl, _, rfl, rfl⟩
      · refine ⟨_, rfl, _, _, rfl, rfl, ⟨by decide, by decide, by decide⟩, _, _, rfl, rfl, _, rfl, ite2 (fun _ => ?_) (fun _ => ?_)⟩
        · exact ⟨_, rfl, _, rfl, _, rfl, rfl⟩
        · exact ⟨_, rfl, rfl⟩
    · rintro σ' H' ⟨d0, rfl, rfl⟩
      refine ⟨_, rfl, _, rfl, by omega, by omega, ?_⟩
      rw [Int.toNat_natCast]
      refine for_range (lo := 0) (n := m) (fun i σ H' => ∃ (z d : Int) (y : Option V) (xs : List Int), σ = [some (.int c), some (.int (m : Nat)), some (.ref p), some (.int z), some (.int d), y] ∧ 0 ≤ z ∧ z < 1999999973 ∧ Same H H' ∧ H' p = some (.lst (xs.map V.int)) ∧ xs.length = i)
        ⟨_, d0, none, [], rfl, (h0 _).1, (h0 _).2, same_new np, upd_same, rfl⟩ ?_ ?_
      · rintro i σ H1 hi ⟨z, d, y, xs, rfl, z0, z1, s1, g, gl⟩
        rw [Int.zero_add]
        refine ⟨_, rfl, _, rfl, _, _, rfl, rfl, by show (0 : Int) < 65521; decide, _, _, rfl, rfl, _, _, rfl, rfl, .inl ⟨by omega, by omega⟩, _, rfl, _, _, rfl, rfl, .inl ⟨by decide, by decide⟩, _, _, rfl, rfl, _, _, rfl, rfl, _, _, rfl, rfl, by show (0 : Int) < 1999999973; decide, ?_⟩
        refine ⟨_, rfl, .inl ⟨rfl, _, SqL.of g⟩, _, rfl, _, rfl, _, _, rfl, rfl, by show (0 : Int) < 1000000; decide, sz' (by show 2 ≤ 100000; decide), fun t nt => ?_⟩
        have g1 := same_new (o := .lst [.int ((z * (z % 65521 + 40487) + 7 * (i : Nat) + 5) % 1999999973), .int (d % 1000000)]) nt _ _ g
        refine ⟨_, rfl, _, _, rfl, rfl, .inr ⟨_, rfl, ?_⟩⟩
        obtain ⟨v, hv⟩ : ∃ v : Int, atI [V.int ((z * (z % 65521 + 40487) + 7 * (i : Nat) + 5) % 1999999973), V.int (d % 1000000)] (if decide ((0 : Int) < d) = true then 1 else 0) = some (.int v) := by
          cases decide ((0 : Int) < d) with
          | true => exact ⟨_, rfl⟩
          | false => exact ⟨_, rfl⟩
        refine ⟨t, _, _, .int v, rfl, rfl, SqL.of upd_same, hv, p, _, _, rfl, rfl, g1, by rw [List.length_map]; exact sz (by omega), ?_⟩
        refine ⟨_, rfl, _, _, rfl, rfl, ⟨by decide, by decide⟩, ?_⟩
        exact ⟨_, _, _, xs ++ [v], rfl, (h0 _).1, (h0 _).2, same_own (s1.trans (same_new nt)) np, by rw [upd_same, List.map_append]; rfl, by rw [List.length_append, gl]; rfl⟩
      · rintro σ H1 ⟨z, d, y, xs, rfl, z0, z1, s1, g, gl⟩
        exact ⟨_, rfl, q H1 p xs s1 np g gl⟩
/-! ### _law_many -/
theorem sc53 : FnScope ["_law_x"] ["_law_x"] (defScope (top 53)) := ⟨rfl, rfl, rfl, by decide +kernel, rfl, by decide +kernel, by decide +kernel⟩
def sp53 : Sp := fun vs H Q _ => ∃ x : Int, vs = [.int x] ∧ ∀ (H' : Hp) (n : Nat), Same H H' → 1 ≤ n → n ≤ 40 → Q (.int (n : Nat)) H'
theorem ok53 (D : Df K mg "_law_many" (top 53) ["_law_x"]) (T : Tx K mg) : Ca P w K mg base 1 "_law_many" sp53 := by
  refine D.ca sc53 (fun vs H Q E h => ?_) (fun f cdv A outer s H vs Q E hr h => ?_)
  · obtain ⟨x, rfl, _⟩ := h
    rfl
  · obtain ⟨x, rfl, q⟩ := h
    refine ⟨_, pss_one (ps_ret (pil (K := K) (pe_lst (pa_cons (pe_op op_add pe_int (pe_op op_mod (pe_op op_fdiv (pv 0) pe_int) pe_int)) (pa_cons (pe_op op_add pe_int (pe_op op_mod (pe_op op_fdiv (pv 0) pe_int) pe_int)) pa_nil)))
      (pe_callTy call_int1 (by rfl) T.int (by decide +kernel) (pa_cons (pe_cmpR op_eq (pe_op op_mod (pv 0) pe_int) pe_int (nomark _)) pa_nil)))), ?_⟩
    refine ⟨_, rfl, _, _, rfl, rfl, ⟨by decide, by decide⟩, _, _, rfl, rfl, by show (0 : Int) < 12; decide, _, _, rfl, rfl, ?_⟩
    refine ⟨_, rfl, _, _, rfl, rfl, ⟨by decide, by decide⟩, _, _, rfl, rfl, by show (0 : Int) < 40; decide, _, _, rfl, rfl, sz' (by show 2 ≤ 100000; decide), fun t nt => ?_⟩
    refine ⟨_, rfl, _, _, rfl, rfl, by show (0 : Int) < 8; decide, rfl, .inr ⟨_, rfl, ?_⟩⟩
    have a0 := Int.emod_nonneg (x / 8) (show (12 : Int) ≠ 0 by decide)
    have a1 := Int.emod_lt_of_pos (x / 8) (show (0 : Int) < 12 by decide)
    have b0 := Int.emod_nonneg (x / 8) (show (40 : Int) ≠ 0 by decide)
    have b1 := Int.emod_lt_of_pos (x / 8) (show (0 : Int) < 40 by decide)
    obtain ⟨v, hv, v1, v2⟩ : ∃ v : Int, atI [V.int (1 + x / 8 % 12), V.int (1 + x / 8 % 40)] (if decide (V.int (x % 8) = V.int 3) = true then 1 else 0) = some (.int v) ∧ 1 ≤ v ∧ v ≤ 40 := by
      cases decide (V.int (x % 8) = V.int 3) with
      | true => exact ⟨_, rfl, by omega, by omega⟩
      | false => exact ⟨_, rfl, by omega, by omega⟩
    obtain ⟨n, rfl⟩ : ∃ n : Nat, v = (n : Nat) := ⟨v.toNat, by omega⟩
    exact ⟨t, _, _, _, rfl, rfl, SqL.of upd_same, hv, q _ n (same_new nt) (by omega) (by omega)⟩
end
end LH
/-! LhR5 -/
set_option Elab.async false
set_option linter.all false
set_option maxRecDepth 100000
set_option maxHeartbeats 1000000
/-! LhR5: x not in a tuple of tuples; count(True); t[::k] of a pair; data. -/
namespace LH
open PySem PySem.Spec PyProof.Rows L2 LamX
section
variable {prog : Program} {w : World} {A : Around} {E : Value → Shared → Prop} {s : Shared}
theorem sliceApplied_step {sl : Addr} {k : Int} {u : Tok} {n : Nat} {Q : Int × Int × Nat → Shared → Prop} (hs : s.heap.IsSliceOf sl .none .none (.int k u)) (hk : k ≠ 0)
    (h : Q ((Builtin.Slice.sliceAdjust none none k (n : Int)).1, k, Builtin.Slice.slicePlaces (Builtin.Slice.sliceAdjust none none k (n : Int)).1 (Builtin.Slice.sliceAdjust none none k (n : Int)).2 k) s) : wpAny (model prog w) A (Builtin.Slice.sliceApplied (.ref sl) (pure (n : Int))) Q E s := by
  obtain ⟨os, hos, hcs, hds⟩ := id hs
  unfold Builtin.Slice.sliceApplied Builtin.Slice.sliceFields
  refine wpAny_bind (wpAny_bind (wpAny_field hos hds (x := .none) rfl (wpAny_bind (wpAny_field hos hds (x := .none) rfl (wpAny_bind (wpAny_field hos hds (x := .int k u) rfl (wpAny_pure ?_)))))))
  refine wpAny_bind (slicePart_int ?_)
  show wpAny _ _ (if (k == 0) = true then _ else _) _ _ s
  rw [if_neg (by rw [beq_iff_eq]; exact hk)]
  refine wpAny_bind (slicePart_none (wpAny_bind (slicePart_none (wpAny_bind (wpAny_pure ?_)))))
  exact wpAny_pure h
theorem getItem_pair {t sl : Addr} {v1 v2 : Value} {k : Int} {u : Tok} {Q : Value → Shared → Prop} (ht : IsTup s.heap t #[v1, v2]) (hs : s.heap.IsSliceOf sl .none .none (.int k u))
    (h : (k = 1 ∧ Q (.ref t) s) ∨ (k = -1 ∧ Q (.ref s.heap.objs.size) { s with heap := s.heap.push { cls := .type "tuple", data := .seq #[v2, v1] } })) : wpAny (model prog w) A (getItem (.ref t) (.ref sl)) Q E s := by
  obtain ⟨os, hos, hcs, hds⟩ := id hs
  have hTs : s.TypeIs (.ref sl) "slice" := ⟨os, hos, hcs⟩
  have hk : k ≠ 0 := by rcases h with h | h <;> omega
  unfold getItem
  try with_reducible refine wpAny_holding ?_
  first | refine wpAny_bind (wpAny_pure ?_) | skip
  refine wpAny_bind (wpAny_sequenceKey ht.typeIs (by decide) ?_)
  refine wpAny_bind (wpAny_callSpecial?_slot (name := Str.ofString "__getitem__") ht.typeIs PyProof.Rows.slot_tuple_getitem
    (wpAny_call_entry PyProof.Rows.slot_tuple_getitem ht.typeIs entry_tuple_getitem ?_ (args_tuple_getitem _ _)))
  show wpAny _ _ (Builtin.Tuple.tupleItemsOf (.ref t) >>= _) _ _ s
  refine wpAny_bind (tupleItemsOf_ ht ?_)
  refine wpAny_bind (wpAny_typeOf hTs ?_)
  rw [if_pos (by decide)]
  refine wpAny_bind (sliceApplied_step (n := 2) hs hk ?_)
  rcases h with ⟨rfl, h⟩ | ⟨rfl, h⟩
  · show wpAny _ _ (if ((0 : Int) == 0 && (1 : Int) == 1 && (2 : Nat) == 2) = true then _ else _) _ _ s
    rw [if_pos (by decide)]
    refine wpAny_bind ?_
    show wpAny _ _ (typeOf (.ref t) >>= fun T => pure (T == .type "tuple")) _ _ s
    refine wpAny_bind (wpAny_typeOf ht.typeIs (wpAny_pure ?_))
    first
      | rw [if_pos (by decide)]
      | simp only [beq_self_eq_true, if_true]
    first
      | exact wpAny_bind (wpAny_rule (wpAny_pure ⟨_, rfl, wpAny_pure h⟩))
      | exact wpAny_bind (wpAny_rule (wpAny_bind (wpAny_pure (wpAny_pure ⟨_, rfl, wpAny_pure h⟩))))
  · show wpAny _ _ (if ((1 : Int) == 0 && (-1 : Int) == 1 && (2 : Nat) == 2) = true then _ else _) _ _ s
    rw [if_neg (by decide)]
    have hz : sizeOk (.seq #[v2, v1]) := by
      show (2 : Nat) ≤ sizeLine
      decide
    first
      | exact wpAny_bind (m := Builtin.Tuple.tupleExact _) (wpAny_newObj_type (wpAny_pure ⟨_, rfl, wpAny_pure h⟩) hz)
      | exact wpAny_bind (m := Builtin.Tuple.tupleExact _) (wpAny_newObj_type (wpAny_bind (wpAny_pure (wpAny_pure ⟨_, rfl, wpAny_pure h⟩))) hz)
      | exact wpAny_bind (wpAny_bind (m := Builtin.Tuple.tupleExact _) (wpAny_newObj_type (wpAny_pure (wpAny_pure ⟨_, rfl, wpAny_pure h⟩)) hz))
      | exact wpAny_bind (wpAny_bind (m := Builtin.Tuple.tupleExact _) (wpAny_newObj_type (wpAny_pure ⟨_, rfl, wpAny_pure h⟩) hz))
end
/-- t[::k] of a pair, k 1 or -1 -/
def tStep (K : PySem.W.Frag) (te ts : TE) : TE := fun σ H Q => te σ H fun x H1 => ts σ H1 fun y H2 => ∃ (a : Addr) (v1 v2 : V) (k : Int), x = .ref a ∧ y = .int k ∧ SqT K H2 a [v1, v2] ∧ (k = 1 ∨ k = -1) ∧ (k = 1 → Q (.ref a) H2) ∧ (k = -1 → ∀ p, H2 p = none → Q (.ref p) (upd H2 p (.tup [v2, v1])))
section
variable {X : Cx}
theorem pstep {K : PySem.W.Frag} {e st : Expr} {te ts : TE} {p3 pos : Pos} (he : PE X e te) (hst : PE X st ts) (hK : X.K = K := by rfl)
    (hsub : ∀ v u, subscripted (.Slice none none (some st) p3) false v u = operate [v, u] (getItem v u) := by intro _ _; with_unfolding_all rfl) : PE X (.Subscript e (.Slice none none (some st) p3) pos) (tStep K te ts) := by
  subst hK
  refine ⟨fun pins s σ H Q I h => ?_⟩
  refine Subscript_ (thn (he.run pins s σ H _ I h) fun v s1 ⟨x, H1, I1, r1, q1⟩ => ?_)
  refine wpAny_Slice (thn (po_none.run pins s1 σ H1 (fun o H2 => o = none ∧ H2 = H1) I1 ⟨rfl, rfl⟩) fun vl s2 ⟨l, H2, I2, pl, el, e2⟩ => ?_)
  subst el e2
  refine thn (po_none.run pins s2 σ H2 (fun o H3 => o = none ∧ H3 = H2) I2 ⟨rfl, rfl⟩) fun vu s3 ⟨u, H3, I3, pu, eu, e3⟩ => ?_
  subst eu e3
  rw [evalPart_some]
  refine thn (hst.run pins s3 σ H3 _ I3 q1) fun vs s4 ⟨y, H4, I4, r4, a, v1, v2, k, ex, ey, hT, hk, q2, q3⟩ => ?_
  subst ex ey
  cases r1
  obtain ⟨t, rfl⟩ := r4
  cases pl
  cases pu
  have I5 : Inv X pins σ H4 { s4 with heap := s4.heap.push { cls := .type "slice", data := .fields #[.none, .none, .int k t] } } := I4.kept (t' := s4.toks) fun b ob q => Heap.get?_push_of_some _ q
  obtain ⟨its, r, ht, hz⟩ := I5.tuple hT
  obtain ⟨u1, u2, rfl, ru1, ru2⟩ := vals2 r
  show wpAny (model X.prog X.w) X.A (subscriptTail e (.Slice none none (some st) p3) (.ref a) (.ref s4.heap.objs.size)) (EP X pins σ Q) X.xe { s4 with heap := s4.heap.push { cls := .type "slice", data := .fields #[.none, .none, .int k t] } }
  refine tail_any (ops := [.ref a, .ref s4.heap.objs.size]) ht.typeIs (PyProof.Rows.slot_tuple_getitem.lookup) ?_ (hsub _ _)
  refine getItem_pair (k := k) (u := t) ht (Heap.IsSliceOf.new _ .none .none (.int k t)) ?_
  rcases hk with hk | hk
  · exact .inl ⟨hk, ⟨.ref a, H4, I5, rfl, q2 hk⟩⟩
  · refine .inr ⟨hk, ?_⟩
    refine ⟨.ref _, _, I5.laid (t' := s4.toks) (o := .tup [v2, v1]) (fun b ob q => Heap.get?_push_of_some _ q) (Nat.le_refl _) ?_, rfl, q3 hk _ (I5.hok.fresh (Nat.le_refl _))⟩
    exact ⟨by show 2 ≤ sizeLine; decide, [u2, u1], .cons ru2 (.cons ru1 .nil), IsTup.new _ _⟩
/-! ### x not in (y, z) of data -/
def rNotInDT (K : PySem.W.Frag) : R2 := fun x y H Q => ∃ d ds, Dp K H x d ∧ Dp K H y (.tuple ds) ∧ SeqAt.shaped d = true ∧ SeqAt.shaped (.tuple ds) = true ∧ Q (.bl (!ds.any fun z => PyData.eqv z d)) H
theorem op_notInDT (hu : X.A.units + 65 < cLine) : OpR X (compareOp .NotIn) (rNotInDT X.K) := by
  intro pins s σ H x y v u Q I rx ry h
  obtain ⟨d, ds, hd, he, sd, se, q⟩ := h
  obtain ⟨as, r1⟩ := Dp.reads I d x v hd rx
  obtain ⟨bs, r2⟩ := Dp.reads I (.tuple ds) y u he ry
  exact SeqAt.notIn_tuple_reads r2 r1 (SeqAt.canLay_of_shaped se) (SeqAt.canLay_of_shaped sd) (room_in_shaped sd hu) ⟨.bl _, H, I, rfl, q⟩
/-! ### xs.count(True) of truths -/
def isTr : Value → Bool
  | .bool b => b
  | _ => false
theorem vals_bl : ∀ {bs : List Bool} {us : List Value}, Vals (bs.map V.bl) us → us = bs.map Value.bool
  | [], _, .nil => rfl
  | b :: bs, _, .cons r t => by
    have e : _ = Value.bool b := r
    rw [e, vals_bl t]
    rfl
theorem countP_bl : ∀ bs : List Bool, (bs.map Value.bool).countP isTr = bs.count true
  | [] => rfl
  | b :: bs => by
    rw [List.map_cons, List.countP_cons, List.count_cons, countP_bl bs]
    cases b <;> rfl
def rCntB (K : PySem.W.Frag) : V → List V → Hp → VK → Prop := fun x xs H Q => ∃ (p : Addr) (bs : List Bool), x = .ref p ∧ xs = [.bl true] ∧ SqL K H p (bs.map V.bl) ∧ Q (.int (bs.count true : Nat)) H
theorem mt_countB : MtR X "list.count" (rCntB X.K) := by
  intro pins s σ H x xs v us Q I rx rxs h
  obtain ⟨p, bs, rfl, rfl, hs, q⟩ := h
  cases rx
  obtain ⟨u, rfl, ru⟩ := rxs.one
  obtain rfl : u = Value.bool true := ru
  obtain ⟨its, rv, ⟨⟨cls, dd, data, sl⟩, n, ho, hc, hdn, hd⟩, hlen⟩ := I.list hs
  simp only at hc hd
  subst hc hd
  have e := vals_bl rv
  subst e
  refine call_meets PySem.F.slot_list_count ⟨_, ho, rfl⟩ PySem.F.entry_list_count (PySem.F.args_list_count_2 _ _)
    (SeqAt.list_countAt p (bs.map Value.bool).toArray n dd sl (.bool true) isTr) ⟨ho, fun y hy => ?_, ?_⟩
  · obtain ⟨b, _, rfl⟩ := List.mem_map.mp (show y ∈ bs.map Value.bool by simpa using hy)
    have := SeqAt.EqAt.bool_bool (A := X.A.in1) (s := s) b true
    cases b <;> exact this
  · have ec : (bs.map Value.bool).toArray.toList.countP isTr = bs.count true := countP_bl bs
    refine ⟨.int (bs.count true : Nat), H, I.tok _, ⟨s.toks, ?_⟩, q⟩
    show Value.int (((bs.map Value.bool).toArray.toList.countP isTr : Nat) : Int) s.toks = Value.int ((bs.count true : Nat) : Int) s.toks
    rw [ec]
end
/-! ### data -/
def lotD (l : List Nat) : PyData := .tuple (l.map fun n : Nat => .int (n : Int))
def eD (e : E) : PyData := .tuple [.int (e.1 : Nat), .int (e.2 : Nat)]
theorem ints_lay : ∀ l : List Nat, PyData.canLayAll0 (l.map fun n : Nat => PyData.int (n : Int)) = true
  | [] => by simp [PyData.canLayAll0]
  | x :: l => by simp [PyData.canLayAll0, PyData.canLay0, ints_lay l]
theorem ints_dep : ∀ l : List Nat, PyData.depthAll (l.map fun n : Nat => PyData.int (n : Int)) = 0
  | [] => by simp [PyData.depthAll]
  | x :: l => by simp [PyData.depthAll, PyData.depth, ints_dep l]
theorem lot_lay (l : List Nat) : (lotD l).canLay0 = true := by simp only [lotD, PyData.canLay0]; exact ints_lay l
theorem lot_dep (l : List Nat) : (lotD l).depth = 1 := by simp only [lotD, PyData.depth, ints_dep l]
theorem lots_lay : ∀ ls : List (List Nat), PyData.canLayAll0 (ls.map lotD) = true
  | [] => by simp [PyData.canLayAll0]
  | l :: ls => by simp [PyData.canLayAll0, lot_lay l, lots_lay ls]
theorem lots_dep : ∀ ls : List (List Nat), PyData.depthAll (ls.map lotD) ≤ 1
  | [] => by simp [PyData.depthAll]
  | l :: ls => by
    have h1 := lots_dep ls
    have h2 := lot_dep l
    simp only [List.map_cons, PyData.depthAll]
    omega
theorem e_lay (e : E) : (eD e).canLay0 = true := by simp [eD, PyData.canLay0, PyData.canLayAll0]
theorem e_dep (e : E) : (eD e).depth = 1 := by simp [eD, PyData.depth, PyData.depthAll]
theorem es_lay : ∀ es : List E, PyData.canLayAll0 (es.map eD) = true
  | [] => by simp [PyData.canLayAll0]
  | e :: es => by simp [PyData.canLayAll0, e_lay e, es_lay es]
theorem es_dep : ∀ es : List E, PyData.depthAll (es.map eD) ≤ 1
  | [] => by simp [PyData.depthAll]
  | e :: es => by
    have h1 := es_dep es
    have h2 := e_dep e
    simp only [List.map_cons, PyData.depthAll]
    omega
theorem shaped_of {d : PyData} (h1 : d.canLay0 = true) (h2 : d.depth ≤ 64) : SeqAt.shaped d = true := by
  show (d.canLay0 && decide (d.depth ≤ 64)) = true
  rw [h1, decide_eq_true h2]
  rfl
theorem lot_shaped (l : List Nat) : SeqAt.shaped (lotD l) = true := shaped_of (lot_lay l) (by rw [lot_dep]; decide)
theorem lots_shapedL (ls : List (List Nat)) : SeqAt.shaped (.list (ls.map lotD)) = true := shaped_of (by simp only [PyData.canLay0]; exact lots_lay ls) (by have := lots_dep ls; simp only [PyData.depth]; omega)
theorem lots_shapedT (ls : List (List Nat)) : SeqAt.shaped (.tuple (ls.map lotD)) = true := shaped_of (by simp only [PyData.canLay0]; exact lots_lay ls) (by have := lots_dep ls; simp only [PyData.depth]; omega)
theorem es_shapedL (es : List E) : SeqAt.shaped (.list (es.map eD)) = true := shaped_of (by simp only [PyData.canLay0]; exact es_lay es) (by have := es_dep es; simp only [PyData.depth]; omega)
theorem es_shapedT (es : List E) : SeqAt.shaped (.tuple (es.map eD)) = true := shaped_of (by simp only [PyData.canLay0]; exact es_lay es) (by have := es_dep es; simp only [PyData.depth]; omega)
theorem eqv_sh {d : PyData} (h : SeqAt.shaped d = true) : PyData.eqv d d = true := SeqAt.eqv_refl d (SeqAt.canLay_of_shaped h)
theorem ints_eqv : ∀ l m : List Nat, PyData.eqvAll (l.map fun n : Nat => PyData.int (n : Int)) (m.map fun n : Nat => PyData.int (n : Int)) = decide (l = m)
  | [], [] => by simp [PyData.eqvAll]
  | [], _ :: _ => by simp [PyData.eqvAll]
  | _ :: _, [] => by simp [PyData.eqvAll]
  | x :: l, y :: m => by
    have ih := ints_eqv l m
    simp only [List.map_cons, PyData.eqvAll, PyData.eqv, ih]
    by_cases h : x = y
    · subst h
      by_cases h2 : l = m
      · simp [h2]
      · simp [h2]
    · have q : (((x : Nat) : Int) == ((y : Nat) : Int)) = false := beq_eq_false_iff_ne.mpr (by omega)
      rw [q, Bool.false_and, decide_eq_false]
      intro z
      exact h (List.cons.inj z).1
theorem lot_eqv (l m : List Nat) : PyData.eqv (lotD l) (lotD m) = decide (l = m) := by
  simp only [lotD, PyData.eqv]
  exact ints_eqv l m
section
variable {K : PySem.W.Frag} {H : Hp}
theorem dp_ints : ∀ l : List Nat, DpAll K H (iv l) (l.map fun n : Nat => PyData.int (n : Int))
  | [] => .nil
  | x :: l => .cons (.int _) (dp_ints l)
theorem dp_lot {a : Addr} {l : List Nat} (h : SqT K H a (iv l)) : Dp K H (.ref a) (lotD l) := .tup h (dp_ints l)
theorem dp_refs {α : Type} {f : α → PyData} : ∀ {L : List (Addr × α)}, (∀ q ∈ L, Dp K H (.ref q.1) (f q.2)) → DpAll K H (L.map fun q => V.ref q.1) ((L.map (·.2)).map f)
  | [], _ => .nil
  | q :: L, h => .cons (h q (by simp)) (dp_refs fun q' hq => h q' (by simp [hq]))
theorem dp_lots {a : Addr} {ls : List (List Nat)} (h : LotsAt K H a ls) : Dp K H (.ref a) (.list (ls.map lotD)) := by
  obtain ⟨L, h1, h2, h3⟩ := h
  rw [← h2]
  exact .lst h1 (dp_refs fun q hq => dp_lot (h3 q hq))
theorem dp_e {a : Addr} {e : E} (h : SqT K H a [.int (e.1 : Nat), .int (e.2 : Nat)]) : Dp K H (.ref a) (eD e) := .tup h (.cons (.int _) (.cons (.int _) .nil))
theorem dp_row {a : Addr} {es : List E} (h : RowAt K H a es) : Dp K H (.ref a) (.tuple (es.map eD)) := by
  obtain ⟨L, h1, h2, h3⟩ := h
  rw [← h2]
  exact .tup h1 (dp_refs fun q hq => dp_e (h3 q hq))
end
end LH
/-! LhV -/
set_option Elab.async false
set_option linter.all false
set_option maxRecDepth 100000
set_option maxHeartbeats 2000000
namespace LH
open PySem PySem.Spec PyProof.Rows L2 LamX
theorem emod_nat (z : Int) {n : Nat} (h : 1 ≤ n) : ∃ x : Nat, z % (n : Nat) = (x : Nat) ∧ x < n := by
  have h0 := Int.emod_nonneg z (show ((n : Nat) : Int) ≠ 0 by omega)
  have h1 := Int.emod_lt_of_pos z (show (0 : Int) < (n : Nat) by omega)
  exact ⟨(z % (n : Nat)).toNat, by omega, by omega⟩
theorem ia {a : Addr} {z z' : Int} (e : z = z') : ([V.ref a, V.int z] : List V) = [V.ref a, V.int z'] := by rw [e]
theorem ints_at {xs : List Int} {j : Nat} (h : j < xs.length) : ∃ v : Int, atI (xs.map V.int) ((j : Nat) : Int) = some (.int v) :=
  ⟨xs[j], atI_nat (by rw [List.getElem?_map, List.getElem?_eq_getElem h]; rfl)⟩
/-- a row that grows -/
structure RowL (K : PySem.W.Frag) (H : Hp) (row : Addr) (n : Nat) (L : List (Addr × E)) : Prop where
  lst : H row = some (.lst (L.map fun q => V.ref q.1))
  tup : ∀ q ∈ L, SqT K H q.1 [.int (q.2.1 : Nat), .int (q.2.2 : Nat)]
  val : ∀ q ∈ L, q.2.1 < n ∧ q.2.2 < n
theorem RowL.same {K : PySem.W.Frag} {H H' : Hp} {row : Addr} {n : Nat} {L : List (Addr × E)} (e : Same H H') (h : RowL K H row n L) : RowL K H' row n L :=
  ⟨e _ _ h.lst, fun q hq => same_tup e (h.tup q hq), h.val⟩
theorem dp_rowL {K : PySem.W.Frag} {H : Hp} {row : Addr} {n : Nat} {L : List (Addr × E)} (h : RowL K H row n L) : Dp K H (.ref row) (.list ((L.map (·.2)).map eD)) :=
  .lst (SqL.of h.lst) (dp_refs fun q hq => dp_e (h.tup q hq))
theorem dp_nil {K : PySem.W.Frag} {H : Hp} {a : Addr} (h : SqL K H a []) : Dp K H (.ref a) (.list (([] : List E).map eD)) := .lst h .nil
section
variable {P : Program} {w : World} {K : PySem.W.Frag} {mg : Str → Option Value} {base : Heap}
theorem sc54 : FnScope ["_law_script", "_law_at", "_law_many_here", "_law_most", "_law_head", "_law_row", "_law_k", "_law_xs", "_law_x", "_law_y"] ["_law_script", "_law_at", "_law_many_here", "_law_most"] (defScope (top 54)) := ⟨rfl, rfl, rfl, by decide +kernel, rfl, by decide +kernel, by decide +kernel⟩
def sp54 (K : PySem.W.Frag) : Sp := fun vs H Q _ => ∃ (a : Addr) (n : Nat) (ns : List Int), vs = [.ref a, .int 1, .int (n : Nat), .int 30] ∧ SqL K H a (ns.map V.int) ∧ ns.length ≤ 1000 ∧ 1 ≤ n ∧ n ≤ 40 ∧
  ∀ (H' : Hp) (p : Addr) (es : List E), Same H H' → RowAt K H' p es → Val n es → es.length ≤ 30 → Q (.ref p) H'
theorem ok54 (D : Df K mg "_law_joins" (top 54) ["_law_script", "_law_at", "_law_many_here", "_law_most"]) (T : Tx K mg) (c51 : Ca P w K mg base 1 "_law_cell" (sp51 K)) (c52 : Ca P w K mg base 1 "_law_numbers" sp52) : Ca P w K mg base 2 "_law_joins" (sp54 K) := by
  refine D.ca sc54 (fun vs H Q E h => ?_) (fun f cdv A outer s H vs Q E hr h => ?_)
  · obtain ⟨a, n, ns, rfl, _⟩ := h
    rfl
  · obtain ⟨a, n, ns, rfl, hA, hl, h1, h2, q⟩ := h
    have nd := sc54.nd
    refine ⟨_, pss_cons (ps_set (i := 4) nd rfl (.inl rfl) (pc c52 hr (pa_cons (pc c51 hr (pa_cons (pv 0) (pa_cons (pv 1) pa_nil))) (pa_cons pe_int pa_nil))))
      (pss_cons (ps_set (i := 5) nd rfl (.inl rfl) (pe_lst pa_nil))
      (pss_cons (ps_for PassesOwn.never rfl (pi_range1 (by rfl) T.rng (pa_cons (pe_op op_mod (pil (K := K) (pv 4) pe_int) (pe_op op_add (pv 3) pe_int)) pa_nil)) (pg_name (i := 6) nd rfl (.inl rfl))
        (pss_cons (ps_set (i := 7) nd rfl (.inl rfl) (pe_slice sl_list (pc c52 hr (pa_cons (pc c51 hr (pa_cons (pv 0) (pa_cons (pe_op op_add (pe_op op_add (pv 1) pe_int) (pe_op op_fdiv (pv 6) pe_int)) pa_nil))) (pa_cons pe_int pa_nil))) (po_some (pe_op op_mul pe_int (pe_op op_mod (pv 6) pe_int))) po_none))
        (pss_cons (ps_par (i := 8) (j := 9) rfl nd rfl rfl (by decide) rfl rfl (pa_cons (pe_op op_mod (pil (K := K) (pv 7) pe_int) (pv 2)) (pa_cons (pe_op op_mod (pil (K := K) (pv 7) pe_int) (pv 2)) pa_nil)) (by rfl))
        (C8.pss_cut (ps_if (pt_cmpR op_eq (pe_op op_mod (pil (K := K) (pv 4) pe_int) pe_int) pe_int (nomark _)) (pss_one (ps_par (i := 8) (j := 9) rfl nd rfl rfl (by decide) rfl rfl (pa_cons (pe_op op_mod (pv 6) (pv 2)) (pa_cons (pe_op op_mod (pe_op op_add (pv 6) pe_int) (pv 2)) pa_nil)) (by rfl))) pss_nil)
        (C8.pss_cut (ps_if (PW.pt (pw_and (pt_cmpR op_eq (pe_op op_mod (pil (K := K) (pv 4) pe_int) pe_int) pe_int (nomark _)) (pw_and1 (pt_cmpR op_gt (pe_op op_mod (pil (K := K) (pv 7) pe_int) pe_int) pe_int (nomark _)))))
            (pss_cons (ps_set (i := 8) nd rfl (.inl rfl) (pe_op op_mod (pe_op op_mul (pe_op op_fdiv (pv 8) pe_int) pe_int) (pv 2)))
            (pss_one (ps_set (i := 9) nd rfl (.inl rfl) (pe_callB (call_min2 rfl) (by rfl) T.min (by decide +kernel) (pa_cons (pe_op op_sub (pv 2) pe_int) (pa_cons (pe_op op_add (pv 8) pe_int) pa_nil)))))) pss_nil)
        (C8.pss_cut (ps_if (PW.pt (pw_and (pt_cmpR (op_neD hr.units) (pv 5) (pe_lst pa_nil) (nomark _)) (pw_and1 (pt_cmpR op_eq (pe_op op_mod (pil (K := K) (pv 7) pe_int) pe_int) pe_int (nomark _)))))
            (pss_one (ps_asg (pil (K := K) (pv 5) (pe_op op_mod (pil (K := K) (pv 7) pe_int) (plen (K := K) T.len (pv 5)))) (pg_tup rfl (pgs_cons (pg_name (i := 8) nd rfl (.inl rfl)) (pgs_cons (pg_name (i := 9) nd rfl (.inl rfl)) pgs_nil))))) pss_nil)
        (pss_one (ps_expr (pe_bm PySem.F.plainAttrs_list PySem.F.slot_list_append PySem.F.type_list_append mt_append (pv 5) (pa_cons (pil (K := K) (pe_lst (pa_cons (pe_tup (pa_cons (pv 8) (pa_cons (pv 9) pa_nil))) (pa_cons (pe_tup (pa_cons (pv 9) (pa_cons (pv 8) pa_nil))) pa_nil)))
            (pe_op op_mod (pe_op op_fdiv (pil (K := K) (pv 7) pe_int) pe_int) pe_int)) pa_nil))))))))))
      (pss_one (ps_ret (ptup (K := K) T.tup (pv 5)))))), ?_⟩
    refine ⟨_, rfl, _, rfl, a, 1, ns, rfl, hA, by omega, hl, fun H1 z1 s1 => ⟨z1, 4, rfl, by omega, fun H2 hh xs0 s2 nh hh2 hl0 => ?_⟩⟩
    have s12 := s1.trans s2
    refine ⟨Nat.zero_le _, fun row nrow => ?_⟩
    have nrowH : H row = none := s12.free nrow
    have nrow2 : H2 row = none := nrow
    have s3 : Same H2 (upd H2 row (.lst [])) := same_new nrow
    obtain ⟨v0, hv0⟩ := ints_at (xs := xs0) (j := 0) (by omega)
    obtain ⟨v1, hv1⟩ := ints_at (xs := xs0) (j := 1) (by omega)
    have n30 : ((30 : Int) + 1) = ((31 : Nat) : Int) := by decide
    obtain ⟨mm, hmm, hmm31⟩ := emod_nat v0 (n := 31) (by decide)
    refine ⟨_, rfl, hh, _, 0, _, rfl, rfl, SqL.of (s3 _ _ hh2), hv0, _, rfl, _, _, rfl, rfl, _, _, rfl, rfl, by show (0 : Int) < 30 + 1; decide, _, rfl, ?_⟩
    show -(2 ^ 62) ≤ v0 % (30 + 1) ∧ v0 % (30 + 1) < 2 ^ 62 ∧ _
    rw [show v0 % (30 + 1) = ((mm : Nat) : Int) from hmm]
    refine ⟨by omega, by omega, ?_⟩
    rw [Int.toNat_natCast]
    refine for_range (lo := 0) (n := mm) (fun i σ H' => ∃ (y6 y7 y8 y9 : Option V) (L : List (Addr × LH.E)), σ = [some (.ref a), some (.int 1), some (.int (n : Nat)), some (.int 30), some (.ref hh), some (.ref row), y6, y7, y8, y9] ∧ Same H2 H' ∧ RowL K H' row n L ∧ L.length = i)
      ⟨none, none, none, none, [], rfl, s3, ⟨upd_same, fun q hq => absurd hq (by simp), fun q hq => absurd hq (by simp)⟩, rfl⟩ ?_ ?_
    · rintro i σ H3 hi ⟨y6, y7, y8, y9, L, rfl, s23, rl, rll⟩
      rw [Int.zero_add]
      have s03 := s12.trans s23
      -- xs
      refine ⟨_, rfl, _, rfl, _, _, rfl, rfl, _, rfl, _, _, rfl, rfl, ⟨by decide, by decide⟩, _, _, rfl, rfl, ?_⟩
      refine ⟨a, 2 + i / 5, ns, ia (show (1 : Int) + 1 + ((i : Nat) : Int) / 5 = ((2 + i / 5 : Nat) : Int) by omega), s03.seq hA, by omega, hl, fun H4 z4 s4 => ⟨z4, 20, rfl, by omega, fun H5 xa xs s5 nxa hxa hxl => ?_⟩⟩
      refine ⟨_, rfl, _, _, rfl, rfl, by show (0 : Int) < 5; decide, _, _, rfl, rfl, .inl ⟨by decide, by decide⟩, _, rfl, xa, _, rfl, SqL.of hxa, fun xb nxb => ?_⟩
      have e4 : (4 : Int) * (((i : Nat) : Int) % 5) = ((4 * (i % 5) : Nat) : Int) := by omega
      show tSeq _ _ _ _ (upd H5 xb (.lst (cutV (xs.map V.int) (some ((4 : Int) * (((i : Nat) : Int) % 5))) none)))
      rw [e4, cut_from (by rw [List.length_map]; omega), ← List.map_drop]
      have hyl : 4 ≤ (xs.drop (4 * (i % 5))).length := by rw [List.length_drop]; omega
      generalize hys : xs.drop (4 * (i % 5)) = ys at hyl
      have s6 : Same H3 (upd H5 xb (.lst (ys.map V.int))) := (s4.trans s5).trans (same_new nxb)
      have hxb : (upd H5 xb (.lst (ys.map V.int))) xb = some (.lst (ys.map V.int)) := upd_same
      generalize upd H5 xb (.lst (ys.map V.int)) = H6 at s6 hxb
      have rl6 := rl.same s6
      obtain ⟨w0, hw0⟩ := ints_at (xs := ys) (j := 0) (by omega)
      obtain ⟨w1, hw1⟩ := ints_at (xs := ys) (j := 1) (by omega)
      obtain ⟨w2, hw2⟩ := ints_at (xs := ys) (j := 2) (by omega)
      obtain ⟨w3, hw3⟩ := ints_at (xs := ys) (j := 3) (by omega)
      obtain ⟨x0, hx0, lx0⟩ := emod_nat w0 h1
      obtain ⟨y0, hy0, ly0⟩ := emod_nat w1 h1
      have np : (0 : Int) < (n : Nat) := by omega
      -- x, y
      refine ⟨_, rfl, xb, _, 0, _, rfl, rfl, SqL.of hxb, hw0, _, rfl, _, _, rfl, rfl, np, _, rfl, xb, _, 1, _, rfl, rfl, SqL.of hxb, hw1, _, rfl, _, _, rfl, rfl, np, _, _, rfl, ?_⟩
      have h62 : H6 hh = some (.lst (xs0.map V.int)) := s6 _ _ (s23 _ _ hh2)
      have base_ : ∀ (x y : Nat) (σ' : L2.St), σ' = [some (V.ref a), some (.int 1), some (.int (n : Nat)), some (.int 30), some (.ref hh), some (.ref row), some (.int (i : Nat)), some (.ref xb), some (.int (x : Nat)), some (.int (y : Nat))] → σ' = [some (V.ref a), some (.int 1), some (.int (n : Nat)), some (.int 30), some (.ref hh), some (.ref row), some (.int (i : Nat)), some (.ref xb), some (.int (x : Nat)), some (.int (y : Nat))] := fun _ _ _ z => z
      refine ⟨fun σ' H' => ∃ x y : Nat, x < n ∧ y < n ∧ σ' = [some (V.ref a), some (.int 1), some (.int (n : Nat)), some (.int 30), some (.ref hh), some (.ref row), some (.int (i : Nat)), some (.ref xb), some (.int (x : Nat)), some (.int (y : Nat))] ∧ H' = H6, ?_, ?_⟩
      · refine ⟨_, rfl, hh, _, 1, _, rfl, rfl, SqL.of h62, hv1, _, _, rfl, rfl, by show (0 : Int) < 4; decide, rfl, _, rfl, ite2 (fun _ => ?_) (fun _ => ?_)⟩
        · obtain ⟨x1, hx1, lx1⟩ := emod_nat ((i : Nat) : Int) h1
          obtain ⟨y1, hy1, ly1⟩ := emod_nat (((i : Nat) : Int) + 1) h1
          refine ⟨_, rfl, _, rfl, _, _, rfl, rfl, np, _, rfl, _, _, rfl, rfl, _, rfl, _, _, rfl, rfl, np, _, _, rfl, x1, y1, lx1, ly1, ?_, rfl⟩
          rw [← hx1, ← hy1]
          rfl
        · refine ⟨x0, y0, lx0, ly0, ?_, rfl⟩
          rw [← hx0, ← hy0]
          rfl
      · rintro σ' H' ⟨x, y, lx, ly, rfl, rfl⟩
        refine ⟨fun σ' H'' => ∃ x y : Nat, x < n ∧ y < n ∧ σ' = [some (V.ref a), some (.int 1), some (.int (n : Nat)), some (.int 30), some (.ref hh), some (.ref row), some (.int (i : Nat)), some (.ref xb), some (.int (x : Nat)), some (.int (y : Nat))] ∧ H'' = H', ?_, ?_⟩
        · refine ⟨_, rfl, hh, _, 1, _, rfl, rfl, SqL.of h62, hv1, _, _, rfl, rfl, by show (0 : Int) < 4; decide, rfl, _, rfl, ite2 (fun _ => ?_) (fun _ => iteF ⟨x, y, lx, ly, rfl, rfl⟩)⟩
          refine ⟨_, rfl, xb, _, 2, _, rfl, rfl, SqL.of hxb, hw2, _, _, rfl, rfl, by show (0 : Int) < 3; decide, _, _, rfl, rfl, _, rfl, ite2 (fun _ => ?_) (fun _ => ⟨x, y, lx, ly, rfl, rfl⟩)⟩
          obtain ⟨x1, hx1, lx1⟩ := emod_nat (((x : Nat) : Int) / 2 * 2) h1
          refine ⟨_, rfl, _, _, rfl, rfl, ⟨by decide, by decide⟩, _, _, rfl, rfl, .inl ⟨by omega, by omega⟩, _, rfl, _, _, rfl, rfl, np, ?_⟩
          refine ⟨_, rfl, _, _, rfl, rfl, _, rfl, _, _, rfl, rfl, _, _, rfl, ?_⟩
          have ey : (if ((((x : Nat) : Int) / 2 * 2) % (n : Nat) + 1) < ((n : Nat) : Int) - 1 then ((((x : Nat) : Int) / 2 * 2) % (n : Nat) + 1) else ((n : Nat) : Int) - 1) = ((min (x1 + 1) (n - 1) : Nat) : Int) := by
            rw [hx1]
            split <;> omega
          refine ⟨x1, min (x1 + 1) (n - 1), lx1, by omega, ?_, rfl⟩
          rw [← hx1, ← ey]
          rfl
        · rintro σ' H'' ⟨x, y, lx, ly, rfl, rfl⟩
          refine ⟨fun σ' H7 => ∃ x y : Nat, x < n ∧ y < n ∧ σ' = [some (V.ref a), some (.int 1), some (.int (n : Nat)), some (.int 30), some (.ref hh), some (.ref row), some (.int (i : Nat)), some (.ref xb), some (.int (x : Nat)), some (.int (y : Nat))] ∧ Same H'' H7, ?_, ?_⟩
          · refine ⟨_, rfl, Nat.zero_le _, fun t nt => ?_⟩
            have st : Same H'' (upd H'' t (.lst [])) := same_new nt
            refine ⟨_, _, dp_rowL (rl6.same st), dp_nil (SqL.of upd_same), es_shapedL _, es_shapedL _, _, rfl, ?_⟩
            cases L with
            | nil => exact iteF (iteF ⟨x, y, lx, ly, rfl, st⟩)
            | cons p0 L0 =>
              have en : PyData.eqv (.list (((p0 :: L0).map (·.2)).map eD)) (.list (([] : List LH.E).map eD)) = false := by simp only [List.map_cons, List.map_nil, PyData.eqv, PyData.eqvAll]
              rw [en]
              refine iteT ?_
              refine ⟨_, rfl, xb, _, 2, _, rfl, rfl, SqL.of (st _ _ hxb), hw2, _, _, rfl, rfl, by show (0 : Int) < 7; decide, rfl, _, rfl, ite2 (fun _ => ?_) (fun _ => ⟨x, y, lx, ly, rfl, st⟩)⟩
              have rlt := rl6.same st
              have hll : ((p0 :: L0).map fun q => V.ref q.1).length = L0.length + 1 := by rw [List.length_map]; rfl
              obtain ⟨j, hj, lj⟩ := emod_nat w3 (n := L0.length + 1) (by omega)
              refine ⟨_, rfl, _, rfl, xb, _, 3, _, rfl, rfl, SqL.of (st _ _ hxb), hw3, _, rfl, row, _, rfl, .inl (SqL.of rlt.lst), _, _, rfl, rfl, by rw [hll]; omega, ?_⟩
              have hjl : (p0 :: L0)[j]? = some (p0 :: L0)[j] := List.getElem?_eq_getElem (by simpa using lj)
              have hm : (p0 :: L0)[j] ∈ p0 :: L0 := List.getElem_mem _
              refine ⟨row, _, _, .ref (p0 :: L0)[j].1, rfl, rfl, SqL.of rlt.lst, ?_, ?_⟩
              · show atI _ (w3 % ((((p0 :: L0).map fun q => V.ref q.1).length : Nat) : Int)) = _
                rw [hll, hj]
                exact atI_nat (by rw [List.getElem?_map, hjl]; rfl)
              · exact ⟨_, _, rfl, rlt.tup _ hm, rfl, _, _, rfl, _, _, rfl, rfl, _, _, (rlt.val _ hm).1, (rlt.val _ hm).2, rfl, st⟩
          · rintro σ' H7 ⟨x, y, lx, ly, rfl, s7⟩
            have rl7 := rl6.same s7
            refine ⟨_, rfl, .inl ⟨rfl, _, SqL.of rl7.lst⟩, ?_⟩
            refine ⟨_, rfl, _, rfl, sz' (by show 2 ≤ 100000; decide), fun t1 n1 => ?_⟩
            refine ⟨_, rfl, _, rfl, sz' (by show 2 ≤ 100000; decide), fun t2 n2 => ?_⟩
            refine ⟨sz' (by show 2 ≤ 100000; decide), fun d nd0 => ?_⟩
            have q1 : Same H7 (upd H7 t1 (.tup [.int (x : Nat), .int (y : Nat)])) := same_new n1
            have q2 : Same (upd H7 t1 (.tup [.int (x : Nat), .int (y : Nat)])) (upd (upd H7 t1 (.tup [.int (x : Nat), .int (y : Nat)])) t2 (.tup [.int (y : Nat), .int (x : Nat)])) := same_new n2
            have q3 := same_new (o := .lst [.ref t1, .ref t2]) nd0
            have k1 : SqT K _ t1 [.int (x : Nat), .int (y : Nat)] := same_tup (q2.trans q3) (SqT.of upd_same)
            have k2 : SqT K _ t2 [.int (y : Nat), .int (x : Nat)] := same_tup q3 (SqT.of upd_same)
            have q13 := (q1.trans q2).trans q3
            have kd : (upd (upd (upd H7 t1 (.tup [.int (x : Nat), .int (y : Nat)])) t2 (.tup [.int (y : Nat), .int (x : Nat)])) d (.lst [.ref t1, .ref t2])) d = some (.lst [.ref t1, .ref t2]) := upd_same
            generalize upd (upd (upd H7 t1 (.tup [.int (x : Nat), .int (y : Nat)])) t2 (.tup [.int (y : Nat), .int (x : Nat)])) d (.lst [.ref t1, .ref t2]) = H8 at k1 k2 q13 kd
            have rl8 := rl7.same q13
            have s8 : Same H2 H8 := ((s23.trans s6).trans s7).trans q13
            obtain ⟨j, hj, lj⟩ := emod_nat (w2 / 7) (n := 2) (by decide)
            refine ⟨_, rfl, xb, _, 2, _, rfl, rfl, SqL.of (q13 _ _ (s7 _ _ hxb)), hw2, _, _, rfl, rfl, ⟨by decide, by decide⟩, _, _, rfl, rfl, by show (0 : Int) < 2; decide, ?_⟩
            have fin : ∀ (t : Addr) (e : LH.E), e.1 < n → e.2 < n → SqT K H8 t [.int (e.1 : Nat), .int (e.2 : Nat)] → RowL K (upd H8 row (.lst ((L.map fun q => V.ref q.1) ++ [.ref t]))) row n (L ++ [(t, e)]) := fun t e l1 l2 ht => by
              refine ⟨by rw [upd_same, List.map_append]; rfl, fun q hq => sqt_lst rl8.lst ?_, fun q hq => ?_⟩
              · rcases List.mem_append.mp hq with hq | hq
                · exact rl8.tup q hq
                · have eq : q = (t, e) := by simpa using hq
                  rw [eq]
                  exact ht
              · rcases List.mem_append.mp hq with hq | hq
                · exact rl8.val q hq
                · have eq : q = (t, e) := by simpa using hq
                  rw [eq]
                  exact ⟨l1, l2⟩
            have hL30 : L.length ≤ 40 := by omega
            obtain ⟨t, e, l1, l2, ht, hat⟩ : ∃ (t : Addr) (e : LH.E), e.1 < n ∧ e.2 < n ∧ SqT K H8 t [.int (e.1 : Nat), .int (e.2 : Nat)] ∧ atI [V.ref t1, .ref t2] (w2 / 7 % 2) = some (.ref t) := by
              match j, lj, hj with
              | 0, _, hj => exact ⟨t1, (x, y), lx, ly, k1, by rw [show w2 / 7 % 2 = ((0 : Nat) : Int) from hj]; rfl⟩
              | 1, _, hj => exact ⟨t2, (y, x), ly, lx, k2, by rw [show w2 / 7 % 2 = ((1 : Nat) : Int) from hj]; rfl⟩
            exact ⟨d, _, _, _, rfl, rfl, SqL.of kd, hat, row, _, _, rfl, rfl, rl8.lst, by rw [List.length_map]; exact sz (by omega), some (.int (i : Nat)), some (.ref xb), some (.int (x : Nat)), some (.int (y : Nat)), L ++ [(t, e)], rfl, same_own s8 nrow2, fin t e l1 l2 ht, by rw [List.length_append, rll]; rfl⟩
    · rintro σ H3 ⟨y6, y7, y8, y9, L, rfl, s23, rl, rll⟩
      refine ⟨_, rfl, .inl ⟨row, _, rfl, SqL.of rl.lst, fun p np => ?_⟩⟩
      have s9 := same_new (o := .tup (L.map fun q => V.ref q.1)) np
      refine q _ p (L.map (·.2)) ((s12.trans s23).trans s9) ⟨L, SqT.of upd_same, rfl, fun q' hq => same_tup s9 (rl.tup q' hq)⟩ (fun e he => ?_) (by rw [List.length_map]; omega)
      obtain ⟨q', hq, rfl⟩ := List.mem_map.mp he
      exact rl.val q' hq
end
end LH
/-! LhW -/
set_option Elab.async false
set_option linter.all false
set_option maxRecDepth 100000
set_option maxHeartbeats 2000000
namespace LH
open PySem PySem.Spec PyProof.Rows L2 LamX
theorem IsLots.len {n : Nat} {h : Nat → Nat} {ls : List (List Nat)} (i : IsLots n h ls) : ls.length ≤ n := by
  have := nodup_le i.nodup (m := (List.range n).map (cls n h)) fun l hl => by
    obtain ⟨x, hx, e⟩ := (i.mem l).mp hl
    exact List.mem_map.mpr ⟨x, List.mem_range.mpr hx, e.symm⟩
  simpa using this
theorem IsLots.at_ {n : Nat} {h : Nat → Nat} {ls : List (List Nat)} (i : IsLots n h ls) {l : List Nat} (hl : l ∈ ls) {x : Nat} (hx : x ∈ l) : l = cls n h x := by
  obtain ⟨y, hy, e⟩ := (i.mem l).mp hl
  rw [e] at hx ⊢
  exact (cls_congr (mem_cls.mp hx).2).symm
theorem filter_snoc {α : Type} {p : α → Bool} {L : List α} {i : Nat} {a : α} (h : L[i]? = some a) : (L.take (i + 1)).filter p = (L.take i).filter p ++ (if p a = true then [a] else []) := by
  rw [List.take_add_one, h, List.filter_append]
  show _ ++ [a].filter p = _
  rw [List.filter_cons]
  rfl
theorem ne_dp {l m : List Nat} : (!PyData.eqv (lotD l) (lotD m)) = !decide (l = m) := by rw [lot_eqv]
section
variable {P : Program} {w : World} {K : PySem.W.Frag} {mg : Str → Option Value} {base : Heap}
abbrev N55 : List Str := ["_law_many_here", "_law_pairs", "_law_x", "_law_lots", "_law_y", "_law_one", "_law_other", "_law_lot"]
theorem sc55 : FnScope N55 ["_law_many_here", "_law_pairs"] (defScope (top 55)) := ⟨rfl, rfl, rfl, by decide +kernel, rfl, by decide +kernel, by decide +kernel⟩
/-- lots in a list, in some order -/
structure LotsL (K : PySem.W.Frag) (H : Hp) (la : Addr) (n : Nat) (h : Nat → Nat) (L : List (Addr × List Nat)) : Prop where
  lst : H la = some (.lst (L.map fun q => V.ref q.1))
  tup : ∀ q ∈ L, SqT K H q.1 (iv q.2)
  is : IsLots n h (L.map (·.2))
theorem LotsL.same {H H' : Hp} {la : Addr} {n : Nat} {h : Nat → Nat} {L : List (Addr × List Nat)} (e : Same H H') (x : LotsL K H la n h L) : LotsL K H' la n h L :=
  ⟨e _ _ x.lst, fun q hq => same_tup e (x.tup q hq), x.is⟩
theorem LotsL.len {H : Hp} {la : Addr} {n : Nat} {h : Nat → Nat} {L : List (Addr × List Nat)} (x : LotsL K H la n h L) : L.length ≤ n := by
  have := x.is.len
  rwa [List.length_map] at this
def sp55 (K : PySem.W.Frag) : Sp := fun vs H Q _ => ∃ (a : Addr) (n : Nat) (es : List E), vs = [.int (n : Nat), .ref a] ∧ RowAt K H a es ∧ Val n es ∧ es.length ≤ 100 ∧ 1 ≤ n ∧ n ≤ 40 ∧
  ∀ (H' : Hp) (p : Addr) (ls : List (List Nat)), Same H H' → LotsAt K H' p ls → Lots n (qf id es) ls → Q (.ref p) H'
/-- what a comprehension over lots, by a test, asks -/
theorem lots_comp {H H1 : Hp} {la D : Addr} {n : Nat} {h : Nat → Nat} {L : List (Addr × List Nat)} {σ : L2.St} {tt : TT} {Qd : Hp → Prop} (p : Addr × List Nat → Bool) (x : LotsL K H1 la n h L) (s1 : Same H H1) (n1 : H1 D = none) (hn : n ≤ 40)
    (hσ : ∃ a b c d e f g o, σ = [a, b, c, d, e, f, g, o])
    (hg : ∀ (q : Addr × List Nat) (H' : Hp) (R : Bool → Hp → Prop), q ∈ L → Same H1 H' → (∀ H'', Same H' H'' → R (p q) H'') → tt ((wipe σ [7]).set 7 (some (.ref q.1))) H' R)
    (hd : ∀ H', Same H1 H' → H' D = some (.lst ((L.filter p).map fun q => V.ref q.1)) → Qd H') :
    ∃ W : Nat → Nat → Hp → Prop, (∃ m, W 0 m (upd H1 D (.lst []))) ∧ ∀ i m H, W i m H → ((Itl K la).stop i H ∧ Qd H) ∨ ((Itl K la).go i H ∧ ∃ Nx : Hp → Prop, (∀ H', Nx H' → ∃ m', m' < m ∧ W (i + 1) m' H') ∧ ∀ x H', (Itl K la).yld i H x H' → gName 7 x (wipe σ [7]) H' fun σ2 H2 => wipe σ2 [7] = wipe σ [7] ∧ tt σ2 H2 fun b H3 =>
      if b = true then tVar 7 σ2 H3 fun y H4 => ∃ acc, H4 D = some (.lst acc) ∧ acc.length < sizeLine ∧ Nx (upd H4 D (.lst (acc ++ [y]))) else Nx H3) := by
  obtain ⟨a, b, c, d, e, f, g, o, rfl⟩ := hσ
  have hL := x.len
  refine lc_list (K := K) (a := la) (xs := L.map fun q => V.ref q.1) (fun i H' => Same H1 H' ∧ H' D = some (.lst (((L.take i).filter p).map fun q => V.ref q.1))) ⟨same_new n1, upd_same⟩ (fun i H' _ z => SqL.of (z.1 _ _ x.lst)) ?_ ?_
  · rintro i y H2 hi ⟨s2, g2⟩
    rw [List.getElem?_map] at hi
    cases eq : L[i]? with
    | none => rw [eq] at hi; cases hi
    | some q =>
      rw [eq] at hi
      have ey : V.ref q.1 = y := Option.some.inj hi
      subst ey
      refine ⟨rfl, ?_⟩
      refine hg q H2 _ (List.mem_of_getElem? eq) s2 fun H3 s3 => ?_
      rw [filter_snoc eq]
      cases hp : p q with
      | true =>
        refine iteT ⟨_, rfl, _, s3 _ _ g2, ?_, same_own (s2.trans s3) n1, ?_⟩
        · rw [List.length_map]
          exact sz (Nat.le_trans (List.length_filter_le _ _) (by rw [List.length_take]; omega))
        · rw [upd_same, if_pos rfl, List.map_append]
          rfl
      | false =>
        refine iteF ⟨s2.trans s3, ?_⟩
        rw [if_neg (by decide), List.append_nil]
        exact s3 _ _ g2
  · rintro H2 ⟨s2, g2⟩
    rw [List.length_map, List.take_length] at g2
    exact hd H2 s2 g2
theorem ok55 (D : Df K mg "_law_lots_by" (top 55) ["_law_many_here", "_law_pairs"]) (T : Tx K mg) : Ca P w K mg base 1 "_law_lots_by" (sp55 K) := by
  refine D.ca sc55 (fun vs H Q E h => ?_) (fun f cdv A outer s H vs Q E hr h => ?_)
  · obtain ⟨a, n, es, rfl, _⟩ := h
    rfl
  · obtain ⟨a, n, es, rfl, hA0, hv, hlen, h1, h2, q⟩ := h
    have nd := sc55.nd
    obtain ⟨M, hA, hMe, hM⟩ := id hA0
    have hMl : M.length = es.length := by rw [← hMe, List.length_map]
    have hu65 : (A.deeper (envOfC "_law_lots_by" (defScope (top 55)) s.heap.objs.size f cdv)).units + 65 < cLine := by have := hr.un; omega
    refine ⟨_, pss_cons (ps_setLc (i := 3) (own := [("_law_x", 2)]) (g := gName 2) (tt := tYes) rfl nd rfl rfl (sw_true rfl rfl rfl (by decide +kernel)) (pi_range1 (by rfl) T.rng (pa_cons (pv 0) pa_nil)) (blkOk_by (N := N55) (sc := defScope (top 55)) (by decide +kernel))
          (fun _ _ _ _ _ => pg_name (i := 2) nd rfl (.inl rfl)) (fun _ _ _ _ _ => pts_nil) (fun _ _ _ _ _ => pe_tup (pa_cons (pv 2) pa_nil)))
      (pss_cons (ps_for PassesOwn.never rfl (pi_tup (pv 1)) (pg_tup rfl (pgs_cons (pg_name (i := 2) nd rfl (.inr rfl)) (pgs_cons (pg_name (i := 4) nd rfl (.inr rfl)) pgs_nil)))
        (pss_cons (ps_set (i := 5) nd rfl (.inr rfl) (pil (K := K) (pe_lc (own := [("_law_lot", 7)]) (g := gName 7) rfl nd (pi_list (pv 3)) (blkOk_by (N := N55) (sc := defScope (top 55)) (by decide +kernel))
            (fun _ _ _ _ _ => pg_name (i := 7) nd rfl (.inl rfl)) (fun _ _ _ _ _ => pts_one (pt_cmpR (r := rIn K false) op_in_seq (pv 2) (pv 7) (by rfl))) (fun _ _ _ _ _ => pv 7)) pe_int))
        (pss_cons (ps_set (i := 6) nd rfl (.inr rfl) (pil (K := K) (pe_lc (own := [("_law_lot", 7)]) (g := gName 7) rfl nd (pi_list (pv 3)) (blkOk_by (N := N55) (sc := defScope (top 55)) (by decide +kernel))
            (fun _ _ _ _ _ => pg_name (i := 7) nd rfl (.inl rfl)) (fun _ _ _ _ _ => pts_one (pt_cmpR (r := rIn K false) op_in_seq (pv 4) (pv 7) (by rfl))) (fun _ _ _ _ _ => pv 7)) pe_int))
        (pss_one (ps_if (pt_cmpR (op_neD hr.units) (pv 5) (pv 6) (nomark _))
          (pss_one (ps_set (i := 3) nd rfl (.inl rfl) (pe_op op_cat (pe_lc (own := [("_law_lot", 7)]) (g := gName 7) rfl nd (pi_list (pv 3)) (blkOk_by (N := N55) (sc := defScope (top 55)) (by decide +kernel))
            (fun _ _ _ _ _ => pg_name (i := 7) nd rfl (.inl rfl)) (fun _ _ _ _ _ => pts_one (pt_cmpR (r := rNotInDT K) (op_notInDT hu65) (pv 7) (pe_tup (pa_cons (pv 5) (pa_cons (pv 6) pa_nil))) (by rfl))) (fun _ _ _ _ _ => pv 7))
            (pe_lst (pa_cons (ptup (K := K) T.tup (pe_callB cr_sortedIT (by rfl) T.srt (by decide +kernel) (pa_cons (pe_op op_catA (pv 5) (pv 6)) pa_nil))) pa_nil))))) pss_nil)))))
      (pss_one (ps_ret (pe_callB cr_sortL (by rfl) T.srt (by decide +kernel) (pa_cons (pv 3) pa_nil))))), ?_⟩
    refine ⟨_, rfl, _, rfl, by omega, by omega, fun D1 n1 => ?_⟩
    rw [Int.toNat_natCast]
    refine lc_range (lo := 0) (n := n) (fun i H' => ∃ L : List (Addr × List Nat), Same H H' ∧ H' D1 = some (.lst (L.map fun q => V.ref q.1)) ∧ L.map (·.2) = (List.range i).map (fun x => [x]) ∧ ∀ q ∈ L, SqT K H' q.1 (iv q.2)) ⟨[], same_new n1, upd_same, rfl, fun q hq => absurd hq (by simp)⟩ ?_ ?_
    · rintro i H1 hi ⟨L, s1, g1, g2, g3⟩
      rw [Int.zero_add]
      refine ⟨rfl, yes ?_⟩
      refine ⟨_, rfl, sz' (by show 1 ≤ 100000; decide), fun t nt => ?_⟩
      have st : Same H1 (upd H1 t (.tup [.int (i : Nat)])) := same_new nt
      have hLl : L.length = i := by
        have := congrArg List.length g2
        rwa [List.length_map, List.length_map, List.length_range] at this
      refine ⟨_, st _ _ g1, by rw [List.length_map]; exact sz (by omega), L ++ [(t, [i])], same_own (s1.trans st) n1, by rw [upd_same, List.map_append]; rfl, by rw [List.map_append, g2, List.range_succ, List.map_append]; rfl, fun q hq => sqt_lst (st _ _ g1) ?_⟩
      rcases List.mem_append.mp hq with hq | hq
      · exact same_tup st (g3 q hq)
      · have eq : q = (t, [i]) := by simpa using hq
        rw [eq]
        exact SqT.of upd_same
    · rintro H1 ⟨L0, s1, g1, g2, g3⟩
      have ll0 : LotsL K H1 D1 n (qf id (es.take 0)) L0 := ⟨g1, g3, by rw [g2]; exact lots_one n⟩
      refine ⟨_, rfl, a, rfl, ⟨_, same_tup s1 hA⟩, ?_⟩
      refine for_tup (K := K) (a := a) (xs := M.map fun q => V.ref q.1) (fun i σ H' => ∃ (y2 y4 y5 y6 : Option V) (la : Addr) (L : List (Addr × List Nat)), σ = [some (.int (n : Nat)), some (.ref a), y2, some (.ref la), y4, y5, y6, none] ∧ Same H H' ∧ LotsL K H' la n (qf id (es.take i)) L)
        ⟨none, none, none, none, D1, L0, rfl, s1, ll0⟩ (fun i σ H' _ ⟨_, _, _, _, _, _, _, s2, _⟩ => same_tup s2 hA) ?_ ?_
      · rintro i z σ H2 hi ⟨y2, y4, y5, y6, la, L, rfl, s2, ll⟩
        rw [List.getElem?_map] at hi
        cases eM : M[i]? with
        | none => rw [eM] at hi; cases hi
        | some p =>
          rw [eM] at hi
          have ez : V.ref p.1 = z := Option.some.inj hi
          subst ez
          have hp := List.mem_of_getElem? eM
          have hei : es[i]? = some p.2 := by rw [← hMe, List.getElem?_map, eM]; rfl
          obtain ⟨hx, hy⟩ := hv p.2 (List.mem_of_getElem? hei)
          have eqf : qf id (es.take (i + 1)) = mrg (qf id (es.take i)) p.2 := by
            rw [List.take_add_one, hei]
            unfold qf
            rw [List.foldl_append]
            rfl
          rw [eqf]
          generalize qf id (es.take i) = h at ll
          have hL := ll.len
          have ne_f : ∀ x, x < n → ∃ q ∈ L, x ∈ q.2 := fun x hx => by
            obtain ⟨q, hq, e⟩ := List.mem_map.mp ((ll.is.mem (cls n h x)).mpr ⟨x, hx, rfl⟩)
            exact ⟨q, hq, by rw [e]; exact cls_self hx⟩
          have first : ∀ x, x < n → ∃ q, q ∈ L ∧ q.2 = cls n h x ∧ ((L.filter fun q => decide (x ∈ q.2)).map fun q => V.ref q.1)[0]? = some (V.ref q.1) := fun x hx => by
            obtain ⟨q0, hq0, hx0⟩ := ne_f x hx
            cases e : L.filter fun q => decide (x ∈ q.2) with
            | nil => exact absurd (List.filter_eq_nil_iff.mp e q0 hq0) (by simpa using hx0)
            | cons q r =>
              have hq : q ∈ L.filter fun q => decide (x ∈ q.2) := by rw [e]; simp
              obtain ⟨hm, hxm⟩ := List.mem_filter.mp hq
              have hxm' : x ∈ q.2 := by simpa using hxm
              exact ⟨q, hm, ll.is.at_ (List.mem_map.mpr ⟨q, hm, rfl⟩) hxm', rfl⟩
          refine ⟨p.1, _, rfl, same_tup s2 (hM p hp), rfl, _, _, rfl, _, _, rfl, rfl, ?_⟩
          -- one
          refine ⟨_, rfl, la, rfl, ⟨_, SqL.of ll.lst⟩, fun Da nDa => ?_⟩
          refine lots_comp (fun q => decide (p.2.1 ∈ q.2)) ll s2 nDa h2 ⟨_, _, _, _, _, _, _, _, rfl⟩ (fun q H' R hq sq hR => ?_) fun H3 s3 g3 => ?_
          · refine ⟨_, rfl, _, rfl, q.1, _, rfl, .inr (same_tup sq (ll.tup q hq)), rfl, iv_flat _, _, rfl, ?_⟩
            rw [inV_iv]
            exact hR H' (Same.refl H')
          obtain ⟨q1, hq1, eq1, at1⟩ := first p.2.1 hx
          refine ⟨Da, _, 0, _, rfl, rfl, SqL.of g3, atI_nat (j := 0) at1, ?_⟩
          -- other
          have ll3 := ll.same s3
          refine ⟨_, rfl, la, rfl, ⟨_, SqL.of ll3.lst⟩, fun Db nDb => ?_⟩
          refine lots_comp (fun q => decide (p.2.2 ∈ q.2)) ll3 (s2.trans s3) nDb h2 ⟨_, _, _, _, _, _, _, _, rfl⟩ (fun q H' R hq sq hR => ?_) fun H4 s4 g4 => ?_
          · refine ⟨_, rfl, _, rfl, q.1, _, rfl, .inr (same_tup sq (ll3.tup q hq)), rfl, iv_flat _, _, rfl, ?_⟩
            rw [inV_iv]
            exact hR H' (Same.refl H')
          obtain ⟨q2, hq2, eq2, at2⟩ := first p.2.2 hy
          refine ⟨Db, _, 0, _, rfl, rfl, SqL.of g4, atI_nat (j := 0) at2, ?_⟩
          have ll4 := ll3.same s4
          have s24 := (s2.trans s3).trans s4
          -- if one != other
          refine ⟨_, rfl, _, rfl, _, _, dp_lot (ll4.tup q1 hq1), dp_lot (ll4.tup q2 hq2), lot_shaped _, lot_shaped _, _, rfl, ?_⟩
          rw [ne_dp]
          by_cases hc : q1.2 = q2.2
          · rw [decide_eq_true hc]
            rw [eq1, eq2] at hc
            have hh := (cls_eq hx).mp hc
            exact iteF ⟨_, _, _, _, la, L, rfl, s24, ⟨ll4.lst, ll4.tup, ll4.is.rel fun x y _ _ => (mrg_same hh x y).symm⟩⟩
          · rw [decide_eq_false hc]
            have hh : h p.2.1 ≠ h p.2.2 := fun z => hc (by rw [eq1, eq2]; exact cls_congr z)
            refine iteT ?_
            refine ⟨_, rfl, la, rfl, ⟨_, SqL.of ll4.lst⟩, fun Dc nDc => ?_⟩
            refine lots_comp (fun q => !(decide (q.2 = cls n h p.2.1) || decide (q.2 = cls n h p.2.2))) ll4 s24 nDc h2 ⟨_, _, _, _, _, _, _, _, rfl⟩ (fun q H' R hq sq hR => ?_) fun H5 s5 g5 => ?_
            · refine ⟨_, rfl, _, rfl, _, rfl, sz' (by show 2 ≤ 100000; decide), fun t nt => ?_⟩
              have st : Same H' (upd H' t (.tup [.ref q1.1, .ref q2.1])) := same_new nt
              have d1 := dp_lot (same_tup st (same_tup sq (ll4.tup q1 hq1)))
              have d2 := dp_lot (same_tup st (same_tup sq (ll4.tup q2 hq2)))
              refine ⟨lotD q.2, [lotD q1.2, lotD q2.2], dp_lot (same_tup st (same_tup sq (ll4.tup q hq))), .tup (SqT.of upd_same) (.cons d1 (.cons d2 .nil)), lot_shaped _, lots_shapedT [q1.2, q2.2], _, rfl, ?_⟩
              have ev : (!([lotD q1.2, lotD q2.2].any fun z => PyData.eqv z (lotD q.2))) = !(decide (q.2 = cls n h p.2.1) || decide (q.2 = cls n h p.2.2)) := by
                simp only [List.any_cons, List.any_nil, lot_eqv, Bool.or_false, eq1, eq2]
                rw [decide_eq_decide.mpr (show (cls n h p.2.1 = q.2) ↔ (q.2 = cls n h p.2.1) from eq_comm), decide_eq_decide.mpr (show (cls n h p.2.2 = q.2) ↔ (q.2 = cls n h p.2.2) from eq_comm)]
              rw [ev]
              exact hR _ st
            have ll5 := ll4.same s5
            -- the two together
            refine ⟨_, rfl, _, rfl, ?_⟩
            have lens : q1.2.length ≤ 40 ∧ q2.2.length ≤ 40 := by
              have hf : ∀ x, (cls n h x).length ≤ n := fun x => by
                have := List.length_filter_le (fun y => decide (h y = h x)) (List.range n)
                rw [List.length_range] at this
                exact this
              rw [eq1, eq2]
              have := hf p.2.1
              have := hf p.2.2
              omega
            refine cat_uni (ll5.tup q1 hq1) (ll5.tup q2 hq2) (by rw [iv_len, iv_len]; omega) fun H6 c6 s6 hc6 => ?_
            rw [← iv_app, iv_zs] at hc6
            refine ⟨c6, _, rfl, hc6, fun ns' l7 pm so n7 => ?_⟩
            obtain ⟨ys, rfl, pm'⟩ := perm_zs pm
            have so' := zs_le so
            have s7 : Same H6 (upd H6 l7 (.lst ((zs ys).map V.int))) := same_new n7
            refine .inl ⟨l7, _, rfl, SqL.of upd_same, fun t8 n8 => ?_⟩
            have s8 := same_new (o := .tup ((zs ys).map V.int)) n8
            refine ⟨sz' (by show 1 ≤ 100000; decide), fun d9 n9 => ?_⟩
            have s9 := same_new (o := .lst [.ref t8]) n9
            have k8 : SqT K _ t8 (iv ys) := same_tup s9 (by rw [iv_zs]; exact SqT.of upd_same)
            have k9 : (upd (upd (upd H6 l7 (.lst ((zs ys).map V.int))) t8 (.tup ((zs ys).map V.int))) d9 (.lst [.ref t8])) d9 = some (.lst [.ref t8]) := upd_same
            have s59 := ((s6.trans s7).trans s8).trans s9
            have k5 := s59 _ _ g5
            generalize upd (upd (upd H6 l7 (.lst ((zs ys).map V.int))) t8 (.tup ((zs ys).map V.int))) d9 (.lst [.ref t8]) = H9 at k8 k9 k5 s59
            have ll9 := ll5.same s59
            have hf40 : ((L.filter fun q => !(decide (q.2 = cls n h p.2.1) || decide (q.2 = cls n h p.2.2))).map fun q => V.ref q.1).length ≤ 40 := by
              rw [List.length_map]
              exact Nat.le_trans (List.length_filter_le _ _) (by omega)
            refine ⟨Dc, d9, _, _, rfl, rfl, k5, k9, sz' (by show _ + 1 ≤ 100000; omega), fun lb nlb => ?_⟩
            have s10 := same_new (o := .lst (((L.filter fun q => !(decide (q.2 = cls n h p.2.1) || decide (q.2 = cls n h p.2.2))).map fun q => V.ref q.1) ++ [.ref t8])) nlb
            have ey : ys = cls n (mrg h p.2) p.2.1 := merged hx hy hh (by rw [← eq1, ← eq2]; exact pm') so'
            refine ⟨_, _, _, _, lb, (L.filter fun q => !(decide (q.2 = cls n h p.2.1) || decide (q.2 = cls n h p.2.2))) ++ [(t8, ys)], rfl, ((s24.trans s5).trans s59).trans s10, ⟨by rw [upd_same, List.map_append]; rfl, fun q hq => same_tup s10 ?_, ?_⟩⟩
            · rcases List.mem_append.mp hq with hq | hq
              · exact ll9.tup q (List.mem_filter.mp hq).1
              · have eq : q = (t8, ys) := by simpa using hq
                rw [eq]
                exact k8
            · rw [List.map_append]
              have e1 : (L.filter fun q => !(decide (q.2 = cls n h p.2.1) || decide (q.2 = cls n h p.2.2))).map (·.2) = (L.map (·.2)).filter fun l => !(decide (l = cls n h p.2.1) || decide (l = cls n h p.2.2)) := by
                rw [List.filter_map]
                rfl
              rw [e1]
              show IsLots n (mrg h p.2) (_ ++ [ys])
              rw [ey]
              exact ll.is.merge hx hy hh
      · rintro σ H2 ⟨y2, y4, y5, y6, la, L, rfl, s2, ll⟩
        rw [List.length_map, hMl, List.take_length] at ll
        refine ⟨_, rfl, la, L, rfl, SqL.of ll.lst, fun q' hq => ⟨ll.tup q' hq, fun z => ?_⟩, fun L' r pm so nr => ?_⟩
        · obtain ⟨x, hx, e⟩ := (ll.is.mem q'.2).mp (List.mem_map.mpr ⟨q', hq, rfl⟩)
          exact cls_ne hx (e.symm.trans z)
        · refine q _ r (L'.map (·.2)) (s2.trans (same_new nr)) ⟨L', SqL.of upd_same, rfl, fun q' hq => same_tup (same_new nr) (ll.tup q' (pm.mem_iff.mp hq))⟩ (Lots.of (ll.is.perm (pm.map _)) ?_)
          exact List.pairwise_map.mpr so
end
end LH
/-! LhX -/
set_option Elab.async false
set_option linter.all false
set_option maxRecDepth 100000
set_option maxHeartbeats 2000000
namespace LH
open PySem PySem.Spec PyProof.Rows L2 LamX
theorem PileX.upd {K : PySem.W.Frag} {C : Addr} {H : Hp} {p l m d : Addr} {n : Nat} {es : List E} {ds : List V} {o : HO} (x : PileX K C H p l m n es) (hd : H d = some (.lst ds)) (h1 : d ≠ l) (h2 : d ≠ m) : PileX K C (upd H d o) p l m n es := by
  obtain ⟨ne, ⟨dx, hp⟩, ⟨ss, s, hl, ⟨u, v, g1, g2, g3⟩, hss⟩, ⟨L, hm, hLe, hL⟩⟩ := x
  refine ⟨ne, ⟨dx, ?_⟩, ⟨ss, s, by rw [upd_ne (Ne.symm h1)]; exact hl, ⟨u, v, sqt_lst hd g1, sqt_lst hd g2, sqt_lst hd g3⟩, hss⟩, ⟨L, by rw [upd_ne (Ne.symm h2)]; exact hm, hLe, fun q hq => sqt_lst hd (hL q hq)⟩⟩
  rw [upd_ne (ne_of hp hd (fun z => by cases z))]
  exact hp
theorem PileX.same {K : PySem.W.Frag} {C : Addr} {H H' : Hp} {p l m : Addr} {n : Nat} {es : List E} (e : Same H H') (x : PileX K C H p l m n es) : PileX K C H' p l m n es := by
  obtain ⟨ne, ⟨dx, hp⟩, ⟨ss, s, hl, hB, hss⟩, ⟨L, hm, hLe, hL⟩⟩ := x
  exact ⟨ne, ⟨dx, e _ _ hp⟩, ⟨ss, s, e _ _ hl, StoreAt.same e hB, hss⟩, ⟨L, e _ _ hm, hLe, fun q hq => same_tup e (hL q hq)⟩⟩
theorem rem_snoc : ∀ (es : List E) (p : Nat → Bool) (e : E), rem p (es ++ [e]) = rem p es ++ (if p es.length then [] else [e])
  | [], p, e => rfl
  | a :: es, p, e => by
    rw [List.cons_append, rem_cons, rem_cons, rem_snoc es]
    show _ = (if p 0 = true then _ else _) ++ (if p (es.length + 1) = true then [] else [e])
    by_cases h : p 0 = true
    · rw [if_pos h, if_pos h]
    · rw [if_neg h, if_neg h]
      rfl
section
variable {P : Program} {w : World} {K : PySem.W.Frag} {mg : Str → Option Value} {base : Heap} {C : Addr}
/-! ### _law_piled -/
abbrev N56 : List Str := ["_law_many_here", "_law_row", "_law_pile", "_law_real", "_law_x", "_law_y"]
theorem sc56 : FnScope N56 ["_law_many_here", "_law_row"] (defScope (top 56)) := ⟨rfl, rfl, rfl, by decide +kernel, rfl, by decide +kernel, by decide +kernel⟩
def sp56 (K : PySem.W.Frag) (C : Addr) : Sp := fun vs H Q _ => ∃ (a : Addr) (n : Nat) (es : List E), vs = [.int (n : Nat), .ref a] ∧ RowAt K H a es ∧ Val n es ∧ es.length ≤ 99 ∧ 1 ≤ n ∧ n ≤ 40 ∧
  ∀ (H' : Hp) (p b : Addr), Same H H' → SqT K H' p [.ref b, .int (real id es : Nat)] → PileAt K C H' b n es → Q (.ref p) H'
theorem ok56 (D : Df K mg "_law_piled" (top 56) ["_law_many_here", "_law_row"]) (cI : Ma P w K mg base 4 "Pile" C (spInit K C)) (cJ : Me P w K mg base 5 C "join" (spJ K C)) : Ca P w K mg base 6 "_law_piled" (sp56 K C) := by
  refine D.ca sc56 (fun vs H Q E h => ?_) (fun f cdv A outer s H vs Q E hr h => ?_)
  · obtain ⟨a, n, es, rfl, _⟩ := h
    rfl
  · obtain ⟨a, n, es, rfl, ⟨M, hA, hMe, hM⟩, hv, hlen, h1, h2, q⟩ := h
    have nd := sc56.nd
    have hMl : M.length = es.length := by rw [← hMe, List.length_map]
    refine ⟨_, pss_cons (ps_set (i := 2) nd rfl (.inr rfl) (pmk cI hr (pa_cons (pv 0) pa_nil)))
      (pss_cons (ps_setLc (i := 3) (own := [("_law_x", 4), ("_law_y", 5)]) (g := gTup K 2 (gCons (gName 4) (gCons (gName 5) gNil))) (tt := tYes) rfl nd rfl rfl (sw_true rfl rfl rfl (by decide +kernel)) (pi_tup (pv 1)) (blkOk_by (N := N56) (sc := defScope (top 56)) (by decide +kernel))
          (fun _ _ _ _ _ => pg_tup rfl (pgs_cons (pg_name (i := 4) nd rfl (.inl rfl)) (pgs_cons (pg_name (i := 5) nd rfl (.inl rfl)) pgs_nil))) (fun _ _ _ _ _ => pts_nil) (fun _ _ _ _ _ => pmt cJ hr (pv 2) (pa_cons (pv 4) (pa_cons (pv 5) pa_nil))))
      (pss_one (ps_ret (pe_tup (pa_cons (pv 2) (pa_cons (pe_bm PySem.F.plainAttrs_list PySem.F.slot_list_count PySem.F.type_list_count mt_countB (pv 3) (pa_cons pe_bl pa_nil)) pa_nil)))))), ?_⟩
    refine ⟨_, rfl, fun x dx nx ndx nex => ?_⟩
    refine ⟨x, dx, n, rfl, upd_same, h1, h2, fun H1 l m keep nl nm nlm px => ⟨rfl, ?_⟩⟩
    have s1 : Same H H1 := Same.made nx ndx keep
    have nlH : H l = none := (upd_none' (upd_none' nl).2).2
    have nmH : H m = none := (upd_none' (upd_none' nm).2).2
    refine ⟨_, rfl, a, rfl, ⟨_, same_tup s1 hA⟩, fun D1 n1 => ?_⟩
    have n1H : H D1 = none := s1.free n1
    obtain ⟨_, ⟨_, hp0⟩, ⟨_, _, hl0, _, _⟩, ⟨_, hm0, _, _⟩⟩ := id px
    have nDl : D1 ≠ l := (ne_of_none hl0 n1).symm
    have nDm : D1 ≠ m := (ne_of_none hm0 n1).symm
    refine lc_tup (K := K) (a := a) (xs := M.map fun q => V.ref q.1) (fun i H' => Same H H' ∧ PileX K C H' x l m n (es.take i) ∧ H' D1 = some (.lst ((ansU (new n) (es.take i)).map V.bl))) ⟨same_own s1 n1H, px.same (same_new n1), upd_same⟩ (fun i H' _ z => same_tup z.1 hA) ?_ ?_
    · rintro i y H2 hi ⟨s2, p2, g2⟩
      rw [List.getElem?_map] at hi
      cases eM : M[i]? with
      | none => rw [eM] at hi; cases hi
      | some p =>
        rw [eM] at hi
        have ey : V.ref p.1 = y := Option.some.inj hi
        subst ey
        have hp := List.mem_of_getElem? eM
        have hei : es[i]? = some p.2 := by rw [← hMe, List.getElem?_map, eM]; rfl
        have hii : i < es.length := (List.getElem?_eq_some_iff.mp hei).1
        have hve := hv p.2 (List.mem_of_getElem? hei)
        have etk : es.take (i + 1) = es.take i ++ [p.2] := by rw [List.take_add_one, hei]; rfl
        refine ⟨p.1, _, rfl, same_tup s2 (hM p hp), rfl, _, _, rfl, _, _, rfl, rfl, rfl, yes ?_⟩
        obtain ⟨dx2, hp2⟩ := p2.ins
        refine ⟨_, rfl, x, dx2, _, rfl, hp2, pf_no _ _ (by decide +kernel) (by decide +kernel), ?_⟩
        refine ⟨_, rfl, _, rfl, x, l, m, n, p.2.1, p.2.2, es.take i, rfl, p2, fun e' me => hv e' (List.mem_of_mem_take me), hve.1, hve.2, by rw [List.length_take]; omega, h2, fun H3 k3 p3 => ?_⟩
        have gD := k3 _ _ g2 nDl nDm
        refine ⟨_, gD, by rw [List.length_map, ansU_len, List.length_take]; exact sz (by omega), fun b o e => ?_, ?_, ?_⟩
        · have e2 := s2 _ _ e
          rw [upd_ne (ne_of_none e n1H)]
          exact k3 b o e2 (ne_of_none e nlH) (ne_of_none e nmH)
        · rw [etk]
          exact p3.upd gD nDl nDm
        · rw [upd_same, etk, ansU_snoc, List.map_append]
          rfl
    · rintro H2 ⟨s2, p2, g2⟩
      rw [List.length_map, hMl, List.take_length] at p2 g2
      obtain ⟨_, ea⟩ := Good.of es (by omega) hv
      refine ⟨_, rfl, _, rfl, .inl ⟨rfl, _, SqL.of g2⟩, D1, _, rfl, rfl, SqL.of g2, sz' (by show 2 ≤ 100000; decide), fun t nt => ?_⟩
      have st := same_new (o := .tup [.ref x, .int ((ansU (new n) es).count true : Nat)]) nt
      refine q _ t x (s2.trans st) ?_ ⟨l, m, p2.same st⟩
      have er : real id es = (ansU (new n) es).count true := by rw [ea]; rfl
      rw [er]
      exact SqT.of upd_same
/-! ### _law_left -/
abbrev N57 : List Str := ["_law_row", "_law_numbers_here", "_law_k"]
theorem sc57 : FnScope N57 ["_law_row", "_law_numbers_here"] (defScope (top 57)) := ⟨rfl, rfl, rfl, by decide +kernel, rfl, by decide +kernel, by decide +kernel⟩
def sp57 (K : PySem.W.Frag) : Sp := fun vs H Q _ => ∃ (a b : Addr) (es : List E) (S : List Nat), vs = [.ref a, .ref b] ∧ RowAt K H a es ∧ es.length ≤ 100 ∧ SqL K H b (iv S) ∧
  ∀ (H' : Hp) (p : Addr), Same H H' → RowAt K H' p (rem (fun k => decide (k ∈ S)) es) → Q (.ref p) H'
theorem ok57 (D : Df K mg "_law_left" (top 57) ["_law_row", "_law_numbers_here"]) (T : Tx K mg) : Ca P w K mg base 1 "_law_left" (sp57 K) := by
  refine D.ca sc57 (fun vs H Q E h => ?_) (fun f cdv A outer s H vs Q E hr h => ?_)
  · obtain ⟨a, b, es, S, rfl, _⟩ := h
    rfl
  · obtain ⟨a, b, es, S, rfl, ⟨M, hA, hMe, hM⟩, hlen, hB, q⟩ := h
    have nd := sc57.nd
    have hMl : M.length = es.length := by rw [← hMe, List.length_map]
    have hml : (M.map fun q => V.ref q.1).length = es.length := by rw [List.length_map, hMl]
    refine ⟨_, pss_one (ps_ret (ptup (K := K) T.tup (pe_lc (own := [("_law_k", 2)]) (g := gName 2) rfl nd (pi_range1 (by rfl) T.rng (pa_cons (plen (K := K) T.len (pv 0)) pa_nil)) (blkOk_by (N := N57) (sc := defScope (top 57)) (by decide +kernel))
        (fun _ _ _ _ _ => pg_name (i := 2) nd rfl (.inl rfl)) (fun _ _ _ _ _ => pts_one (pt_cmpR (r := rIn K true) op_notIn_seq (pv 2) (pv 1) (by rfl))) (fun _ _ _ _ _ => pit (K := K) (pv 0) (pv 2))))), ?_⟩
    refine ⟨_, rfl, a, _, rfl, .inr hA, _, rfl, by rw [hml]; omega, by rw [hml]; omega, fun D1 n1 => ?_⟩
    rw [hml, Int.toNat_natCast]
    refine lc_range (lo := 0) (n := es.length) (fun i H' => ∃ L : List (Addr × LH.E), Same H H' ∧ H' D1 = some (.lst (L.map fun q => V.ref q.1)) ∧ L.map (·.2) = rem (fun k => decide (k ∈ S)) (es.take i) ∧ (∀ q ∈ L, SqT K H' q.1 [.int (q.2.1 : Nat), .int (q.2.2 : Nat)]))
      ⟨[], same_new n1, upd_same, rfl, fun q hq => absurd hq (by simp)⟩ ?_ ?_
    · rintro i H2 hi ⟨L, s2, g1, g2, g3⟩
      rw [Int.zero_add]
      have hei : es[i]? = some es[i] := List.getElem?_eq_getElem hi
      have etk : es.take (i + 1) = es.take i ++ [es[i]] := by rw [List.take_add_one, hei]; rfl
      have hmi : M[i]? = some M[i] := List.getElem?_eq_getElem (by omega)
      have he2 : M[i].2 = es[i] := by
        have : (M.map (·.2))[i]? = some es[i] := by rw [hMe]; exact hei
        rw [List.getElem?_map, hmi] at this
        exact Option.some.inj this
      have hLl : L.length ≤ 100 := by
        have := congrArg List.length g2
        rw [List.length_map] at this
        have h3 := rem_len (es.take i) fun k => decide (k ∈ S)
        rw [List.length_take] at h3
        omega
      have er : rem (fun k => decide (k ∈ S)) (es.take (i + 1)) = rem (fun k => decide (k ∈ S)) (es.take i) ++ (if decide (i ∈ S) = true then [] else [es[i]]) := by
        rw [etk, rem_snoc, List.length_take, Nat.min_eq_left (by omega)]
      refine ⟨rfl, ?_⟩
      refine ⟨_, rfl, _, rfl, b, _, rfl, .inl (s2.seq hB), rfl, iv_flat _, _, rfl, ?_⟩
      show if (!inV (.int (i : Nat)) (iv S)) = true then _ else _
      rw [inV_iv, er]
      by_cases hS : i ∈ S
      · rw [decide_eq_true hS]
        refine iteF ⟨L, s2, g1, ?_, g3⟩
        rw [if_pos rfl, List.append_nil]
        exact g2
      · rw [decide_eq_false hS]
        refine iteT ⟨_, rfl, _, rfl, a, _, _, _, rfl, rfl, same_tup s2 hA, atI_nat (by rw [List.getElem?_map, hmi]; rfl), _, g1, by rw [List.length_map]; exact sz (by omega), L ++ [M[i]], same_own s2 n1, by rw [upd_same, List.map_append]; rfl, ?_, fun q' hq => sqt_lst g1 ?_⟩
        · rw [if_neg (by decide), List.map_append, g2, ← he2]
          rfl
        · rcases List.mem_append.mp hq with hq | hq
          · exact g3 q' hq
          · have eq : q' = M[i] := by simpa using hq
            rw [eq]
            exact same_tup s2 (hM _ (List.getElem_mem _))
    · rintro H2 ⟨L, s2, g1, g2, g3⟩
      rw [List.take_length] at g2
      refine .inl ⟨D1, _, rfl, SqL.of g1, fun t nt => ?_⟩
      have st := same_new (o := .tup (L.map fun q => V.ref q.1)) nt
      exact q _ t (s2.trans st) ⟨L, SqT.of upd_same, g2, fun q' hq => same_tup st (g3 q' hq)⟩
/-! ### _law_counted -/
theorem sc59 : FnScope ["_law_many_here", "_law_row", "_law_pile", "_law_real", "_law_lots"] ["_law_many_here", "_law_row"] (defScope (top 59)) := ⟨rfl, rfl, rfl, by decide +kernel, rfl, by decide +kernel, by decide +kernel⟩
def sp59 (K : PySem.W.Frag) : Sp := fun vs H Q _ => ∃ (a : Addr) (n : Nat) (es : List E), vs = [.int (n : Nat), .ref a] ∧ RowAt K H a es ∧ Val n es ∧ es.length ≤ 99 ∧ 1 ≤ n ∧ n ≤ 40 ∧ ∀ H' : Hp, Same H H' → Q (.bl true) H'
theorem ok59 (D : Df K mg "_law_counted" (top 59) ["_law_many_here", "_law_row"]) (T : Tx K mg) (c56 : Ca P w K mg base 6 "_law_piled" (sp56 K C)) (cL : Me P w K mg base 5 C "lots" (spLo K C)) (c55 : Ca P w K mg base 1 "_law_lots_by" (sp55 K)) : Ca P w K mg base 7 "_law_counted" (sp59 K) := by
  refine D.ca sc59 (fun vs H Q E h => ?_) (fun f cdv A outer s H vs Q E hr h => ?_)
  · obtain ⟨a, n, es, rfl, _⟩ := h
    rfl
  · obtain ⟨a, n, es, rfl, hA, hv, hlen, h1, h2, q⟩ := h
    have nd := sc59.nd
    refine ⟨_, pss_cons (ps_asg (pc c56 hr (pa_cons (pv 0) (pa_cons (pv 1) pa_nil))) (pg_tup rfl (pgs_cons (pg_name (i := 2) nd rfl (.inl rfl)) (pgs_cons (pg_name (i := 3) nd rfl (.inl rfl)) pgs_nil))))
      (pss_cons (ps_set (i := 4) nd rfl (.inl rfl) (pmt0 cL hr (pv 2)))
      (pss_one (ps_ret (pe_and (pe_cmpR (op_eqD hr.units) (pv 4) (pc c55 hr (pa_cons (pv 0) (pa_cons (pv 1) pa_nil))) (nomark _)) (pe_one (pe_cmpR op_eq (pe_op op_add (pv 3) (plen (K := K) T.len (pv 4))) (pv 0) (nomark _))))))), ?_⟩
    refine ⟨_, rfl, _, rfl, a, n, es, rfl, hA, hv, hlen, h1, h2, fun H1 p b s1 hp hb => ?_⟩
    refine ⟨p, _, rfl, hp, rfl, _, _, rfl, _, _, rfl, rfl, ?_⟩
    obtain ⟨l, m, px⟩ := id hb
    obtain ⟨dx, hp2⟩ := px.ins
    refine ⟨_, rfl, b, dx, _, rfl, hp2, pf_no _ _ (by decide +kernel) (by decide +kernel), b, n, es, rfl, hb, hv, by omega, h1, h2, fun H2 la ls s2 hla ll => ?_⟩
    have s12 := s1.trans s2
    refine ⟨_, rfl, _, rfl, _, rfl, a, n, es, rfl, hA.same s12, hv, by omega, h1, h2, fun H3 lb ls' s3 hlb ll' => ?_⟩
    have els : ls = ls' := ll.uniq ll' fun _ _ _ _ => Iff.rfl
    subst els
    have hla3 := hla.same s3
    refine ⟨_, _, dp_lots hla3, dp_lots hlb, lots_shapedL _, lots_shapedL _, _, rfl, ?_⟩
    rw [eqv_sh (lots_shapedL _)]
    obtain ⟨L, g1, g2, g3⟩ := hla3
    refine iteT ⟨_, rfl, _, rfl, la, _, rfl, .inl g1, _, _, rfl, rfl, _, rfl, rfl, ?_⟩
    have hc := count_lots es hv (lots_one n) ls ll.is
    have hl : (L.map fun q => V.ref q.1).length = ls.length := by rw [List.length_map, ← g2, List.length_map]
    have e : decide (V.int (((real id es : Nat) : Int) + (((L.map fun q => V.ref q.1).length : Nat) : Int)) = V.int (n : Nat)) = true := by
      refine decide_eq_true ?_
      rw [hl]
      congr 1
      rw [List.length_map, List.length_range] at hc
      omega
    show Q (.bl (decide (V.int (((real id es : Nat) : Int) + (((L.map fun q => V.ref q.1).length : Nat) : Int)) = V.int (n : Nat)))) H3
    rw [e]
    exact q _ (s12.trans s3)
end
end LH
/-! LhY -/
set_option Elab.async false
set_option linter.all false
set_option maxRecDepth 100000
set_option maxHeartbeats 2000000
namespace LH
open PySem PySem.Spec PyProof.Rows L2 LamX
theorem dp_intsL {K : PySem.W.Frag} {H : Hp} {a : Addr} {S : List Nat} (h : SqL K H a (iv S)) : Dp K H (.ref a) (.list (S.map fun n : Nat => .int (n : Int))) := .lst h (dp_ints S)
theorem ints_shapedL (S : List Nat) : SeqAt.shaped (.list (S.map fun n : Nat => PyData.int (n : Int))) = true := shaped_of (by simp only [PyData.canLay0]; exact ints_lay S) (by simp only [PyData.depth, ints_dep S]; decide)
theorem intsL_eqv (l m : List Nat) : PyData.eqv (.list (l.map fun n : Nat => .int (n : Int))) (.list (m.map fun n : Nat => .int (n : Int))) = decide (l = m) := by
  simp only [PyData.eqv]
  exact ints_eqv l m
theorem extN_seq {K : PySem.W.Frag} {H H' : Hp} {a : Addr} {xs : List V} (e : ExtN H H') (h : SqL K H a xs) : SqL K H' a xs := by
  rcases h with (h | ⟨o, h⟩) | h
  · exact .inl (.inl (e _ _ h (fun _ z => by cases z)))
  · exact .inl (.inr ⟨o, e _ _ h (fun _ z => by cases z)⟩)
  · exact .inr h
theorem row_lst {K : PySem.W.Frag} {H : Hp} {a b : Addr} {es : List E} {ys : List V} {o : HO} (h : H b = some (.lst ys)) (r : RowAt K H a es) : RowAt K (upd H b o) a es := by
  obtain ⟨L, h1, h2, h3⟩ := r
  exact ⟨L, sqt_lst h h1, h2, fun q hq => sqt_lst h (h3 q hq)⟩
/-- what was there ahead, tables left out, stands: a list that was not there may be written -/
theorem extN_own' {H H1 : Hp} {p : Addr} {ys : List V} {o : HO} (s : ExtN H H1) (h : H1 p = some (.lst ys)) (n : ∀ x, H p = some x → ∃ ps, x = .tbl ps) : ExtN H (upd H1 p o) := fun b x e ne => by
  have hb : b ≠ p := fun z => by
    rw [z] at e
    obtain ⟨ps, hx⟩ := n _ e
    exact ne ps hx
  rw [upd_ne hb]
  exact s _ _ e ne
section
variable {P : Program} {w : World} {K : PySem.W.Frag} {mg : Str → Option Value} {base : Heap} {C : Addr}
abbrev N58 : List Str := ["_law_many_here", "_law_row", "_law_numbers_here", "_law_left_here", "_law_here", "_law_ups", "_law_number", "_law_one"]
theorem sc58 : FnScope N58 ["_law_many_here", "_law_row", "_law_numbers_here"] (defScope (top 58)) := ⟨rfl, rfl, rfl, by decide +kernel, rfl, by decide +kernel, by decide +kernel⟩
def sp58 (K : PySem.W.Frag) (T : List (Addr × Str)) : Sp := fun vs H Q _ => ∃ (a b : Addr) (n : Nat) (es : List E) (S : List Nat), vs = [.int (n : Nat), .ref a, .ref b] ∧ RowAt K H a es ∧ Val n es ∧ es.length ≤ 99 ∧ 1 ≤ n ∧ n ≤ 40 ∧ SqL K H b (iv S) ∧ S.Nodup ∧ (∀ o ∈ S, o < es.length) ∧ S ≠ [] ∧ S.length ≤ 100 ∧ Tabs T H ∧
  ∀ (H' : Hp) (p u r : Addr), ExtN H H' → Tabs T H' → SqT K H' p [.ref u, .ref r] → SqT K H' u (iv (sto n (rem (fun k => decide (k ∈ S)) es)).1) → RowAt K H' r (rem (fun k => decide (k ∈ S)) es) → Q (.ref p) H'
theorem ok58 {T : List (Addr × Str)} (D : Df K mg "_law_struck" (top 58) ["_law_many_here", "_law_row", "_law_numbers_here"]) (Tt : Tx K mg) (c47 : Ca P w K mg base 8 "without" (sp47 K T)) : Ca P w K mg base 9 "_law_struck" (sp58 K T) := by
  refine D.ca sc58 (fun vs H Q E h => ?_) (fun f cdv A outer s H vs Q E hr h => ?_)
  · obtain ⟨a, b, n, es, S, rfl, _⟩ := h
    rfl
  · obtain ⟨a, b, n, es, S, rfl, hA, hv, hlen, h1, h2, hB, hS1, hS2, hS3, hS4, hT, q⟩ := h
    have nd := sc58.nd
    refine ⟨_, pss_cons (ps_set (i := 3) nd rfl (.inl rfl) (pe_callTy call_list_of (by rfl) Tt.lst (by decide +kernel) (pa_cons (pv 2) pa_nil)))
      (pss_cons (ps_par (i := 4) (j := 5) rfl nd rfl rfl (by decide) rfl rfl (pa_cons (pv 1) (pa_cons pe_non pa_nil)) (by rfl))
      (pss_cons (ps_while PassesOwn.never (pt_cmpR (op_neD hr.units) (pv 3) (pe_lst pa_nil) (nomark _))
        (pss_cons (ps_set (i := 6) nd rfl (.inr rfl) (pe_bm PySem.F.plainAttrs_list PySem.F.slot_list_pop PySem.F.type_list_pop mt_popAt (pv 3) (pa_cons pe_int pa_nil)))
        (pss_cons (ps_set (i := 5) nd rfl (.inl rfl) (pit (K := K) (pc c47 hr (pa_cons (pv 0) (pa_cons (pv 4) (pa_cons (pv 6) pa_nil)))) pe_int))
        (pss_cons (ps_set (i := 4) nd rfl (.inl rfl) (pe_op op_catA (psl (K := K) (pv 4) po_none (po_some (pv 6))) (psl (K := K) (pv 4) (po_some (pe_op op_add (pv 6) pe_int)) po_none)))
        (pss_one (ps_setLc (i := 3) (own := [("_law_one", 7)]) (g := gName 7) (tt := tYes) rfl nd rfl rfl (sw_true rfl rfl rfl (by decide +kernel)) (pi_list (pv 3)) (blkOk_by (N := N58) (sc := defScope (top 58)) (by decide +kernel))
          (fun _ _ _ _ _ => pg_name (i := 7) nd rfl (.inl rfl)) (fun _ _ _ _ _ => pts_nil) (fun _ _ _ _ _ => pe_op op_sub (pv 7) (pe_callTy call_int1 (by rfl) Tt.int (by decide +kernel) (pa_cons (pe_cmpR op_gt (pv 7) (pv 6) (nomark _)) pa_nil)))))))))
      (pss_one (ps_ret (pe_tup (pa_cons (pv 5) (pa_cons (pv 4) pa_nil))))))), ?_⟩
    refine ⟨_, rfl, b, _, rfl, .inl hB, fun la nla => ?_⟩
    have s1 : Same H (upd H la (.lst (iv S))) := same_new nla
    refine ⟨_, rfl, _, _, rfl, ?_⟩
    -- the invariant
    refine ⟨fun m σ H' => ∃ (S' : List Nat) (es' : List LH.E) (ha lb : Addr) (y5 : V) (y6 : Option V), σ = [some (.int (n : Nat)), some (.ref a), some (.ref b), some (.ref lb), some (.ref ha), some y5, y6, none] ∧ ExtN H H' ∧ Tabs T H' ∧ H' lb = some (.lst (iv S')) ∧ (∀ x, H lb = some x → ∃ ps, x = .tbl ps) ∧ S'.Nodup ∧ (∀ o ∈ S', o < es'.length) ∧
        RowAt K H' ha es' ∧ Val n es' ∧ es'.length ≤ 99 ∧ rem (fun k => decide (k ∈ S')) es' = rem (fun k => decide (k ∈ S)) es ∧ S'.length = m ∧ S'.length ≤ 100 ∧ (S' = [] → ∃ u, y5 = .ref u ∧ SqT K H' u (iv (sto n es').1)),
      ⟨S.length, S, es, a, la, .non, none, rfl, ExtN.of s1, hT.ext s1, upd_same, (fun x hx => by rw [nla] at hx; cases hx), hS1, hS2, hA.same s1, hv, hlen, rfl, rfl, hS4, fun z => absurd z hS3⟩, fun m σ H1 hW => ?_⟩
    obtain ⟨S', es', ha, lb, y5, y6, rfl, e1, T1, hlb, nlb, n1, n2, hR, hv', hl', hrem, hm, hm100, hend⟩ := hW
    refine ⟨_, rfl, Nat.zero_le _, fun t nt => ?_⟩
    have st : Same H1 (upd H1 t (.lst [])) := same_new nt
    refine ⟨_, _, dp_intsL (SqL.of (st _ _ hlb)), dp_intsL (S := []) (SqL.of upd_same), ints_shapedL _, ints_shapedL _, _, rfl, ?_⟩
    rw [intsL_eqv]
    cases S' with
    | nil =>
      rw [decide_eq_true rfl]
      obtain ⟨u, rfl, hu⟩ := hend rfl
      refine iteF ⟨_, rfl, _, rfl, sz' (by show 2 ≤ 100000; decide), fun p np => ?_⟩
      have s3 := st.trans (same_new (o := .tup [.ref u, .ref ha]) np)
      have er : es' = rem (fun k => decide (k ∈ S)) es := by rw [← hrem]; exact (rem_none es' fun k _ => by simp).symm
      refine q _ p u ha (e1.trans (ExtN.of s3)) (T1.ext s3) (SqT.of upd_same) ?_ ?_
      · rw [← er]
        exact same_tup s3 hu
      · rw [← er]
        exact hR.same s3
    | cons o S2 =>
      rw [decide_eq_false (by simp)]
      refine iteT ?_
      have hlb2 := st _ _ hlb
      have ho := n2 o (by simp)
      have hnm : o ∉ S2 := (List.nodup_cons.mp n1).1
      refine ⟨fun σ' H' => ∃ (es2 : List LH.E) (ha2 lb2 : Addr) (y5 : V) (y6 : Option V), σ' = [some (.int (n : Nat)), some (.ref a), some (.ref b), some (.ref lb2), some (.ref ha2), some y5, y6, none] ∧ ExtN H H' ∧ Tabs T H' ∧ H' lb2 = some (.lst (iv (S2.map (shift o)))) ∧ (∀ x, H lb2 = some x → ∃ ps, x = .tbl ps) ∧ es2 = es'.eraseIdx o ∧
          RowAt K H' ha2 es2 ∧ ∃ u, y5 = .ref u ∧ SqT K H' u (iv (sto n es2).1), ?_, ?_⟩
      · rintro σ' H' ⟨es2, ha2, lb2, z5, z6, rfl, f1, f2, f3, f4, rfl, f5, u, rfl, f6⟩
        have hle : (es'.eraseIdx o).length = es'.length - 1 := by rw [List.length_eraseIdx, if_pos ho]
        refine ⟨m - 1, by rw [← hm]; simp, S2.map (shift o), es'.eraseIdx o, ha2, lb2, .ref u, z6, rfl, f1, f2, f3, f4, shift_nodup n1, fun x hx => ?_, f5, fun e' me => hv' e' (List.mem_of_mem_eraseIdx me), by omega, ?_, by rw [List.length_map, ← hm]; simp, by rw [List.length_map]; simp only [List.length_cons] at hm100; omega, fun _ => ⟨u, rfl, f6⟩⟩
        · rw [hle]
          exact shift_lt ho n2 hnm x hx
        · rw [rem_shift es' o S2 ho hnm]
          exact hrem
      · -- number = left.pop(0)
        refine ⟨_, rfl, .inl ⟨rfl, _, SqL.of hlb2⟩, lb, _, 0, 0, .int (o : Nat), rfl, rfl, hlb2, by decide, by decide, ?_, rfl, ?_⟩
        · show seqIndex? 0 (iv (o :: S2)).length = some 0
          exact (ixN_seq (ixN_nat (j := 0) (by rw [iv_len]; simp))).1
        have epop : (iv (o :: S2)).eraseIdx 0 = iv S2 := rfl
        rw [epop]
        have e3 : ExtN H (upd (upd H1 t (.lst [])) lb (.lst (iv S2))) := extN_own' (e1.trans (ExtN.of st)) hlb2 nlb
        have T3 : Tabs T (upd (upd H1 t (.lst [])) lb (.lst (iv S2))) := tabs_upd (T1.ext st) hlb2
        have hR3 : RowAt K (upd (upd H1 t (.lst [])) lb (.lst (iv S2))) ha es' := row_lst hlb2 (hR.same st)
        have hlb3 : (upd (upd H1 t (.lst [])) lb (.lst (iv S2))) lb = some (.lst (iv S2)) := upd_same
        generalize upd (upd H1 t (.lst [])) lb (.lst (iv S2)) = H3 at e3 T3 hR3 hlb3
        -- without
        refine ⟨_, rfl, _, rfl, _, rfl, ha, n, o, es', rfl, hR3, hv', by omega, h1, h2, ho, T3, fun H4 p4 u4 l4 ks e4 T4 hp4 hu4 hl4 _ => ?_⟩
        refine ⟨p4, _, 0, _, rfl, rfl, hp4, atI_nat (j := 0) rfl, ?_⟩
        -- here
        obtain ⟨L, hL1, hLe, hL⟩ := hR3.ext e4
        have hLl : L.length = es'.length := by rw [← hLe, List.length_map]
        have hml : (L.map fun q => V.ref q.1).length = es'.length := by rw [List.length_map, hLl]
        refine ⟨_, rfl, _, rfl, o, rfl, ?_⟩
        refine sl_uni hL1 fun H5 l1 s5 hl1 => ?_
        refine ⟨_, rfl, _, rfl, _, _, rfl, rfl, (o : Nat) + 1, rfl, ?_⟩
        unfold tNoPart
        refine sl_uni (same_tup s5 hL1) fun H6 l2 s6 hl2 => ?_
        have em : ((o : Nat) : Int) + 1 = ((o + 1 : Nat) : Int) := by omega
        rw [cut_to (by rw [hml]; omega)] at hl1
        rw [em, cut_from (by rw [hml]; omega)] at hl2
        refine cat_uni (same_tup s6 hl1) hl2 (by rw [List.length_take, List.length_drop, hml]; omega) fun H7 l3 s7 hl3 => ?_
        have s57 := (s5.trans s6).trans s7
        have hR7 : RowAt K H7 l3 (es'.eraseIdx o) := by
          refine ⟨L.eraseIdx o, ?_, ?_, fun q' hq => same_tup s57 (hL q' (List.mem_of_mem_eraseIdx hq))⟩
          · rw [List.eraseIdx_eq_take_drop_succ, List.map_append, List.map_take, List.map_drop]
            exact hl3
          · rw [List.eraseIdx_eq_take_drop_succ, List.map_append, List.map_take, List.map_drop, hLe, ← List.eraseIdx_eq_take_drop_succ]
        have e7 : ExtN H3 H7 := e4.trans (ExtN.of s57)
        have hlb7 : H7 lb = some (.lst (iv S2)) := e7 _ _ hlb3 (fun _ z => by cases z)
        have T7 := T4.ext s57
        -- left
        refine ⟨_, rfl, lb, rfl, ⟨_, SqL.of hlb7⟩, fun D1 nD => ?_⟩
        have hS2l : S2.length ≤ 100 := by simp only [List.length_cons] at hm100; omega
        refine lc_list (K := K) (a := lb) (xs := iv S2) (fun i H' => Same H7 H' ∧ H' D1 = some (.lst (iv ((S2.take i).map (shift o))))) ⟨same_new nD, upd_same⟩ (fun i H' _ z => SqL.of (z.1 _ _ hlb7)) ?_ ?_
        · rintro i y H8 hi ⟨s8, g8⟩
          obtain ⟨x, hx, rfl⟩ := iv_of hi
          refine ⟨rfl, yes ?_⟩
          refine ⟨_, rfl, _, rfl, _, rfl, _, _, rfl, rfl, .inr ⟨_, rfl, _, _, rfl, rfl, ?_⟩⟩
          refine ⟨_, g8, by rw [iv_len, List.length_map, List.length_take]; exact sz (by omega), same_own s8 nD, ?_⟩
          have ev : ((x : Nat) : Int) - (if decide (((o : Nat) : Int) < ((x : Nat) : Int)) = true then 1 else 0) = ((shift o x : Nat) : Int) := by
            unfold shift
            by_cases hx' : x > o
            · rw [if_pos hx', decide_eq_true (by omega), if_pos rfl]
              omega
            · rw [if_neg hx', decide_eq_false (by omega), if_neg (by decide)]
              omega
          rw [upd_same, List.take_add_one, hx, List.map_append, iv_app]
          show some (HO.lst (_ ++ [V.int (((x : Nat) : Int) - (if decide (((o : Nat) : Int) < ((x : Nat) : Int)) = true then 1 else 0))])) = _
          rw [ev]
          rfl
        · rintro H8 ⟨s8, g8⟩
          rw [iv_len, List.take_length] at g8
          have e8 := (e3.trans e7).trans (ExtN.of s8)
          refine ⟨_, l3, D1, _, _, rfl, e8, T7.ext s8, g8, fun x hx => ?_, rfl, hR7.same s8, u4, rfl, same_tup (s57.trans s8) hu4⟩
          cases x with
          | tbl ps => exact ⟨ps, rfl⟩
          | _ =>
            have := (e3.trans e7) _ _ hx (fun _ z => by cases z)
            rw [nD] at this
            cases this
end
end LH
/-! LhZ -/
set_option Elab.async false
set_option linter.all false
set_option maxRecDepth 100000
set_option maxHeartbeats 2000000
namespace LH
open PySem PySem.Spec PyProof.Rows L2 LamX
section
variable {P : Program} {w : World} {K : PySem.W.Frag} {mg : Str → Option Value} {base : Heap} {C : Addr}
abbrev N60 : List Str := ["_law_row", "_law_xs", "_law_keys", "_law_k", "_law_key"]
theorem sc60 : FnScope N60 ["_law_row", "_law_xs"] (defScope (top 60)) := ⟨rfl, rfl, rfl, by decide +kernel, rfl, by decide +kernel, by decide +kernel⟩
def sp60 (K : PySem.W.Frag) : Sp := fun vs H Q _ => ∃ (a b : Addr) (n : Nat) (es : List E) (xs : List Int), vs = [.ref a, .ref b] ∧ RowAt K H a es ∧ Val n es ∧ es.length ≤ 99 ∧ SqL K H b (xs.map V.int) ∧ 1 ≤ xs.length ∧ xs.length ≤ 100 ∧
  ∀ (H' : Hp) (p : Addr) (es' : List E), Same H H' → RowAt K H' p es' → Val n es' → Alike es es' → Q (.ref p) H'
theorem ok60 (D : Df K mg "_law_order" (top 60) ["_law_row", "_law_xs"]) (T : Tx K mg) : Ca P w K mg base 1 "_law_order" (sp60 K) := by
  refine D.ca sc60 (fun vs H Q E h => ?_) (fun f cdv A outer s H vs Q E hr h => ?_)
  · obtain ⟨a, b, n, es, xs, rfl, _⟩ := h
    rfl
  · obtain ⟨a, b, n, es, xs, rfl, hA0, hv, hlen, hB, hx1, hx2, q⟩ := h
    have nd := sc60.nd
    obtain ⟨M, hA, hMe, hM⟩ := id hA0
    have hMl : M.length = es.length := by rw [← hMe, List.length_map]
    have hml : (M.map fun q => V.ref q.1).length = es.length := by rw [List.length_map, hMl]
    refine ⟨_, pss_cons (ps_set (i := 2) nd rfl (.inl rfl) (pe_callB cr_sortedP (by rfl) T.srt (by decide +kernel) (pa_cons (pe_lc (own := [("_law_k", 3)]) (g := gName 3) (tt := tYes) rfl nd (pi_range1 (by rfl) T.rng (pa_cons (plen (K := K) T.len (pv 0)) pa_nil)) (blkOk_by (N := N60) (sc := defScope (top 60)) (by decide +kernel))
        (fun _ _ _ _ _ => pg_name (i := 3) nd rfl (.inl rfl)) (fun _ _ _ _ _ => pts_nil) (fun _ _ _ _ _ => pe_tup (pa_cons (pe_op op_mod (pe_op op_fdiv (pil (K := K) (pv 1) (pe_op op_mod (pv 3) (plen (K := K) T.len (pv 1)))) (pe_op op_add pe_int (pv 3))) pe_int) (pa_cons (pv 3) pa_nil)))) pa_nil)))
      (pss_one (ps_ret (ptup (K := K) T.tup (pe_lc (own := [("_law_key", 4), ("_law_k", 3)]) (g := gTup K 2 (gCons (gName 4) (gCons (gName 3) gNil))) (tt := tYes) rfl nd (pi_list (pv 2)) (blkOk_by (N := N60) (sc := defScope (top 60)) (by decide +kernel))
        (fun _ _ _ _ _ => pg_tup rfl (pgs_cons (pg_name (i := 4) nd rfl (.inl rfl)) (pgs_cons (pg_name (i := 3) nd rfl (.inl rfl)) pgs_nil))) (fun _ _ _ _ _ => pts_nil)
        (fun _ _ _ _ _ => pstep (K := K) (pit (K := K) (pv 0) (pv 3)) (pil (K := K) (pe_lst (pa_cons pe_int (pa_cons (pe_un un_neg pe_int) pa_nil))) (pe_op op_mod (pv 4) pe_int))))))), ?_⟩
    refine ⟨_, rfl, a, _, rfl, .inr hA, _, rfl, by rw [hml]; omega, by rw [hml]; omega, fun D1 n1 => ?_⟩
    rw [hml, Int.toNat_natCast]
    have hbl : (xs.map V.int).length = xs.length := List.length_map _
    refine lc_range (lo := 0) (n := es.length) (fun i H' => ∃ L : List (Addr × (Int × Nat)), Same H H' ∧ H' D1 = some (.lst (L.map fun q => V.ref q.1)) ∧ L.map (·.2.2) = List.range i ∧ ∀ q ∈ L, H' q.1 = some (.tup [.int q.2.1, .int (q.2.2 : Nat)])) ⟨[], same_new n1, upd_same, rfl, fun q hq => absurd hq (by simp)⟩ ?_ ?_
    · rintro i H2 hi ⟨L, s2, g1, g2, g3⟩
      rw [Int.zero_add]
      have hLl : L.length = i := by
        have := congrArg List.length g2
        rwa [List.length_map, List.length_range] at this
      obtain ⟨j, hj, lj⟩ := emod_nat ((i : Nat) : Int) hx1
      obtain ⟨v, hv0⟩ := ints_at lj
      refine ⟨rfl, yes ?_⟩
      refine ⟨_, rfl, _, rfl, _, rfl, b, _, rfl, .inl (s2.seq hB), _, _, rfl, rfl, by rw [hbl]; omega, b, _, _, .int v, rfl, rfl, s2.seq hB, ?_, ?_⟩
      · rw [hbl, hj]
        exact hv0
      refine ⟨_, rfl, _, _, rfl, rfl, _, _, rfl, rfl, ⟨by show (0 : Int) < 1 + (i : Nat); omega, by show (1 : Int) + (i : Nat) < 1073741824; omega⟩, _, _, rfl, rfl, by show (0 : Int) < 997; decide, ?_⟩
      refine ⟨_, rfl, sz' (by show 2 ≤ 100000; decide), fun t nt => ?_⟩
      have st := same_new (o := .tup [.int (v / (1 + (i : Nat)) % 997), .int (i : Nat)]) nt
      have gD := st _ _ g1
      refine ⟨_, gD, by rw [List.length_map]; exact sz (by omega), L ++ [(t, (v / (1 + (i : Nat)) % 997, i))], same_own (s2.trans st) n1, by rw [upd_same, List.map_append]; rfl, by rw [List.map_append, g2, List.range_succ]; rfl, fun q' hq => ?_⟩
      have hk : ∀ c : Addr, ∀ ys : List V, (upd H2 t (.tup [.int (v / (1 + (i : Nat)) % 997), .int (i : Nat)])) c = some (.tup ys) → (upd (upd H2 t (.tup [.int (v / (1 + (i : Nat)) % 997), .int (i : Nat)])) D1 (.lst ((L.map fun q => V.ref q.1) ++ [.ref t]))) c = some (.tup ys) := fun c ys hc => by
        rw [upd_ne (ne_of hc gD (fun z => by cases z))]
        exact hc
      rcases List.mem_append.mp hq with hq | hq
      · exact hk _ _ (st _ _ (g3 q' hq))
      · have eq : q' = (t, (v / (1 + (i : Nat)) % 997, i)) := by simpa using hq
        rw [eq]
        exact hk _ _ upd_same
    · rintro H2 ⟨L, s2, g1, g2, g3⟩
      refine ⟨D1, _, rfl, SqL.of g1, fun x hx => ?_, fun ys d pm nd2 => ?_⟩
      · obtain ⟨q', hq, rfl⟩ := List.mem_map.mp hx
        exact ⟨q'.1, q'.2.1, (q'.2.2 : Nat), rfl, g3 q' hq⟩
      obtain ⟨L', pm', rfl⟩ := perm_lift (f := fun q : Addr × (Int × Nat) => V.ref q.1) pm rfl
      have s3 := same_new (o := .lst (L'.map fun q => V.ref q.1)) nd2
      have k3 : ∀ q' ∈ L', (upd H2 d (.lst (L'.map fun q => V.ref q.1))) q'.1 = some (.tup [.int q'.2.1, .int (q'.2.2 : Nat)]) := fun q' hq => s3 _ _ (g3 q' (pm'.mem_iff.mp hq))
      have hd : (upd H2 d (.lst (L'.map fun q => V.ref q.1))) d = some (.lst (L'.map fun q => V.ref q.1)) := upd_same
      have s23 := s2.trans s3
      generalize upd H2 d (.lst (L'.map fun q => V.ref q.1)) = H3 at s3 k3 hd s23
      have hL'l : L'.length = es.length := by
        have := congrArg List.length g2
        rw [List.length_map, List.length_range] at this
        rw [pm'.length_eq, this]
      have hkey : ∀ q' ∈ L', q'.2.2 < es.length := fun q' hq => by
        have : q'.2.2 ∈ L.map (·.2.2) := List.mem_map.mpr ⟨q', pm'.mem_iff.mp hq, rfl⟩
        rw [g2] at this
        exact List.mem_range.mp this
      refine ⟨_, rfl, d, rfl, ⟨_, SqL.of hd⟩, fun D2 n2 => ?_⟩
      refine lc_list (K := K) (a := d) (xs := L'.map fun q => V.ref q.1) (fun i H' => ∃ R : List (Addr × LH.E), Same H3 H' ∧ H' D2 = some (.lst (R.map fun q => V.ref q.1)) ∧ R.length = i ∧ (∀ q ∈ R, SqT K H' q.1 [.int (q.2.1 : Nat), .int (q.2.2 : Nat)]) ∧
          (∀ e ∈ R.map (·.2), e ∈ es ∨ (e.2, e.1) ∈ es) ∧ (∀ q ∈ L'.take i, ∀ e, es[q.2.2]? = some e → e ∈ R.map (·.2) ∨ (e.2, e.1) ∈ R.map (·.2)))
        ⟨[], same_new n2, upd_same, rfl, fun q hq => absurd hq (by simp), fun q hq => absurd hq (by simp), fun q hq => absurd hq (by simp)⟩ (fun i H' _ ⟨_, s4, _⟩ => SqL.of (s4 _ _ hd)) ?_ ?_
      · rintro i y H4 hi ⟨R, s4, r1, r2, r3, r4, r5⟩
        rw [List.getElem?_map] at hi
        cases eL : L'[i]? with
        | none => rw [eL] at hi; cases hi
        | some p =>
          rw [eL] at hi
          have ey : V.ref p.1 = y := Option.some.inj hi
          subst ey
          have hp := List.mem_of_getElem? eL
          have hk := hkey p hp
          have hii : i < L'.length := (List.getElem?_eq_some_iff.mp eL).1
          have hmi : M[p.2.2]? = some M[p.2.2] := List.getElem?_eq_getElem (by omega)
          have hme : es[p.2.2]? = some M[p.2.2].2 := by
            have : (M.map (·.2))[p.2.2]? = some M[p.2.2].2 := by rw [List.getElem?_map, hmi]; rfl
            rwa [hMe] at this
          have hmm : M[p.2.2] ∈ M := List.getElem_mem _
          have hes : M[p.2.2].2 ∈ es := List.mem_of_getElem? hme
          generalize M[p.2.2] = me at hmi hme hmm hes
          have s34 := s23.trans s4
          have etk : L'.take (i + 1) = L'.take i ++ [p] := by rw [List.take_add_one, eL]; rfl
          refine ⟨p.1, _, rfl, SqT.of (s4 _ _ (k3 p hp)), rfl, _, _, rfl, _, _, rfl, rfl, rfl, yes ?_⟩
          refine ⟨_, rfl, _, rfl, a, _, _, .ref me.1, rfl, rfl, same_tup s34 hA, atI_nat (by rw [List.getElem?_map, hmi]; rfl), ?_⟩
          refine ⟨1, rfl, sz' (by show 2 ≤ 100000; decide), fun t nt => ?_⟩
          have st := same_new (o := .lst [.int 1, .int (-1)]) nt
          have ht : (upd H4 t (.lst [.int 1, .int (-1)])) t = some (.lst [.int 1, .int (-1)]) := upd_same
          have rD := st _ _ r1
          have hme2 : SqT K (upd H4 t (.lst [.int 1, .int (-1)])) me.1 [.int (me.2.1 : Nat), .int (me.2.2 : Nat)] := same_tup (s34.trans st) (hM _ hmm)
          have s45 := s4.trans st
          have r3' : ∀ q ∈ R, SqT K (upd H4 t (.lst [.int 1, .int (-1)])) q.1 [.int (q.2.1 : Nat), .int (q.2.2 : Nat)] := fun q hq => same_tup st (r3 q hq)
          show tOp _ _ _ _ (upd H4 t (.lst [.int 1, .int (-1)])) _
          generalize upd H4 t (.lst [.int 1, .int (-1)]) = H5 at ht rD hme2 s45 r3'
          obtain ⟨x2, hx2', lx2⟩ := emod_nat p.2.1 (n := 2) (by decide)
          have fin : ∀ (t' : Addr) (e : LH.E) (H6 : Hp), Same H5 H6 → H6 D2 = some (.lst (R.map fun q => V.ref q.1)) → SqT K H6 t' [.int (e.1 : Nat), .int (e.2 : Nat)] → (e = me.2 ∨ e = (me.2.2, me.2.1)) →
              ∃ acc, H6 D2 = some (.lst acc) ∧ acc.length < sizeLine ∧ ∃ R' : List (Addr × LH.E), Same H3 (upd H6 D2 (.lst (acc ++ [.ref t']))) ∧ upd H6 D2 (.lst (acc ++ [.ref t'])) D2 = some (.lst (R'.map fun q => V.ref q.1)) ∧ R'.length = i + 1 ∧ (∀ q ∈ R', SqT K (upd H6 D2 (.lst (acc ++ [.ref t']))) q.1 [.int (q.2.1 : Nat), .int (q.2.2 : Nat)]) ∧
                (∀ e ∈ R'.map (·.2), e ∈ es ∨ (e.2, e.1) ∈ es) ∧ (∀ q ∈ L'.take (i + 1), ∀ e, es[q.2.2]? = some e → e ∈ R'.map (·.2) ∨ (e.2, e.1) ∈ R'.map (·.2)) := by
            intro t' e H6 s56 d6 ht' he
            refine ⟨_, d6, by rw [List.length_map, r2]; exact sz (by omega), R ++ [(t', e)], same_own (s45.trans s56) n2, by rw [upd_same, List.map_append]; rfl, by rw [List.length_append, r2]; rfl, fun q' hq => sqt_lst d6 ?_, fun e' he' => ?_, fun q' hq e' he' => ?_⟩
            · rcases List.mem_append.mp hq with hq | hq
              · exact same_tup s56 (r3' _ hq)
              · have eq : q' = (t', e) := by simpa using hq
                rw [eq]
                exact ht'
            · rw [List.map_append] at he'
              rcases List.mem_append.mp he' with he' | he'
              · exact r4 _ he'
              · have ee : e' = e := by simpa using he'
                rw [ee]
                rcases he with z | z
                · rw [z]; exact .inl hes
                · rw [z]; exact .inr hes
            · rw [List.map_append]
              rw [etk] at hq
              rcases List.mem_append.mp hq with hq | hq
              · rcases r5 _ hq _ he' with z | z
                · exact .inl (List.mem_append_left _ z)
                · exact .inr (List.mem_append_left _ z)
              · have eq : q' = p := by simpa using hq
                rw [eq, hme] at he'
                have ee := Option.some.inj he'
                rw [← ee]
                rcases he with z | z
                · rw [← z]; exact .inl (List.mem_append_right _ (by simp))
                · exact .inr (List.mem_append_right _ (by rw [z]; simp))
          refine ⟨_, rfl, _, _, rfl, rfl, by show (0 : Int) < 2; decide, ?_⟩
          have hx2'' : p.2.1 % (2 : Int) = (x2 : Nat) := hx2'
          show rIxL K (.ref t) (.int (p.2.1 % (2 : Int))) H5 _
          rw [hx2'']
          have h01 : x2 = 0 ∨ x2 = 1 := by omega
          rcases h01 with rfl | rfl
          · refine ⟨t, _, 0, .int 1, rfl, rfl, SqL.of ht, rfl, me.1, _, _, 1, rfl, rfl, hme2, .inl rfl, fun _ => ?_, fun z => absurd z (by decide)⟩
            exact fin _ me.2 _ (Same.refl _) rD hme2 (.inl rfl)
          · refine ⟨t, _, 1, .int (-1), rfl, rfl, SqL.of ht, rfl, me.1, _, _, -1, rfl, rfl, hme2, .inr rfl, fun z => absurd z (by decide), fun _ p' np => ?_⟩
            have st' := same_new (o := .tup [.int (me.2.2 : Nat), .int (me.2.1 : Nat)]) np
            exact fin _ (me.2.2, me.2.1) _ st' (st' _ _ rD) (SqT.of upd_same) (.inr rfl)
      · rintro H4 ⟨R, s4, r1, r2, r3, r4, r5⟩
        rw [List.length_map] at r2 r5
        rw [List.take_length] at r5
        refine .inl ⟨D2, _, rfl, SqL.of r1, fun t nt => ?_⟩
        have st := same_new (o := .tup (R.map fun q => V.ref q.1)) nt
        refine q _ t (R.map (·.2)) ((s23.trans s4).trans st) ⟨R, SqT.of upd_same, rfl, fun q' hq => same_tup st (r3 q' hq)⟩ (fun e he => ?_) ⟨by rw [List.length_map, r2, hL'l], fun e he => ?_, r4⟩
        · rcases r4 e he with z | z
          · exact hv e z
          · exact ⟨(hv _ z).2, (hv _ z).1⟩
        · obtain ⟨k, hk, ek⟩ := List.mem_iff_getElem.mp he
          have hkL : k ∈ L.map (·.2.2) := by rw [g2]; exact List.mem_range.mpr hk
          obtain ⟨p, hp, ep⟩ := List.mem_map.mp hkL
          exact r5 p (pm'.mem_iff.mpr hp) e (by rw [ep, List.getElem?_eq_getElem hk, ek])
end
end LH
/-! LhAA -/
set_option Elab.async false
set_option linter.all false
set_option maxRecDepth 100000
set_option maxHeartbeats 2000000
namespace LH
open PySem PySem.Spec PyProof.Rows L2 LamX
theorem ans_len : ∀ (es : List E) (h : Nat → Nat), (ans h es).length = es.length
  | [], _ => rfl
  | e :: es, h => by rw [ans_cons, List.length_cons, List.length_cons, ans_len es]
theorem ans_app : ∀ (a b : List E) (h : Nat → Nat), ans h (a ++ b) = ans h a ++ ans (qf h a) b
  | [], b, h => rfl
  | e :: a, b, h => by
    rw [List.cons_append, ans_cons, ans_cons, ans_app a b, List.cons_append]
    rfl
theorem real_app (a b : List E) (h : Nat → Nat) : real h (a ++ b) = real h a + real (qf h a) b := by
  unfold real
  rw [ans_app, List.count_append]
theorem Fin_.one (h : Nat → Nat) (e : E) : Fin_ h (LH.mrg h e) := fun x y q => mrg_mono q
/-- the lots of a row and of what is left of it -/
theorem more_ok {n : Nat} {es : List E} {p : Nat → Bool} {ls lr : List (List Nat)} (hv : Val n es) (i : IsLots n (qf id es) ls) (j : IsLots n (qf id (rem p es)) lr) : ls.length ≤ lr.length ∧ lr.length ≤ ls.length + gone p es := by
  have h1 := j.finer i fun x y _ _ q => sub_rel (rem_sub es p) q
  have h2 := count_lots es hv (lots_one n) ls i
  have h3 := count_lots (rem p es) (fun e me => hv e (rem_sub es p e me)) (lots_one n) lr j
  have h4 := gone_le es (h := id) (h' := id) p (fun _ _ q => q)
  omega
theorem later_ok {n m : Nat} {es : List E} {ls lr : List (List Nat)} (hv : Val n es) (hm : m < es.length) (i : IsLots n (qf id es) ls) (j : IsLots n (qf id (es.eraseIdx m)) lr)
    (hd : (ans id es).drop (m + 1) ≠ (ans id (es.eraseIdx m)).drop m) : lr.length ≤ ls.length := by
  have h2 := count_lots es hv (lots_one n) ls i
  have h3 := count_lots (es.eraseIdx m) (fun e me => hv e (List.mem_of_mem_eraseIdx me)) (lots_one n) lr j
  have e1 : es = es.take m ++ es[m] :: es.drop (m + 1) := by
    rw [List.getElem_cons_drop hm, List.take_append_drop]
  have e2 : es.eraseIdx m = es.take m ++ es.drop (m + 1) := List.eraseIdx_eq_take_drop_succ ..
  have hl : (ans id (es.take m)).length = m := by rw [ans_len, List.length_take]; omega
  generalize es.take m = a at e1 e2 hl
  generalize es.drop (m + 1) = b at e1 e2
  generalize es[m] = e at e1
  rw [e2] at hd h3
  rw [e1] at hd h2
  rw [ans_app, ans_app, ans_cons] at hd
  have d1 : (ans id a ++ (!decide (qf id a e.1 = qf id a e.2)) :: ans (mrg (qf id a) e) b).drop (m + 1) = ans (mrg (qf id a) e) b := by
    rw [← hl, ← List.drop_drop, List.drop_left]
    rfl
  have d2 : (ans id a ++ ans (qf id a) b).drop m = ans (qf id a) b := by
    rw [← hl, List.drop_left]
  rw [d1, d2] at hd
  have hs := (ans_fin b (Fin_.one (qf id a) e)).2 (fun z => hd z.symm)
  rw [real_app] at h2 h3
  rw [real_cons] at h2
  split at h2 <;> omega
end LH
/-! LhAB -/
set_option Elab.async false
set_option linter.all false
set_option maxRecDepth 100000
set_option maxHeartbeats 2000000
namespace LH
open PySem PySem.Spec PyProof.Rows L2 LamX
theorem dp_iv {K : PySem.W.Frag} {H : Hp} {a : Addr} {l : List Nat} (h : SqT K H a (iv l)) : Dp K H (.ref a) (lotD l) := dp_lot h
section
variable {P : Program} {w : World} {K : PySem.W.Frag} {mg : Str → Option Value} {base : Heap} {C : Addr}
theorem PileAt.ins {H : Hp} {p : Addr} {n : Nat} {es : List E} (h : PileAt K C H p n es) : ∃ dx ps, H p = some (.ins C dx ps) ∧ ps.lookup ("ups" : Str) = none ∧ ps.lookup ("lots" : Str) = none ∧ ps.lookup ("joins" : Str) = none := by
  obtain ⟨l, m, px⟩ := h
  obtain ⟨dx, hp⟩ := px.ins
  exact ⟨dx, _, hp, pf_no _ _ (by decide +kernel) (by decide +kernel), pf_no _ _ (by decide +kernel) (by decide +kernel), pf_no _ _ (by decide +kernel) (by decide +kernel)⟩
theorem PileAt.up {H : Hp} {p : Addr} {n : Nat} {es : List E} (h : PileAt K C H p n es) : ∃ u, SqT K H u (iv (sto n es).1) := by
  obtain ⟨l, m, ne, ⟨dx, hp⟩, ⟨ss, b, hl, ⟨u, v, g1, g2, g3⟩, hss⟩, _⟩ := h
  exact ⟨u, g2⟩
abbrev N61 : List Str := ["_law_many_here", "_law_row", "_law_numbers_here", "_law_rest", "_law_pile", "_law_real", "_law_some", "_law_ups", "_law_here", "_law_whole", "_law_more"]
theorem sc61 : FnScope N61 ["_law_many_here", "_law_row", "_law_numbers_here"] (defScope (top 61)) := ⟨rfl, rfl, rfl, by decide +kernel, rfl, by decide +kernel, by decide +kernel⟩
def sp61 (K : PySem.W.Frag) (T : List (Addr × Str)) : Sp := fun vs H Q _ => ∃ (a b : Addr) (n : Nat) (es : List E) (S : List Nat), vs = [.int (n : Nat), .ref a, .ref b] ∧ RowAt K H a es ∧ Val n es ∧ es.length ≤ 99 ∧ 1 ≤ n ∧ n ≤ 40 ∧ SqL K H b (iv S) ∧ S.Nodup ∧ (∀ o ∈ S, o < es.length) ∧ S ≠ [] ∧ S.length ≤ 100 ∧ Tabs T H ∧
  ∀ H' : Hp, ExtN H H' → Tabs T H' → Q (.bl true) H'
theorem ok61 {T : List (Addr × Str)} (D : Df K mg "_law_right" (top 61) ["_law_many_here", "_law_row", "_law_numbers_here"]) (Tt : Tx K mg) (c56 : Ca P w K mg base 6 "_law_piled" (sp56 K C)) (c57 : Ca P w K mg base 1 "_law_left" (sp57 K)) (c58 : Ca P w K mg base 9 "_law_struck" (sp58 K T))
    (cU : Me P w K mg base 1 C "ups" (spU K C)) (cL : Me P w K mg base 5 C "lots" (spLo K C)) (cJs : Me P w K mg base 1 C "joins" (spJs K C)) : Ca P w K mg base 10 "_law_right" (sp61 K T) := by
  refine D.ca sc61 (fun vs H Q E h => ?_) (fun f cdv A outer s H vs Q E hr h => ?_)
  · obtain ⟨a, b, n, es, S, rfl, _⟩ := h
    rfl
  · obtain ⟨a, b, n, es, S, rfl, hA, hv, hlen, h1, h2, hB, hS1, hS2, hS3, hS4, hT, q⟩ := h
    have nd := sc61.nd
    refine ⟨_, pss_cons (ps_set (i := 3) nd rfl (.inl rfl) (pc c57 hr (pa_cons (pv 1) (pa_cons (pv 2) pa_nil))))
      (pss_cons (ps_asg (pc c56 hr (pa_cons (pv 0) (pa_cons (pv 3) pa_nil))) (pg_tup rfl (pgs_cons (pg_name (i := 4) nd rfl (.inl rfl)) (pgs_cons (pg_name (i := 5) nd rfl (.inl rfl)) pgs_nil))))
      (pss_cons (ps_for PassesOwn.never rfl (pi_list (pe_lst (pa_cons (pv 2) (pa_cons (pe_revL (pv 2)) (pa_cons (pe_callB cr_sortedI (by rfl) Tt.srt (by decide +kernel) (pa_cons (pv 2) pa_nil)) pa_nil))))) (pg_name (i := 6) nd rfl (.inl rfl))
         (pss_cons (ps_asg (pc c58 hr (pa_cons (pv 0) (pa_cons (pv 1) (pa_cons (pv 6) pa_nil)))) (pg_tup rfl (pgs_cons (pg_name (i := 7) nd rfl (.inl rfl)) (pgs_cons (pg_name (i := 8) nd rfl (.inl rfl)) pgs_nil))))
         (pss_one (ps_if (PW.pt (pw_or (pt_cmpR (op_neD hr.units) (pv 8) (pv 3) (nomark _)) (pw_or1 (pt_cmpR (op_neD hr.units) (pv 7) (pmt0 cU hr (pv 4)) (nomark _))))) (pss_one ps_never) pss_nil))))
      (pss_cons (ps_set (i := 9) nd rfl (.inl rfl) (pit (K := K) (pc c56 hr (pa_cons (pv 0) (pa_cons (pv 1) pa_nil))) pe_int))
      (pss_cons (ps_set (i := 10) nd rfl (.inl rfl) (pe_op op_sub (plen (K := K) Tt.len (pmt0 cL hr (pv 4))) (plen (K := K) Tt.len (pmt0 cL hr (pv 9)))))
      (pss_one (ps_ret (pe_and (pe_chain op_le op_le pe_int (pv 10) (plen (K := K) Tt.len (pv 2))) (pe_and (pe_cmpR (op_eqD hr.units) (pmt0 cJs hr (pv 4)) (pv 3) (nomark _))
        (pe_one (pe_cmpR (op_eqD hr.units) (pmt0 cU hr (pv 4)) (pmt0 cU hr (pit (K := K) (pc c56 hr (pa_cons (pv 0) (pa_cons (pv 3) pa_nil))) pe_int)) (nomark _))))))))))), ?_⟩
    have hrl := rem_len es fun k => decide (k ∈ S)
    have hvr : Val n (rem (fun k => decide (k ∈ S)) es) := fun e me => hv e (rem_sub es _ e me)
    refine ⟨_, rfl, _, rfl, a, b, es, S, rfl, hA, by omega, hB, fun H1 ra s1 hra => ?_⟩
    refine ⟨_, rfl, _, rfl, ra, n, _, rfl, hra, hvr, by omega, h1, h2, fun H2 p2 pb s2 hp2 hpb => ?_⟩
    refine ⟨p2, _, rfl, hp2, rfl, _, _, rfl, _, _, rfl, rfl, ?_⟩
    have s12 := s1.trans s2
    have hB2 := s12.seq hB
    refine ⟨_, rfl, _, rfl, b, _, rfl, hB2, fun b2 nb2 => ?_⟩
    have t3 : Same H2 (upd H2 b2 (.lst (iv S).reverse)) := same_new nb2
    have hb2 : SqL K (upd H2 b2 (.lst (iv S).reverse)) b2 (iv S.reverse) := by
      have e : iv S.reverse = (iv S).reverse := List.map_reverse ..
      rw [e]
      exact SqL.of upd_same
    generalize upd H2 b2 (.lst (iv S).reverse) = H3 at t3 hb2
    refine ⟨_, rfl, b, zs S, rfl, by rw [← iv_zs]; exact t3.seq hB2, fun ns' b3 pm so nb3 => ?_⟩
    obtain ⟨ys, rfl, pm'⟩ := perm_zs pm
    have t4 := same_new (o := .lst ((zs ys).map V.int)) nb3
    have hb3 : SqL K (upd H3 b3 (.lst ((zs ys).map V.int))) b3 (iv ys) := by rw [iv_zs]; exact SqL.of upd_same
    generalize upd H3 b3 (.lst ((zs ys).map V.int)) = H4 at t4 hb3
    refine ⟨sz' (by show 3 ≤ 100000; decide), fun dl ndl => ?_⟩
    have t5 := same_new (o := .lst [.ref b, .ref b2, .ref b3]) ndl
    have hdl : (upd H4 dl (.lst [.ref b, .ref b2, .ref b3])) dl = some (.lst [.ref b, .ref b2, .ref b3]) := upd_same
    have hall : ∀ (i : Nat) (x : V), ([.ref b, .ref b2, .ref b3] : List V)[i]? = some x → ∃ (c : Addr) (S' : List Nat), x = .ref c ∧ SqL K (upd H4 dl (.lst [.ref b, .ref b2, .ref b3])) c (iv S') ∧ S'.Nodup ∧ (∀ k, k ∈ S' ↔ k ∈ S) ∧ S'.length = S.length := by
      intro i x hx
      match i, hx with
      | 0, hx => exact ⟨b, S, (Option.some.inj hx).symm, ((t3.trans t4).trans t5).seq hB2, hS1, fun _ => Iff.rfl, rfl⟩
      | 1, hx => exact ⟨b2, S.reverse, (Option.some.inj hx).symm, (t4.trans t5).seq hb2, (List.reverse_perm S).nodup_iff.mpr hS1, fun _ => List.mem_reverse, List.length_reverse⟩
      | 2, hx => exact ⟨b3, ys, (Option.some.inj hx).symm, t5.seq hb3, pm'.nodup_iff.mpr hS1, fun _ => pm'.mem_iff, pm'.length_eq⟩
      | _ + 3, hx => simp at hx
    have s15 := ((s12.trans t3).trans t4).trans t5
    have hra5 := hra.same (((s2.trans t3).trans t4).trans t5)
    have hpb5 := hpb.same ((t3.trans t4).trans t5)
    generalize upd H4 dl (.lst [.ref b, .ref b2, .ref b3]) = H5 at hdl hall s15 hra5 hpb5
    have hA5 := hA.same s15
    have T5 := hT.ext s15
    refine ⟨dl, rfl, ⟨_, SqL.of hdl⟩, ?_⟩
    refine for_list (K := K) (a := dl) (xs := [.ref b, .ref b2, .ref b3]) (fun i σ H' => ∃ y6 y7 y8 : Option V, σ = [some (.int (n : Nat)), some (.ref a), some (.ref b), some (.ref ra), some (.ref pb), some (.int (real id (rem (fun k => decide (k ∈ S)) es) : Nat)), y6, y7, y8, none, none] ∧ ExtN H5 H' ∧ Tabs T H')
      ⟨none, none, none, rfl, ExtN.of (Same.refl _), T5⟩ (fun i σ H' _ ⟨_, _, _, _, e, _⟩ => SqL.of (e _ _ hdl (fun _ z => by cases z))) ?_ ?_
    · rintro i x σ H6 hi ⟨y6, y7, y8, rfl, e6, T6⟩
      obtain ⟨c, S', rfl, hc, hc1, hc2, hc3⟩ := hall i x hi
      have er : rem (fun k => decide (k ∈ S')) es = rem (fun k => decide (k ∈ S)) es := rem_mem_congr es hc2
      refine ⟨_, rfl, _, rfl, _, rfl, a, c, n, es, S', rfl, hA5.ext e6, hv, hlen, h1, h2, extN_seq e6 hc, hc1, fun o ho => hS2 o ((hc2 o).mp ho), fun z => hS3 (List.length_eq_zero_iff.mp (by rw [← hc3, z]; rfl)), by omega, T6, fun H7 p7 u7 r7 e7 T7 hp7 hu7 hr7 => ?_⟩
      rw [er] at hu7 hr7
      have e57 := e6.trans e7
      refine ⟨p7, _, rfl, hp7, rfl, _, _, rfl, _, _, rfl, rfl, ?_⟩
      have hra7 := hra5.ext e57
      have hpb7 := hpb5.ext e57
      refine ⟨_, rfl, _, rfl, _, _, dp_row hr7, dp_row hra7, es_shapedT _, es_shapedT _, _, rfl, ?_⟩
      rw [eqv_sh (es_shapedT _)]
      refine iteF ?_
      obtain ⟨dx, ps, hpi, no1, _, _⟩ := hpb7.ins
      refine ⟨_, rfl, _, rfl, pb, dx, ps, rfl, hpi, no1, pb, n, _, rfl, hpb7, fun u8 hu8 => ?_⟩
      refine ⟨_, _, dp_lot hu7, dp_lot hu8, lot_shaped _, lot_shaped _, _, rfl, ?_⟩
      rw [eqv_sh (lot_shaped _)]
      exact iteF ⟨_, _, _, rfl, e57, T7⟩
    · rintro σ H6 ⟨y6, y7, y8, rfl, e6, T6⟩
      refine ⟨_, rfl, _, rfl, a, n, es, rfl, hA5.ext e6, hv, hlen, h1, h2, fun H7 p7 wb s7 hp7 hwb => ?_⟩
      refine ⟨p7, _, 0, _, rfl, rfl, hp7, atI_nat (j := 0) rfl, ?_⟩
      have e57 := e6.trans (ExtN.of s7)
      have hra7 := hra5.ext e57
      have hpb7 := hpb5.ext e57
      obtain ⟨dx, ps, hpi, no1, no2, no3⟩ := hpb7.ins
      refine ⟨_, rfl, pb, dx, ps, rfl, hpi, no2, pb, n, _, rfl, hpb7, hvr, by omega, h1, h2, fun H8 la lr s8 hla ll => ?_⟩
      obtain ⟨L1, f1, f2, f3⟩ := hla
      refine ⟨la, _, rfl, .inl f1, ?_⟩
      have hpw8 := hwb.same s8
      obtain ⟨dw, pw, hwi, _, no2w, _⟩ := hpw8.ins
      refine ⟨_, rfl, wb, dw, pw, rfl, hwi, no2w, wb, n, es, rfl, hpw8, hv, by omega, h1, h2, fun H9 lb ls s9 hlb lw => ?_⟩
      obtain ⟨L2', w1, w2, w3⟩ := hlb
      refine ⟨lb, _, rfl, .inl w1, _, _, rfl, rfl, ?_⟩
      have e1 : (L1.map fun q => V.ref q.1).length = lr.length := by rw [List.length_map, ← f2, List.length_map]
      have e2 : (L2'.map fun q => V.ref q.1).length = ls.length := by rw [List.length_map, ← w2, List.length_map]
      rw [e1, e2]
      obtain ⟨m1, m2⟩ := more_ok hv lw.is ll.is
      have m3 := gone_mem es S
      have e79 := (e57.trans (ExtN.of s8)).trans (ExtN.of s9)
      refine ⟨_, rfl, 0, _, rfl, rfl, _, rfl, ?_⟩
      rw [decide_eq_true (by omega : (0 : Int) ≤ ((lr.length : Nat) : Int) - ((ls.length : Nat) : Int))]
      have e09 := (ExtN.of s15).trans e79
      have hB9 := extN_seq e09 hB
      refine iteT ⟨_, rfl, b, _, rfl, .inl hB9, _, _, rfl, rfl, ?_⟩
      rw [iv_len]
      refine ⟨_, rfl, ?_⟩
      rw [decide_eq_true (by show (((lr.length : Nat) : Int) - ((ls.length : Nat) : Int)) ≤ ((S.length : Nat) : Int); omega)]
      refine iteT ?_
      have hpb9 := hpb5.ext e79
      have hra9 := hra5.ext e79
      obtain ⟨dx, ps, hpi, no1, no2, no3⟩ := hpb9.ins
      refine ⟨_, rfl, pb, dx, ps, rfl, hpi, no3, pb, n, _, rfl, hpb9, fun HA aj sA haj => ?_⟩
      have e0A := e79.trans (ExtN.of sA)
      refine ⟨_, rfl, _, _, dp_row haj, dp_row (hra5.ext e0A), es_shapedT _, es_shapedT _, _, rfl, ?_⟩
      rw [eqv_sh (es_shapedT _)]
      refine iteT ?_
      have hpbA := hpb5.ext e0A
      obtain ⟨dx, ps, hpi, no1, no2, no3⟩ := hpbA.ins
      refine ⟨_, rfl, pb, dx, ps, rfl, hpi, no1, pb, n, _, rfl, hpbA, fun uA huA => ?_⟩
      refine ⟨_, rfl, _, rfl, ra, n, _, rfl, hra5.ext e0A, hvr, by omega, h1, h2, fun HB pB vb sB hpB hvb => ?_⟩
      refine ⟨pB, _, 0, _, rfl, rfl, hpB, atI_nat (j := 0) rfl, ?_⟩
      obtain ⟨dx, ps, hpi, no1, no2, no3⟩ := hvb.ins
      refine ⟨vb, dx, ps, rfl, hpi, no1, vb, n, _, rfl, hvb, fun uB huB => ?_⟩
      refine ⟨_, _, dp_lot (same_tup sB huA), dp_lot huB, lot_shaped _, lot_shaped _, ?_⟩
      rw [eqv_sh (lot_shaped _)]
      have eB := (ExtN.of s15).trans (e0A.trans (ExtN.of sB))
      refine q _ eB ?_
      exact ((((T6.ext s7).ext s8).ext s9).ext sA).ext sB
end
end LH
/-! LhAC -/
set_option Elab.async false
set_option linter.all false
set_option maxRecDepth 100000
set_option maxHeartbeats 2000000
namespace LH
open PySem PySem.Spec PyProof.Rows L2 LamX
theorem zI_lay : ∀ l : List Int, PyData.canLayAll0 (l.map PyData.int) = true
  | [] => by simp [PyData.canLayAll0]
  | a :: l => by simp [PyData.canLayAll0, PyData.canLay0, zI_lay l]
theorem zI_dep : ∀ l : List Int, PyData.depthAll (l.map PyData.int) = 0
  | [] => by simp [PyData.depthAll]
  | a :: l => by simp [PyData.depthAll, PyData.depth, zI_dep l]
theorem zI_dp {K : PySem.W.Frag} {H : Hp} : ∀ l : List Int, DpAll K H (l.map V.int) (l.map PyData.int)
  | [] => .nil
  | a :: l => .cons (.int _) (zI_dp l)
theorem zI_shaped (l : List Int) : SeqAt.shaped (.tuple (l.map PyData.int)) = true := shaped_of (by simp only [PyData.canLay0]; exact zI_lay l) (by simp only [PyData.depth, zI_dep l]; decide)
theorem zI_eqv (l : List Int) : PyData.eqv (.tuple (l.map PyData.int)) (.tuple []) = decide (l = []) := by
  cases l with
  | nil => simp [PyData.eqv, PyData.eqvAll]
  | cons a l => simp [PyData.eqv, PyData.eqvAll]
section
variable {P : Program} {w : World} {K : PySem.W.Frag} {mg : Str → Option Value} {base : Heap} {C : Addr}
abbrev N62 : List Str := ["_law_many_here", "_law_row", "_law_number", "_law_lots", "_law_ups", "_law_later", "_law_pile", "_law_more"]
theorem sc62 : FnScope N62 ["_law_many_here", "_law_row", "_law_number", "_law_lots"] (defScope (top 62)) := ⟨rfl, rfl, rfl, by decide +kernel, rfl, by decide +kernel, by decide +kernel⟩
def sp62 (K : PySem.W.Frag) (T : List (Addr × Str)) : Sp := fun vs H Q _ => ∃ (a : Addr) (n m : Nat) (es : List E) (ls : List (List Nat)), vs = [.int (n : Nat), .ref a, .int (m : Nat), .int (ls.length : Nat)] ∧ RowAt K H a es ∧ Val n es ∧ es.length ≤ 99 ∧ 1 ≤ n ∧ n ≤ 40 ∧ m < es.length ∧ IsLots n (qf id es) ls ∧ Tabs T H ∧
  ∀ H' : Hp, ExtN H H' → Tabs T H' → Q (.bl true) H'
theorem ok62 {T : List (Addr × Str)} (D : Df K mg "_law_one_right" (top 62) ["_law_many_here", "_law_row", "_law_number", "_law_lots"]) (Tt : Tx K mg) (c47 : Ca P w K mg base 8 "without" (sp47 K T)) (c56 : Ca P w K mg base 6 "_law_piled" (sp56 K C)) (c57 : Ca P w K mg base 1 "_law_left" (sp57 K))
    (cU : Me P w K mg base 1 C "ups" (spU K C)) (cL : Me P w K mg base 5 C "lots" (spLo K C)) : Ca P w K mg base 9 "_law_one_right" (sp62 K T) := by
  refine D.ca sc62 (fun vs H Q E h => ?_) (fun f cdv A outer s H vs Q E hr h => ?_)
  · obtain ⟨a, n, m, es, ls, rfl, _⟩ := h
    rfl
  · obtain ⟨a, n, m, es, ls, rfl, hA, hv, hlen, h1, h2, hm, hls, hT, q⟩ := h
    have nd := sc62.nd
    refine ⟨_, pss_cons (ps_asg (pc c47 hr (pa_cons (pv 0) (pa_cons (pv 1) (pa_cons (pv 2) pa_nil)))) (pg_tup rfl (pgs_cons (pg_name (i := 4) nd rfl (.inl rfl)) (pgs_cons (pg_name (i := 5) nd rfl (.inl rfl)) pgs_nil))))
      (pss_cons (ps_set (i := 6) nd rfl (.inl rfl) (pit (K := K) (pc c56 hr (pa_cons (pv 0) (pa_cons (pc c57 hr (pa_cons (pv 1) (pa_cons (pe_lst (pa_cons (pv 2) pa_nil)) pa_nil))) pa_nil))) pe_int))
      (pss_cons (ps_set (i := 7) nd rfl (.inl rfl) (pe_op op_sub (plen (K := K) Tt.len (pmt0 cL hr (pv 6))) (pv 3)))
      (pss_one (ps_ret (pe_and (pe_cmpR (op_eqD hr.units) (pv 4) (pmt0 cU hr (pv 6)) (nomark _)) (pe_and (pe_cmpR (r := rIn K false) op_in_seq (pv 7) (pe_tup (pa_cons pe_int (pa_cons pe_int pa_nil))) (by rfl))
        (pe_one (pe_or (pe_cmpR (op_eqD hr.units) (pv 5) (pe_tup pa_nil) (nomark _)) (pe_one (pe_cmpR op_eq (pv 7) pe_int (nomark _))))))))))), ?_⟩
    refine ⟨_, rfl, _, rfl, _, rfl, a, n, m, es, rfl, hA, hv, by omega, h1, h2, hm, hT, fun H1 p1 u1 l1 ks e1 T1 hp1 hu1 hl1 hks => ?_⟩
    refine ⟨p1, _, rfl, hp1, rfl, _, _, rfl, _, _, rfl, rfl, ?_⟩
    refine ⟨_, rfl, _, rfl, _, rfl, sz' (by show 1 ≤ 100000; decide), fun t nt => ?_⟩
    have st : Same H1 (upd H1 t (.lst [.int (m : Nat)])) := same_new nt
    have e2 := e1.trans (ExtN.of st)
    refine ⟨a, t, es, [m], rfl, hA.ext e2, by omega, SqL.of upd_same, fun H3 ra s3 hra => ?_⟩
    rw [rem_one es m hm] at hra
    have hle : (es.eraseIdx m).length = es.length - 1 := by rw [List.length_eraseIdx, if_pos hm]
    have hve : Val n (es.eraseIdx m) := fun e' me => hv e' (List.mem_of_mem_eraseIdx me)
    refine ⟨ra, n, _, rfl, hra, hve, by omega, h1, h2, fun H4 p4 pb s4 hp4 hpb => ?_⟩
    refine ⟨p4, _, 0, _, rfl, rfl, hp4, atI_nat (j := 0) rfl, ?_⟩
    obtain ⟨dx, ps, hpi, no1, no2, no3⟩ := hpb.ins
    refine ⟨_, rfl, pb, dx, ps, rfl, hpi, no2, pb, n, _, rfl, hpb, hve, by omega, h1, h2, fun H5 lb lr s5 hlb ll => ?_⟩
    obtain ⟨L1, f1, f2, f3⟩ := hlb
    refine ⟨lb, _, rfl, .inl f1, _, rfl, _, _, rfl, rfl, ?_⟩
    have el : (L1.map fun q => V.ref q.1).length = lr.length := by rw [List.length_map, ← f2, List.length_map]
    rw [el]
    have ll' : IsLots n (qf id (rem (fun k => decide (k ∈ [m])) es)) lr := by rw [rem_one es m hm]; exact ll.is
    obtain ⟨m1, m2⟩ := more_ok hv hls ll'
    have m3 := gone_mem es [m]
    have m4 : ([m] : List Nat).length = 1 := rfl
    have s25 := (st.trans s3).trans (s4.trans s5)
    refine ⟨_, rfl, _, rfl, ?_⟩
    have hpb5 := hpb.same s5
    obtain ⟨dx, ps, hpi, no1, no2, no3⟩ := hpb5.ins
    refine ⟨pb, dx, ps, rfl, hpi, no1, pb, n, _, rfl, hpb5, fun u5 hu5 => ?_⟩
    refine ⟨_, _, dp_lot (same_tup s25 hu1), dp_lot hu5, lot_shaped _, lot_shaped _, _, rfl, ?_⟩
    rw [eqv_sh (lot_shaped _)]
    refine iteT ?_
    obtain ⟨d, hd⟩ : ∃ d : Nat, lr.length = ls.length + d := ⟨lr.length - ls.length, by omega⟩
    have hd1 : d = 0 ∨ d = 1 := by omega
    have ed : ((lr.length : Nat) : Int) - ((ls.length : Nat) : Int) = (d : Nat) := by omega
    have hs : ∀ x : Int, x = (d : Nat) → inV (.int x) [.int 0, .int 1] = true := fun x hx => by
      rcases hd1 with rfl | rfl <;> subst hx <;> rfl
    have e05 : ExtN H H5 := e1.trans (ExtN.of s25)
    have T5 := T1.ext s25
    have hl5 := same_tup s25 hl1
    refine ⟨_, rfl, sz' (by show 2 ≤ 100000; decide), fun t6 n6 => ?_⟩
    have s6 : Same H5 (upd H5 t6 (.tup [.int 0, .int 1])) := same_new n6
    refine ⟨t6, _, rfl, .inr (SqT.of upd_same), rfl, rfl, _, rfl, ?_⟩
    show if inV (.int (((lr.length : Nat) : Int) - ((ls.length : Nat) : Int))) [.int 0, .int 1] = true then _ else _
    rw [hs _ ed]
    refine iteT ?_
    refine ⟨_, rfl, sz' (by show 0 ≤ 100000; decide), fun t7 n7 => ?_⟩
    have s7 := same_new (o := .tup []) n7
    have s57 := s6.trans s7
    refine ⟨_, _, .tup (same_tup s57 hl5) (zI_dp ks), .tup (SqT.of upd_same) .nil, zI_shaped ks, zI_shaped [], ?_⟩
    rw [zI_eqv]
    have eH := e05.trans (ExtN.of s57)
    have TH := T5.ext s57
    refine ⟨_, rfl, ?_⟩
    by_cases hk : ks = []
    · rw [decide_eq_true hk]
      exact iteT (q _ eH TH)
    · rw [decide_eq_false hk]
      refine iteF ?_
      have hne := hks hk
      rw [(Good.of es (by omega) hv).2, (Good.of (es.eraseIdx m) (by omega) hve).2] at hne
      have := later_ok hv hm hls ll.is hne
      have e0 : ((lr.length : Nat) : Int) - ((ls.length : Nat) : Int) = 0 := by omega
      refine ⟨_, rfl, rfl, ?_⟩
      show Q (.bl (decide (V.int (((lr.length : Nat) : Int) - ((ls.length : Nat) : Int)) = V.int 0))) _
      rw [e0, decide_eq_true rfl]
      exact q _ eH TH
end
end LH
/-! LhAD -/
set_option Elab.async false
set_option linter.all false
set_option maxRecDepth 100000
set_option maxHeartbeats 4000000
namespace LH
open PySem PySem.Spec PyProof.Rows L2 LamX
theorem row_nil (es : List E) : PyData.eqv (.tuple (es.map eD)) (.tuple []) = decide (es = []) := by
  cases es with
  | nil => simp [PyData.eqv, PyData.eqvAll]
  | cons a l => simp [PyData.eqv, PyData.eqvAll]
section
variable {P : Program} {w : World} {K : PySem.W.Frag} {mg : Str → Option Value} {base : Heap} {C : Addr}
abbrev N63 : List Str := ["_law_script", "_law_many_here", "_law_row", "_law_xs", "_law_other", "_law_one", "_law_two", "_law_numbers_here", "_law_k", "_law_number", "_law_lots"]
theorem sc63 : FnScope N63 ["_law_script"] (defScope (top 63)) := ⟨rfl, rfl, rfl, by decide +kernel, rfl, by decide +kernel, by decide +kernel⟩
def sp63 (K : PySem.W.Frag) (T : List (Addr × Str)) : Sp := fun vs H Q _ => ∃ (a : Addr) (ns : List Int), vs = [.ref a] ∧ SqL K H a (ns.map V.int) ∧ ns.length ≤ 1000 ∧ Tabs T H ∧ ∀ H' : Hp, Q (.bl true) H'
theorem body63 {T : List (Addr × Str)} {f : Addr} {cdv : Value} {A : Around} {outer : List Env} {s : Shared} {H : Hp} {vs : List V} {Q : VK} {E : XK} (hr : Room 10 (A.deeper (envOfC "law" (defScope (top 63)) s.heap.objs.size f cdv))) (h : sp63 K T vs H Q E) (Tt : Tx K mg)
    (c51 : Ca P w K mg base 1 "_law_cell" (sp51 K)) (c52 : Ca P w K mg base 1 "_law_numbers" sp52) (c53 : Ca P w K mg base 1 "_law_many" sp53) (c54 : Ca P w K mg base 2 "_law_joins" (sp54 K)) (c56 : Ca P w K mg base 6 "_law_piled" (sp56 K C)) (c59 : Ca P w K mg base 7 "_law_counted" (sp59 K)) (c60 : Ca P w K mg base 1 "_law_order" (sp60 K))
    (c61 : Ca P w K mg base 10 "_law_right" (sp61 K T)) (c62 : Ca P w K mg base 9 "_law_one_right" (sp62 K T)) (cL : Me P w K mg base 5 C "lots" (spLo K C)) :
    ∃ t, PSs (cxOf CX0 P w K mg base N63 "law" (defScope (top 63)) f cdv A outer s H E).nox (defBody (top 63)) t ∧ t { nx := fun _ H' => Q .non H', rt := Q } (start N63 vs) H := by
  obtain ⟨a, ns, rfl, hA, hl, hT, q⟩ := h
  have nd := sc63.nd
  refine ⟨_, pss_cons (ps_set (i := 1) nd rfl (.inr rfl) (pc c53 hr (pa_cons (pil (K := K) (pc c52 hr (pa_cons (pc c51 hr (pa_cons (pv 0) (pa_cons pe_int pa_nil))) (pa_cons pe_int pa_nil))) pe_int) pa_nil)))
    (pss_cons (ps_set (i := 2) nd rfl (.inr rfl) (pc c54 hr (pa_cons (pv 0) (pa_cons pe_int (pa_cons (pv 1) (pa_cons pe_int pa_nil))))))
    (pss_cons (ps_set (i := 3) nd rfl (.inl rfl) (pc c52 hr (pa_cons (pc c51 hr (pa_cons (pv 0) (pa_cons pe_int pa_nil))) (pa_cons pe_int pa_nil))))
    (pss_cons (ps_set (i := 4) nd rfl (.inl rfl) (pc c60 hr (pa_cons (pv 2) (pa_cons (pe_slice sl_list (pv 3) (po_some pe_int) po_none) pa_nil))))
    (pss_cons (ps_if (PW.pt (pw_or (pt_not (pt_val (pc c59 hr (pa_cons (pv 1) (pa_cons (pv 2) pa_nil))))) (pw_or1 (pt_not (pt_val (pc c59 hr (pa_cons (pv 1) (pa_cons (pv 4) pa_nil)))))))) (pss_one ps_never) pss_nil)
    (pss_cons (ps_par (i := 5) (j := 6) rfl nd rfl rfl (by decide) rfl rfl (pa_cons (pc c56 hr (pa_cons (pv 1) (pa_cons (pv 2) pa_nil))) (pa_cons (pc c56 hr (pa_cons (pv 1) (pa_cons (pv 4) pa_nil))) pa_nil)) (by rfl))
    (pss_cons (ps_if (PW.pt (pw_or (pt_cmpR (op_neD hr.units) (pmt0 cL hr (pit (K := K) (pv 5) pe_int)) (pmt0 cL hr (pit (K := K) (pv 6) pe_int)) (nomark _)) (pw_or1 (pt_cmpR op_ne (pit (K := K) (pv 5) pe_int) (pit (K := K) (pv 6) pe_int) (nomark _))))) (pss_one ps_never) pss_nil)
    (pss_cons (ps_if (pt_cmpR (op_eqD hr.units) (pv 2) (pe_tup pa_nil) (nomark _)) (pss_one (ps_ret pe_bl)) pss_nil)
    (pss_cons (ps_set (i := 7) nd rfl (.inl rfl) (pe_lst pa_nil))
    (pss_cons (ps_for PassesOwn.never rfl (pi_range1 (by rfl) Tt.rng (pa_cons (pe_op op_add pe_int (pe_op op_mod (pil (K := K) (pv 3) pe_int) pe_int)) pa_nil)) (pg_name (i := 8) nd rfl (.inl rfl))
      (pss_cons (ps_set (i := 9) nd rfl (.inl rfl) (pe_op op_mod (pil (K := K) (pv 3) (pe_op op_add pe_int (pv 8))) (plen (K := K) Tt.len (pv 2))))
      (pss_one (ps_if (pt_cmpR (r := rIn K true) op_notIn_seq (pv 9) (pv 7) (by rfl)) (pss_one (ps_expr (pe_bm PySem.F.plainAttrs_list PySem.F.slot_list_append PySem.F.type_list_append mt_append (pv 7) (pa_cons (pv 9) pa_nil)))) pss_nil))))
    (pss_cons (ps_if (PW.pt (pw_or (pt_not (pt_val (pc c61 hr (pa_cons (pv 1) (pa_cons (pv 2) (pa_cons (pv 7) pa_nil)))))) (pw_or1 (pt_not (pt_val (pc c61 hr (pa_cons (pv 1) (pa_cons (pv 4) (pa_cons (pv 7) pa_nil))))))))) (pss_one ps_never) pss_nil)
    (pss_cons (ps_set (i := 10) nd rfl (.inr rfl) (plen (K := K) Tt.len (pmt0 cL hr (pit (K := K) (pv 5) pe_int))))
    (pss_one (ps_ret (pe_callB (cr_all rfl) (by rfl) Tt.all (by decide +kernel) (pa_cons (pe_lc (own := [("_law_number", 9)]) (g := gName 9) (tt := tYes) rfl nd (pi_list (pe_op op_cat (pv 7) (pe_lst (pa_cons pe_int (pa_cons (pe_op op_sub (plen (K := K) Tt.len (pv 2)) pe_int) pa_nil))))) (blkOk_by (N := N63) (sc := defScope (top 63)) (by decide +kernel))
        (fun _ _ _ _ _ => pg_name (i := 9) nd rfl (.inl rfl)) (fun _ _ _ _ _ => pts_nil) (fun _ _ _ _ _ => pc c62 hr (pa_cons (pv 1) (pa_cons (pv 2) (pa_cons (pv 9) (pa_cons (pv 10) pa_nil)))))) pa_nil))))))))))))))), ?_⟩
  -- many
  refine ⟨_, rfl, a, 0, ns, rfl, hA, by omega, hl, fun H1 z1 s1 => ⟨z1, 1, rfl, by omega, fun H2 xa xs0 s2 nxa hxa hl0 => ?_⟩⟩
  have s12 := s1.trans s2
  obtain ⟨v0, hv0⟩ := ints_at (xs := xs0) (j := 0) (by omega)
  refine ⟨xa, _, 0, _, rfl, rfl, SqL.of hxa, hv0, v0, rfl, fun H3 n s3 h1 h2 => ?_⟩
  have s13 := s12.trans s3
  -- row
  refine ⟨_, rfl, _, rfl, a, n, ns, rfl, s13.seq hA, hl, h1, h2, fun H4 row es s4 hrow hv hlen => ?_⟩
  have s14 := s13.trans s4
  -- xs
  refine ⟨_, rfl, a, 20, ns, rfl, s14.seq hA, by omega, hl, fun H5 z5 s5 => ⟨z5, 20, rfl, by omega, fun H6 xb xs s6 nxb hxb hxl => ?_⟩⟩
  have s56 := s5.trans s6
  refine ⟨_, rfl, _, rfl, 4, rfl, xb, _, rfl, SqL.of hxb, fun xc nxc => ?_⟩
  have hx4 : cutV (xs.map V.int) (some 4) none = (xs.drop 4).map V.int := by
    rw [show (4 : Int) = ((4 : Nat) : Int) from rfl, cut_from (by rw [List.length_map]; omega), List.map_drop]
  have sC := same_new (o := .lst (cutV (xs.map V.int) (some 4) none)) nxc
  have hxc : SqL K (upd H6 xc (.lst (cutV (xs.map V.int) (some 4) none))) xc ((xs.drop 4).map V.int) := by
    rw [← hx4]
    exact SqL.of upd_same
  have hxb7 := sC _ _ hxb
  have hrow7 := hrow.same (s56.trans sC)
  have s07 := s14.trans (s56.trans sC)
  generalize upd H6 xc (.lst (cutV (xs.map V.int) (some 4) none)) = H7 at sC hxc hxb7 hrow7 s07
  refine ⟨row, xc, n, es, xs.drop 4, rfl, hrow7, hv, by omega, hxc, by rw [List.length_drop]; omega, by rw [List.length_drop]; omega, fun H8 oth es2 s8 hoth hv2 hal => ?_⟩
  have hlen2 : es2.length ≤ 30 := by rw [← hal.1]; exact hlen
  -- counted
  refine ⟨_, rfl, _, rfl, row, n, es, rfl, hrow7.same s8, hv, by omega, h1, h2, fun H9 s9 => ⟨_, rfl, iteF ?_⟩⟩
  refine ⟨_, rfl, _, rfl, oth, n, es2, rfl, hoth.same s9, hv2, by omega, h1, h2, fun H10 s10 => ⟨_, rfl, iteF ?_⟩⟩
  -- one, two
  have s810 := (s8.trans s9).trans s10
  refine ⟨_, rfl, _, rfl, row, n, es, rfl, hrow7.same s810, hv, by omega, h1, h2, fun H11 p1 b1 s11 hp1 hb1 => ?_⟩
  refine ⟨_, rfl, _, rfl, oth, n, es2, rfl, hoth.same ((s9.trans s10).trans s11), hv2, by omega, h1, h2, fun H12 p2 b2 s12' hp2 hb2 => ?_⟩
  refine ⟨_, _, rfl, ?_⟩
  have s712 := (s810.trans s11).trans s12'
  have hp1' := same_tup s12' hp1
  have hb1' := hb1.same s12'
  obtain ⟨dx, ps, hpi, no1, no2, no3⟩ := hb1'.ins
  refine ⟨_, rfl, p1, _, 0, _, rfl, rfl, hp1', atI_nat (j := 0) rfl, b1, dx, ps, rfl, hpi, no2, b1, n, es, rfl, hb1', hv, by omega, h1, h2, fun H13 la ls s13' hla ll => ?_⟩
  have hb2' := hb2.same s13'
  obtain ⟨dx, ps, hpi, no1, no2, no3⟩ := hb2'.ins
  refine ⟨_, rfl, p2, _, 0, _, rfl, rfl, same_tup s13' hp2, atI_nat (j := 0) rfl, b2, dx, ps, rfl, hpi, no2, b2, n, es2, rfl, hb2', hv2, by omega, h1, h2, fun H14 lb ls2 s14' hlb ll2 => ?_⟩
  have els : ls = ls2 := ll.uniq ll2 fun x y _ _ => hal.rel x y
  subst els
  refine ⟨_, _, dp_lots (hla.same s14'), dp_lots hlb, lots_shapedL _, lots_shapedL _, _, rfl, ?_⟩
  rw [eqv_sh (lots_shapedL _)]
  refine iteF ?_
  have s1214 := s13'.trans s14'
  have c1 := count_lots es hv (lots_one n) ls ll.is
  have c2 := count_lots es2 hv2 (lots_one n) ls ll2.is
  have ereal : real id es = real id es2 := by omega
  refine ⟨_, rfl, p1, _, 1, _, rfl, rfl, same_tup s1214 hp1', atI_nat (j := 1) rfl, _, rfl, p2, _, 1, _, rfl, rfl, same_tup s1214 hp2, atI_nat (j := 1) rfl, ?_⟩
  refine ⟨rfl, _, rfl, ?_⟩
  rw [ereal, decide_eq_true rfl]
  refine iteF ?_
  -- row == ()
  have s714 := s712.trans s1214
  refine ⟨_, rfl, sz' (by show 0 ≤ 100000; decide), fun t0 nt0 => ?_⟩
  have s15 := same_new (o := .tup []) nt0
  have s715 := s714.trans s15
  have hrowF := hrow7.same s715
  refine ⟨_, _, dp_row hrowF, .tup (SqT.of upd_same) .nil, es_shapedT _, zI_shaped [], _, rfl, ?_⟩
  rw [row_nil]
  by_cases he : es = []
  · rw [decide_eq_true he]
    exact iteT (q _)
  rw [decide_eq_false he]
  refine iteF ?_
  have hpos : 1 ≤ es.length := List.length_pos_iff.mpr he
  have hothF := (hoth.same (s9.trans s10)).same (((s11.trans s12').trans s1214).trans s15)
  have hp1F := same_tup (s1214.trans s15) hp1'
  have hb1F := hb1'.same (s1214.trans s15)
  have hxbF := s715 _ _ hxb7
  have TF := (hT.ext s07).ext s715
  generalize upd H14 t0 (.tup []) = HF at hrowF hothF hp1F hb1F hxbF TF
  refine ⟨Nat.zero_le _, fun dn ndn => ?_⟩
  have sN : Same HF (upd HF dn (.lst [])) := same_new ndn
  obtain ⟨w0, hw0⟩ := ints_at (xs := xs) (j := 0) (by omega)
  obtain ⟨y0, hy0, ly0⟩ := emod_nat w0 (n := 2) (by decide)
  refine ⟨_, rfl, xb, _, 0, _, rfl, rfl, SqL.of (sN _ _ hxbF), hw0, _, _, rfl, rfl, by show (0 : Int) < 2; decide, _, _, rfl, rfl, _, rfl, ?_⟩
  have ey : 2 + w0 % 2 = ((2 + y0 : Nat) : Int) := by
    have : w0 % (2 : Int) = (y0 : Nat) := hy0
    omega
  obtain ⟨M, hM1, hMe, hM2⟩ := id hrowF
  have hMl : (M.map fun q => V.ref q.1).length = es.length := by rw [List.length_map, ← hMe, List.length_map]
  show -(2 ^ 62) ≤ 2 + w0 % 2 ∧ 2 + w0 % 2 < 2 ^ 62 ∧ _
  rw [ey]
  refine ⟨by omega, by omega, ?_⟩
  rw [Int.toNat_natCast]
  refine for_range (lo := 0) (n := 2 + y0) (fun i σ H' => ∃ (y8 y9 : Option V) (L : List Nat), σ = [some (.ref a), some (.int (n : Nat)), some (.ref row), some (.ref xb), some (.ref oth), some (.ref p1), some (.ref p2), some (.ref dn), y8, y9, none] ∧ Same HF H' ∧ H' dn = some (.lst (iv L)) ∧ L.Nodup ∧ (∀ o ∈ L, o < es.length) ∧ L.length ≤ i ∧ (1 ≤ i → L ≠ []))
    ⟨none, none, [], rfl, sN, upd_same, List.nodup_nil, fun o ho => absurd ho (by simp), Nat.le_refl _, fun z => absurd z (by omega)⟩ ?_ ?_
  · rintro i σ H2 hi ⟨y8, y9, L, rfl, s2', g, g1, g2, g3, g4⟩
    rw [Int.zero_add]
    obtain ⟨w1, hw1⟩ := ints_at (xs := xs) (j := 1 + i) (by omega)
    obtain ⟨x, hx, lx⟩ := emod_nat w1 (n := es.length) hpos
    have ei : (1 : Int) + (i : Nat) = ((1 + i : Nat) : Int) := by omega
    refine ⟨_, rfl, _, rfl, _, _, rfl, rfl, xb, _, _, .int w1, rfl, rfl, SqL.of (s2' _ _ hxbF), by rw [ei]; exact hw1, _, rfl, row, _, rfl, .inr (same_tup s2' hM1), _, _, rfl, rfl, by rw [hMl]; omega, ?_⟩
    refine ⟨_, rfl, _, rfl, dn, _, rfl, .inl (SqL.of g), rfl, iv_flat _, _, rfl, ?_⟩
    show if (!inV (.int (w1 % (((M.map fun q => V.ref q.1).length : Nat) : Int))) (iv L)) = true then _ else _
    rw [hMl, hx, inV_iv]
    by_cases hxL : x ∈ L
    · rw [decide_eq_true hxL]
      refine iteF ⟨_, _, L, rfl, s2', g, g1, g2, by omega, fun _ z => ?_⟩
      rw [z] at hxL
      exact absurd hxL (by simp)
    · rw [decide_eq_false hxL]
      refine iteT ⟨_, rfl, .inl ⟨rfl, _, SqL.of g⟩, _, rfl, dn, _, _, rfl, rfl, g, by rw [iv_len]; exact sz (by omega), ?_⟩
      refine ⟨_, _, L ++ [x], rfl, same_own s2' ndn, ?_, ?_, fun o ho => ?_, by rw [List.length_append]; show L.length + 1 ≤ i + 1; omega, fun _ z => by simp at z⟩
      · rw [upd_same, iv_app]
        show some (HO.lst (iv L ++ [V.int (w1 % ((es.length : Nat) : Int))])) = _
        rw [hx]
        rfl
      · refine List.nodup_append.mpr ⟨g1, by simp, fun u h1' v h2' e => ?_⟩
        have ev : v = x := by simpa using h2'
        rw [e, ev] at h1'
        exact hxL h1'
      · rcases List.mem_append.mp ho with ho | ho
        · exact g2 o ho
        · have eo : o = x := by simpa using ho
          rw [eo]
          exact lx
  · rintro σ H2 ⟨y8, y9, L, rfl, s2', g, g1, g2, g3, g4⟩
    have hne := g4 (by omega)
    have T2 := TF.ext s2'
    refine ⟨_, rfl, _, rfl, _, rfl, row, dn, n, es, L, rfl, hrowF.same s2', hv, by omega, h1, h2, SqL.of g, g1, g2, hne, by omega, T2, fun HG eG TG => ⟨_, rfl, iteF ?_⟩⟩
    have eFG := (ExtN.of s2').trans eG
    have gG := eG _ _ g (fun _ z => by cases z)
    refine ⟨_, rfl, _, rfl, _, rfl, oth, dn, n, es2, L, rfl, hothF.ext eFG, hv2, by omega, h1, h2, SqL.of gG, g1, fun o ho => by rw [← hal.1]; exact g2 o ho, hne, by omega, TG, fun HI eI TI => ⟨_, rfl, iteF ?_⟩⟩
    have eFI := eFG.trans eI
    have gI := eI _ _ gG (fun _ z => by cases z)
    have hb1I := hb1F.ext eFI
    obtain ⟨dx, ps, hpi, no1, no2, no3⟩ := hb1I.ins
    refine ⟨_, rfl, p1, _, 0, _, rfl, rfl, extN_tup eFI hp1F, atI_nat (j := 0) rfl, b1, dx, ps, rfl, hpi, no2, b1, n, es, rfl, hb1I, hv, by omega, h1, h2, fun HJ lc ls3 sJ hlc ll3 => ?_⟩
    obtain ⟨L3, f1, f2, f3⟩ := hlc
    refine ⟨lc, _, rfl, .inl f1, ?_⟩
    have el : (L3.map fun q => V.ref q.1).length = ls3.length := by rw [List.length_map, ← f2, List.length_map]
    rw [el]
    have eFJ := eFI.trans (ExtN.of sJ)
    have gJ := sJ _ _ gI
    have hrowJ := hrowF.ext eFJ
    have hM1J := extN_tup eFJ hM1
    have TJ := TI.ext sJ
    refine ⟨_, rfl, _, rfl, row, _, rfl, .inr hM1J, _, _, rfl, rfl, sz' (by show 2 ≤ 100000; decide), fun d2 nd2 => ?_⟩
    have e2l : ([.int 0, .int ((((M.map fun q => V.ref q.1).length : Nat) : Int) - 1)] : List V) = iv [0, es.length - 1] := by
      rw [hMl, show ((es.length : Nat) : Int) - 1 = ((es.length - 1 : Nat) : Int) by omega]
      rfl
    show rCat (.ref dn) (.ref d2) (upd HJ d2 (.lst ([.int 0, .int ((((M.map fun q => V.ref q.1).length : Nat) : Int) - 1)] : List V))) _
    rw [e2l]
    have sD2 : Same HJ (upd HJ d2 (.lst (iv [0, es.length - 1]))) := same_new nd2
    have g2J : (upd HJ d2 (.lst (iv [0, es.length - 1]))) d2 = some (.lst (iv [0, es.length - 1])) := upd_same
    have gJ2 := sD2 _ _ gJ
    have hrowK := hrowJ.same sD2
    have TK := TJ.ext sD2
    generalize upd HJ d2 (.lst (iv [0, es.length - 1])) = HK at sD2 g2J gJ2 hrowK TK
    refine ⟨dn, d2, _, _, rfl, rfl, gJ2, g2J, sz' (by rw [iv_len, iv_len]; show L.length + 2 ≤ 100000; omega), fun d3 nd3 => ?_⟩
    rw [← iv_app]
    have sD3 : Same HK (upd HK d3 (.lst (iv (L ++ [0, es.length - 1])))) := same_new nd3
    have g3J : (upd HK d3 (.lst (iv (L ++ [0, es.length - 1])))) d3 = some (.lst (iv (L ++ [0, es.length - 1]))) := upd_same
    have hrowL := hrowK.same sD3
    have TL := TK.ext sD3
    generalize upd HK d3 (.lst (iv (L ++ [0, es.length - 1]))) = HL at sD3 g3J hrowL TL
    refine ⟨d3, rfl, ⟨_, SqL.of g3J⟩, fun D1 nD => ?_⟩
    have hlL : (L ++ [0, es.length - 1]).length = L.length + 2 := by rw [List.length_append]; rfl
    refine lc_list (K := K) (a := d3) (xs := iv (L ++ [0, es.length - 1])) (fun i H' => ExtN HL H' ∧ Tabs T H' ∧ H' D1 = some (.lst ((List.replicate i true).map V.bl))) ⟨ExtN.of (same_new nD), TL.ext (same_new nD), upd_same⟩ (fun i H' _ z => SqL.of (z.1 _ _ g3J (fun _ z => by cases z))) ?_ ?_
    · rintro i y H5 hi ⟨e5, T5, g5⟩
      obtain ⟨m, hm, rfl⟩ := iv_of hi
      have hmm : m < es.length := by
        rcases List.mem_append.mp (List.mem_of_getElem? hm) with z | z
        · exact g2 m z
        · simp only [List.mem_cons, List.not_mem_nil, or_false] at z
          omega
      have hil : i < L.length + 2 := by rw [← hlL]; exact (List.getElem?_eq_some_iff.mp hm).1
      refine ⟨rfl, yes ?_⟩
      refine ⟨_, rfl, _, rfl, _, rfl, _, rfl, row, n, m, es, ls3, rfl, hrowL.ext e5, hv, by omega, h1, h2, hmm, ll3.is, T5, fun H6 e6 T6 => ?_⟩
      have g6 := e6 _ _ g5 (fun _ z => by cases z)
      refine ⟨_, g6, by rw [List.length_map, List.length_replicate]; exact sz (by omega), extN_own' (e5.trans e6) g6 (fun x z => by rw [nD] at z; cases z), tabs_upd T6 g6, ?_⟩
      rw [upd_same, List.replicate_succ', List.map_append]
      rfl
    · rintro H5 ⟨e5, T5, g5⟩
      refine ⟨D1, _, rfl, SqL.of g5, ?_⟩
      rw [all_rep]
      exact q _
end
end LH
/-! LhAE -/
set_option Elab.async false
set_option linter.all false
set_option maxRecDepth 100000
set_option maxHeartbeats 0
namespace LH
open PySem PySem.Spec PyProof.Rows L2 LamX
/-! the head: facts by names, the run -/
def dG (i : Nat) (x : Str) : He.DefD := ⟨(x, none), x, x, defArgs (top i), defBody (top i), defScope (top i), [], []⟩
def dM (j : Nat) (m qual : Str) : He.DefD := ⟨("Pile", some m), m, qual, defArgs (mS j), defBody (mS j), defScope (mS j), [], []⟩
def fnA : List He.DefD := [dG 12 "is_thing", dG 13 "check_number", dG 14 "ends_at", dG 15 "is_forest", dG 16 "check_forest", dG 17 "lots_of", dG 20 "is_short", dG 21 "check_short", dG 22 "gone_through", dG 24 "walked_whole", dG 26 "walked", dG 30 "is_whole", dG 31 "check_many", dG 32 "is_join_word", dG 33 "check_join", dG 34 "new_store", dG 36 "is_thing_of", dG 37 "is_word", dG 38 "is_deed", dG 39 "is_join", dG 40 "check_row", dG 41 "check_joins", dG 42 "linked", dG 43 "deed_done", dG 44 "run", dG 46 "joined", dG 47 "without"]
def fnB : List He.DefD := [dG 51 "_law_cell", dG 52 "_law_numbers", dG 53 "_law_many", dG 54 "_law_joins", dG 55 "_law_lots_by", dG 56 "_law_piled", dG 57 "_law_left", dG 58 "_law_struck", dG 59 "_law_counted", dG 60 "_law_order", dG 61 "_law_right", dG 62 "_law_one_right", dG 63 "law", dM 0 "__init__" "Pile.__init__", dM 1 "join" "Pile.join", dM 4 "ups" "Pile.ups", dM 5 "lots" "Pile.lots", dM 6 "joins" "Pile.joins"]
def fn : List He.DefD := fnA ++ fnB
def faA : List He.Fa := [.glo "is_thing", .glo "check_number", .glo "ends_at", .glo "is_forest", .glo "check_forest", .glo "lots_of", .glo "is_short", .glo "check_short", .glo "gone_through", .glo "walked_whole", .glo "walked", .glo "is_whole", .glo "check_many", .glo "is_join_word", .glo "check_join", .glo "new_store", .glo "is_thing_of", .glo "is_word", .glo "is_deed", .glo "is_join", .glo "check_row", .glo "check_joins", .glo "linked", .glo "deed_done", .glo "run", .glo "joined", .glo "without"]
def faB : List He.Fa := [.glo "_law_cell", .glo "_law_numbers", .glo "_law_many", .glo "_law_joins", .glo "_law_lots_by", .glo "_law_piled", .glo "_law_left", .glo "_law_struck", .glo "_law_counted", .glo "_law_order", .glo "_law_right", .glo "_law_one_right", .glo "law"]
def faC : List He.Fa := [.free "isinstance", .free "int", .free "bool", .free "str", .free "tuple", .free "list", .free "len", .free "range", .free "all", .free "sorted", .free "min", .free "abs", .int "MOST_THINGS_forests" 40, .int "MOST_THINGS_stores" 40, .glo "SHORTS", .glo "JOINS", .glo "Pile", .cls "Pile", .noat "Pile" "stood", .noat "Pile" "stack", .mkr "Pile", .meth "Pile" "join", .meth "Pile" "ups", .meth "Pile" "lots", .meth "Pile" "joins"]
def fa : List He.Fa := faA ++ faB ++ faC
def tf : List He.Defn := [("check_joins", none), ("run", none)]
def ex (K : PySem.W.Frag) : Bool := He.tupB K "SHORTS" [.str "none", .str "whole", .str "halves", .str "splits", .str "one"] && (He.tupB K "JOINS" [.str "size", .str "rank", .str "told", .str "names"] && !((He.cT K ("check_joins", none)).2 == (He.cT K ("run", none)).2))
abbrev R : PySem.W.OpenRow := PySem.W.OpenLaw.row PySem.Challenge.rw_lotheads_k89_whole_joins_left_out
abbrev hk : PySem.W.Hook := He.hookX 5 fa fn [] tf ex
def ob (s : PySem.W.SharedT) : He.AlX := He.obsX 5 fa fn [] tf ex (HandSHeadRun.getT s)
theorem ob_eq (s : PySem.W.SharedT) : ob s = hk.obs s.abs := He.obsX_eq (HandSHeadRun.getT_eq s)
def loose : List PySem.Str := (["_wall", "LotError", "NoThing", "NoForest", "NoShort", "NoMany", "NoJoin", "NoDeed", "NoNumber", "MOST_THINGS_forests"] : List PySem.Str) ++ (["is_thing", "check_number", "ends_at", "is_forest", "check_forest", "lots_of", "SHORTS", "is_short", "check_short", "gone_through"] : List PySem.Str) ++ (["put_up", "walked_whole", "walked_by_parts", "walked", "MOST_THINGS_stores", "JOINS", "is_whole", "check_many", "is_join_word", "check_join"] : List PySem.Str) ++ (["new_store", "is_thing_of", "is_word", "is_deed", "is_join", "check_row", "check_joins", "linked", "deed_done", "run"] : List PySem.Str) ++ (["joined", "without", "Pile", "_law_cell", "_law_numbers", "_law_many", "_law_joins", "_law_lots_by", "_law_piled", "_law_left"] : List PySem.Str) ++ (["_law_struck", "_law_counted", "_law_order", "_law_right", "_law_one_right"] : List PySem.Str)
theorem run (w : World) : HandSHeadRun.RunEq R (PySem.W.view R.prog [63]) hk ob 20000 loose w := by
  intro os
  kernel_rfl
end LH
/-! LhAF -/
set_option Elab.async false
set_option linter.all false
set_option maxRecDepth 100000
set_option maxHeartbeats 4000000
namespace LH
open PySem PySem.Spec PyProof.Rows L2 LamX
theorem fun_of {K : PySem.W.Frag} {x qual : Str} {st : Stmt} {f : Addr} {fd : FuncData} (F : FunD K x qual (defArgs st) (defBody st) (defScope st) [] [] f fd) : Fun K x qual st f fd := by
  obtain ⟨oc, od, dV, kV, doc, pm, an, cdv, ct, osl, rfl, lk, hcd, hD, hK⟩ := F.ex
  rcases hD with ⟨_, rfl⟩ | ⟨e, _⟩
  · exact fun_mk (st := st) lk hcd F.kp
  · exact absurd rfl e
abbrev BindsP (x qual : Str) (st : Stmt) (ps : List Str) : Prop := ∀ (kV doc pm : Value) (an : Option Addr) (cdv ct : Value) (us : List Value), us.length = ps.length → bindArgs (PySem.W.fnOf x qual (defArgs st) (defBody st) (defScope st) .none kV doc pm an cdv ct) ⟨us, []⟩ = pure (ps.zip us)
section
variable {P : Program} {w : World} {K : PySem.W.Frag} {mg : Str → Option Value} {base h : Heap}
theorem df_of (X : K.In h) (G : h.Ns mainGlobals mg) (c : He.SaysD fa fn K) {i : Nat} {x : Str} {ps : List Str} (a b : Nat) (hd : fn[a]? = some (dG i x)) (hg : fa[b]? = some (.glo x)) (hb : BindsP x x (top i) ps) : Df K mg x (top i) ps := by
  obtain ⟨fd, F⟩ := c.def_ a hd
  have F' : FunD K x x (defArgs (top i)) (defBody (top i)) (defScope (top i)) [] [] (He.fAd K (x, none)) fd := F
  exact ⟨_, fd, fun_of F', He.glo_ok X G (c.fact b hg), F'.bindsN hb⟩
theorem dc_of (X : K.In h) (G : h.Ns mainGlobals mg) (c : He.SaysD fa fn K) {i : Nat} {x : Str} {ps : List Str} (a b : Nat) (hd : fn[a]? = some (dG i x)) (hg : fa[b]? = some (.glo x)) (hb : BindsP x x (top i) ps) : Dc K mg x (top i) ps (He.codeOf K (x, none)) := by
  obtain ⟨fd, F⟩ := c.def_ a hd
  have F' : FunD K x x (defArgs (top i)) (defBody (top i)) (defScope (top i)) [] [] (He.fAd K (x, none)) fd := F
  obtain ⟨oc, od, dV, kV, doc, pm, an, cdv, ct, osl, rfl, lk, hcd, hD, hK⟩ := F'.ex
  rcases hD with ⟨_, rfl⟩ | ⟨e, _⟩
  · obtain ⟨c', rfl⟩ := He.codeIn_ref hcd
    rw [He.codeOf_eq (p := (x, none)) (c := c') lk rfl]
    exact ⟨_, oc, od, kV, doc, pm, an, ct, osl, He.glo_ok X G (c.fact b hg), F'.kp, lk, hcd, F'.bindsN hb⟩
  · exact absurd rfl e
theorem row_of (X : K.In h) (G : h.Ns mainGlobals mg) (c : He.SaysD fa fn K) (a b : Nat) (hd : fn[a]? = some (dG 40 "check_row")) (hg : fa[b]? = some (.glo "check_row")) (hb : BindsP "check_row" "check_row" (top 40) ["row", "looked"]) : Row K mg := by
  obtain ⟨fd, F⟩ := c.def_ a hd
  have F' : FunD K "check_row" "check_row" (defArgs (top 40)) (defBody (top 40)) (defScope (top 40)) [] [] (He.fAd K ("check_row", none)) fd := F
  obtain ⟨oc, od, dV, kV, doc, pm, an, cdv, ct, osl, rfl, lk, hcd, hD, hK⟩ := F'.ex
  rcases hD with ⟨_, rfl⟩ | ⟨e, _⟩
  · exact ⟨_, oc, od, kV, doc, pm, an, cdv, ct, osl, He.glo_ok X G (c.fact b hg), F'.kp, lk, hcd, F'.bindsN hb⟩
  · exact absurd rfl e
theorem dm_of (c : He.SaysD fa fn K) {j : Nat} {m qual : Str} {ps : List Str} (a b d : Nat) (hd : fn[a]? = some (dM j m qual)) (hm : fa[b]? = some (.meth "Pile" m)) (hc : fa[d]? = some (.cls "Pile")) (hb : BindsP m qual (mS j) ps) : Dm K m qual (mS j) ps (He.ga K "Pile") := by
  obtain ⟨fd, F⟩ := c.def_ a hd
  have F' : FunD K m qual (defArgs (mS j)) (defBody (mS j)) (defScope (mS j)) [] [] (He.ma K (He.ga K "Pile") m) fd := F
  exact ⟨_, fd, fun_of F', He.cls_ok (c.fact d hc), He.meth_ok (c.fact b hm), F'.bindsN hb⟩
theorem di_of (X : K.In h) (G : h.Ns mainGlobals mg) (c : He.SaysD fa fn K) (a b d : Nat) (hd : fn[a]? = some (dM 0 "__init__" "Pile.__init__")) (hm : fa[b]? = some (.mkr "Pile")) (hc : fa[d]? = some (.glo "Pile")) (hb : BindsP "__init__" "Pile.__init__" (mS 0) ["self", "many"]) : Di K mg "Pile" "Pile.__init__" (mS 0) ["self", "many"] (He.ga K "Pile") := by
  obtain ⟨fd, F⟩ := c.def_ a hd
  have F' : FunD K "__init__" "Pile.__init__" (defArgs (mS 0)) (defBody (mS 0)) (defScope (mS 0)) [] [] (He.ma K (He.ga K "Pile") "__init__") fd := F
  exact ⟨_, fd, fun_of F', He.mkr_ok (c.fact b hm), He.glo_ok X G (c.fact d hc), F'.bindsN hb⟩
theorem tx_of (X : K.In h) (G : h.Ns mainGlobals mg) (c : He.SaysD fa fn K) (e : ex K = true) : Tx K mg := by
  obtain ⟨e1, e2⟩ := He.ba e
  obtain ⟨e2, e3⟩ := He.ba e2
  exact ⟨He.free_ok X G (c.fact 40 (f := .free "isinstance") rfl), He.free_ok X G (c.fact 41 (f := .free "int") rfl), He.free_ok X G (c.fact 42 (f := .free "bool") rfl), He.free_ok X G (c.fact 43 (f := .free "str") rfl), He.free_ok X G (c.fact 44 (f := .free "tuple") rfl), He.free_ok X G (c.fact 45 (f := .free "list") rfl), He.free_ok X G (c.fact 46 (f := .free "len") rfl), He.free_ok X G (c.fact 47 (f := .free "range") rfl), He.free_ok X G (c.fact 48 (f := .free "all") rfl), He.free_ok X G (c.fact 49 (f := .free "sorted") rfl), He.free_ok X G (c.fact 50 (f := .free "min") rfl), He.free_ok X G (c.fact 51 (f := .free "abs") rfl), He.int_ok X G (c.fact 52 (f := .int "MOST_THINGS_forests" 40) rfl), He.int_ok X G (c.fact 53 (f := .int "MOST_THINGS_stores" 40) rfl),
    ⟨_, He.glo_ok X G (c.fact 54 (f := .glo "SHORTS") rfl), fun H => He.tupB_ok e1 H⟩, ⟨_, He.glo_ok X G (c.fact 55 (f := .glo "JOINS") rfl), fun H => He.tupB_ok e2 H⟩⟩
theorem cl_of (c : He.SaysD fa fn K) : Cl K (He.ga K "Pile") := ⟨He.cls_ok (c.fact 57 (f := .cls "Pile") rfl), He.noat_ok (c.fact 58 (f := .noat "Pile" "stood") rfl), He.noat_ok (c.fact 59 (f := .noat "Pile" "stack") rfl)⟩
theorem d12 (X : K.In h) (G : h.Ns mainGlobals mg) (c : He.SaysD fa fn K) : Df K mg "is_thing" (top 12) ["many", "x"] := df_of X G c 0 0 rfl rfl (fun _ _ _ _ _ _ us hl => match us, hl with | [_, _], _ => rfl)
theorem d13 (X : K.In h) (G : h.Ns mainGlobals mg) (c : He.SaysD fa fn K) : Df K mg "check_number" (top 13) ["many", "x"] := df_of X G c 1 1 rfl rfl (fun _ _ _ _ _ _ us hl => match us, hl with | [_, _], _ => rfl)
theorem d14 (X : K.In h) (G : h.Ns mainGlobals mg) (c : He.SaysD fa fn K) : Df K mg "ends_at" (top 14) ["ups", "x"] := df_of X G c 2 2 rfl rfl (fun _ _ _ _ _ _ us hl => match us, hl with | [_, _], _ => rfl)
theorem d15 (X : K.In h) (G : h.Ns mainGlobals mg) (c : He.SaysD fa fn K) : Df K mg "is_forest" (top 15) ["thing"] := df_of X G c 3 3 rfl rfl (fun _ _ _ _ _ _ us hl => match us, hl with | [_], _ => rfl)
theorem d16 (X : K.In h) (G : h.Ns mainGlobals mg) (c : He.SaysD fa fn K) : Df K mg "check_forest" (top 16) ["ups"] := df_of X G c 4 4 rfl rfl (fun _ _ _ _ _ _ us hl => match us, hl with | [_], _ => rfl)
theorem d17 (X : K.In h) (G : h.Ns mainGlobals mg) (c : He.SaysD fa fn K) : Df K mg "lots_of" (top 17) ["ups"] := df_of X G c 5 5 rfl rfl (fun _ _ _ _ _ _ us hl => match us, hl with | [_], _ => rfl)
theorem d20 (X : K.In h) (G : h.Ns mainGlobals mg) (c : He.SaysD fa fn K) : Df K mg "is_short" (top 20) ["thing"] := df_of X G c 6 6 rfl rfl (fun _ _ _ _ _ _ us hl => match us, hl with | [_], _ => rfl)
theorem d21 (X : K.In h) (G : h.Ns mainGlobals mg) (c : He.SaysD fa fn K) : Df K mg "check_short" (top 21) ["short"] := df_of X G c 7 7 rfl rfl (fun _ _ _ _ _ _ us hl => match us, hl with | [_], _ => rfl)
theorem d22 (X : K.In h) (G : h.Ns mainGlobals mg) (c : He.SaysD fa fn K) : Df K mg "gone_through" (top 22) ["ups", "x"] := df_of X G c 8 8 rfl rfl (fun _ _ _ _ _ _ us hl => match us, hl with | [_, _], _ => rfl)
theorem d24 (X : K.In h) (G : h.Ns mainGlobals mg) (c : He.SaysD fa fn K) : Df K mg "walked_whole" (top 24) ["ups", "short", "x"] := df_of X G c 9 9 rfl rfl (fun _ _ _ _ _ _ us hl => match us, hl with | [_, _, _], _ => rfl)
theorem d26 (X : K.In h) (G : h.Ns mainGlobals mg) (c : He.SaysD fa fn K) : Df K mg "walked" (top 26) ["ups", "short", "x"] := df_of X G c 10 10 rfl rfl (fun _ _ _ _ _ _ us hl => match us, hl with | [_, _, _], _ => rfl)
theorem d30 (X : K.In h) (G : h.Ns mainGlobals mg) (c : He.SaysD fa fn K) : Df K mg "is_whole" (top 30) ["thing"] := df_of X G c 11 11 rfl rfl (fun _ _ _ _ _ _ us hl => match us, hl with | [_], _ => rfl)
theorem d31 (X : K.In h) (G : h.Ns mainGlobals mg) (c : He.SaysD fa fn K) : Df K mg "check_many" (top 31) ["many"] := df_of X G c 12 12 rfl rfl (fun _ _ _ _ _ _ us hl => match us, hl with | [_], _ => rfl)
theorem d32 (X : K.In h) (G : h.Ns mainGlobals mg) (c : He.SaysD fa fn K) : Df K mg "is_join_word" (top 32) ["thing"] := df_of X G c 13 13 rfl rfl (fun _ _ _ _ _ _ us hl => match us, hl with | [_], _ => rfl)
theorem d33 (X : K.In h) (G : h.Ns mainGlobals mg) (c : He.SaysD fa fn K) : Df K mg "check_join" (top 33) ["join"] := df_of X G c 14 14 rfl rfl (fun _ _ _ _ _ _ us hl => match us, hl with | [_], _ => rfl)
theorem d34 (X : K.In h) (G : h.Ns mainGlobals mg) (c : He.SaysD fa fn K) : Df K mg "new_store" (top 34) ["many", "join", "short"] := df_of X G c 15 15 rfl rfl (fun _ _ _ _ _ _ us hl => match us, hl with | [_, _, _], _ => rfl)
theorem d36 (X : K.In h) (G : h.Ns mainGlobals mg) (c : He.SaysD fa fn K) : Df K mg "is_thing_of" (top 36) ["many", "thing"] := df_of X G c 16 16 rfl rfl (fun _ _ _ _ _ _ us hl => match us, hl with | [_, _], _ => rfl)
theorem d37 (X : K.In h) (G : h.Ns mainGlobals mg) (c : He.SaysD fa fn K) : Df K mg "is_word" (top 37) ["thing", "word"] := df_of X G c 17 17 rfl rfl (fun _ _ _ _ _ _ us hl => match us, hl with | [_, _], _ => rfl)
theorem d38 (X : K.In h) (G : h.Ns mainGlobals mg) (c : He.SaysD fa fn K) : Df K mg "is_deed" (top 38) ["many", "thing"] := df_of X G c 18 18 rfl rfl (fun _ _ _ _ _ _ us hl => match us, hl with | [_, _], _ => rfl)
theorem d39 (X : K.In h) (G : h.Ns mainGlobals mg) (c : He.SaysD fa fn K) : Df K mg "is_join" (top 39) ["many", "thing"] := df_of X G c 19 19 rfl rfl (fun _ _ _ _ _ _ us hl => match us, hl with | [_, _], _ => rfl)
theorem dR (X : K.In h) (G : h.Ns mainGlobals mg) (c : He.SaysD fa fn K) : Row K mg := row_of X G c 20 20 rfl rfl (fun _ _ _ _ _ _ us hl => match us, hl with | [_, _], _ => rfl)
theorem d41 (X : K.In h) (G : h.Ns mainGlobals mg) (c : He.SaysD fa fn K) : Dc K mg "check_joins" (top 41) ["many", "row"] (He.codeOf K ("check_joins", none)) := dc_of X G c 21 21 rfl rfl (fun _ _ _ _ _ _ us hl => match us, hl with | [_, _], _ => rfl)
theorem d42 (X : K.In h) (G : h.Ns mainGlobals mg) (c : He.SaysD fa fn K) : Df K mg "linked" (top 42) ["join", "ups", "marks", "one", "other"] := df_of X G c 22 22 rfl rfl (fun _ _ _ _ _ _ us hl => match us, hl with | [_, _, _, _, _], _ => rfl)
theorem d43 (X : K.In h) (G : h.Ns mainGlobals mg) (c : He.SaysD fa fn K) : Df K mg "deed_done" (top 43) ["store", "deed"] := df_of X G c 23 23 rfl rfl (fun _ _ _ _ _ _ us hl => match us, hl with | [_, _], _ => rfl)
theorem d44 (X : K.In h) (G : h.Ns mainGlobals mg) (c : He.SaysD fa fn K) : Dc K mg "run" (top 44) ["store", "row"] (He.codeOf K ("run", none)) := dc_of X G c 24 24 rfl rfl (fun _ _ _ _ _ _ us hl => match us, hl with | [_, _], _ => rfl)
theorem d46 (X : K.In h) (G : h.Ns mainGlobals mg) (c : He.SaysD fa fn K) : Df K mg "joined" (top 46) ["many", "row"] := df_of X G c 25 25 rfl rfl (fun _ _ _ _ _ _ us hl => match us, hl with | [_, _], _ => rfl)
theorem d47 (X : K.In h) (G : h.Ns mainGlobals mg) (c : He.SaysD fa fn K) : Df K mg "without" (top 47) ["many", "row", "number"] := df_of X G c 26 26 rfl rfl (fun _ _ _ _ _ _ us hl => match us, hl with | [_, _, _], _ => rfl)
theorem d51 (X : K.In h) (G : h.Ns mainGlobals mg) (c : He.SaysD fa fn K) : Df K mg "_law_cell" (top 51) ["_law_script", "_law_k"] := df_of X G c 27 27 rfl rfl (fun _ _ _ _ _ _ us hl => match us, hl with | [_, _], _ => rfl)
theorem d52 (X : K.In h) (G : h.Ns mainGlobals mg) (c : He.SaysD fa fn K) : Df K mg "_law_numbers" (top 52) ["_law_cell_here", "_law_many_here"] := df_of X G c 28 28 rfl rfl (fun _ _ _ _ _ _ us hl => match us, hl with | [_, _], _ => rfl)
theorem d53 (X : K.In h) (G : h.Ns mainGlobals mg) (c : He.SaysD fa fn K) : Df K mg "_law_many" (top 53) ["_law_x"] := df_of X G c 29 29 rfl rfl (fun _ _ _ _ _ _ us hl => match us, hl with | [_], _ => rfl)
theorem d54 (X : K.In h) (G : h.Ns mainGlobals mg) (c : He.SaysD fa fn K) : Df K mg "_law_joins" (top 54) ["_law_script", "_law_at", "_law_many_here", "_law_most"] := df_of X G c 30 30 rfl rfl (fun _ _ _ _ _ _ us hl => match us, hl with | [_, _, _, _], _ => rfl)
theorem d55 (X : K.In h) (G : h.Ns mainGlobals mg) (c : He.SaysD fa fn K) : Df K mg "_law_lots_by" (top 55) ["_law_many_here", "_law_pairs"] := df_of X G c 31 31 rfl rfl (fun _ _ _ _ _ _ us hl => match us, hl with | [_, _], _ => rfl)
theorem d56 (X : K.In h) (G : h.Ns mainGlobals mg) (c : He.SaysD fa fn K) : Df K mg "_law_piled" (top 56) ["_law_many_here", "_law_row"] := df_of X G c 32 32 rfl rfl (fun _ _ _ _ _ _ us hl => match us, hl with | [_, _], _ => rfl)
theorem d57 (X : K.In h) (G : h.Ns mainGlobals mg) (c : He.SaysD fa fn K) : Df K mg "_law_left" (top 57) ["_law_row", "_law_numbers_here"] := df_of X G c 33 33 rfl rfl (fun _ _ _ _ _ _ us hl => match us, hl with | [_, _], _ => rfl)
theorem d58 (X : K.In h) (G : h.Ns mainGlobals mg) (c : He.SaysD fa fn K) : Df K mg "_law_struck" (top 58) ["_law_many_here", "_law_row", "_law_numbers_here"] := df_of X G c 34 34 rfl rfl (fun _ _ _ _ _ _ us hl => match us, hl with | [_, _, _], _ => rfl)
theorem d59 (X : K.In h) (G : h.Ns mainGlobals mg) (c : He.SaysD fa fn K) : Df K mg "_law_counted" (top 59) ["_law_many_here", "_law_row"] := df_of X G c 35 35 rfl rfl (fun _ _ _ _ _ _ us hl => match us, hl with | [_, _], _ => rfl)
theorem d60 (X : K.In h) (G : h.Ns mainGlobals mg) (c : He.SaysD fa fn K) : Df K mg "_law_order" (top 60) ["_law_row", "_law_xs"] := df_of X G c 36 36 rfl rfl (fun _ _ _ _ _ _ us hl => match us, hl with | [_, _], _ => rfl)
theorem d61 (X : K.In h) (G : h.Ns mainGlobals mg) (c : He.SaysD fa fn K) : Df K mg "_law_right" (top 61) ["_law_many_here", "_law_row", "_law_numbers_here"] := df_of X G c 37 37 rfl rfl (fun _ _ _ _ _ _ us hl => match us, hl with | [_, _, _], _ => rfl)
theorem d62 (X : K.In h) (G : h.Ns mainGlobals mg) (c : He.SaysD fa fn K) : Df K mg "_law_one_right" (top 62) ["_law_many_here", "_law_row", "_law_number", "_law_lots"] := df_of X G c 38 38 rfl rfl (fun _ _ _ _ _ _ us hl => match us, hl with | [_, _, _, _], _ => rfl)
theorem d63 (X : K.In h) (G : h.Ns mainGlobals mg) (c : He.SaysD fa fn K) : Df K mg "law" (top 63) ["_law_script"] := df_of X G c 39 39 rfl rfl (fun _ _ _ _ _ _ us hl => match us, hl with | [_], _ => rfl)
theorem dPI (X : K.In h) (G : h.Ns mainGlobals mg) (c : He.SaysD fa fn K) : Di K mg "Pile" "Pile.__init__" (mS 0) ["self", "many"] (He.ga K "Pile") := di_of X G c 40 60 56 rfl rfl rfl (fun _ _ _ _ _ _ us hl => match us, hl with | [_, _], _ => rfl)
theorem dP1 (c : He.SaysD fa fn K) : Dm K "join" "Pile.join" (mS 1) ["self", "x", "y"] (He.ga K "Pile") := dm_of c 41 61 57 rfl rfl rfl (fun _ _ _ _ _ _ us hl => match us, hl with | [_, _, _], _ => rfl)
theorem dP4 (c : He.SaysD fa fn K) : Dm K "ups" "Pile.ups" (mS 4) ["self"] (He.ga K "Pile") := dm_of c 42 62 57 rfl rfl rfl (fun _ _ _ _ _ _ us hl => match us, hl with | [_], _ => rfl)
theorem dP5 (c : He.SaysD fa fn K) : Dm K "lots" "Pile.lots" (mS 5) ["self"] (He.ga K "Pile") := dm_of c 43 63 57 rfl rfl rfl (fun _ _ _ _ _ _ us hl => match us, hl with | [_], _ => rfl)
theorem dP6 (c : He.SaysD fa fn K) : Dm K "joins" "Pile.joins" (mS 6) ["self"] (He.ga K "Pile") := dm_of c 44 64 57 rfl rfl rfl (fun _ _ _ _ _ _ us hl => match us, hl with | [_], _ => rfl)
/-- the law's object keeps its promise -/
theorem law_ok (X : K.In h) (G : h.Ns mainGlobals mg) {fp : Addr} (hfa : mg ("law" : Str) = some (.ref fp)) (s : He.SaysX fa fn [] tf ex w h K) (l : PySem.W.OpenLaw) : LawAtS l w K CX0 11 63 "_law_script" mg fp h := by
  have c : He.SaysD fa fn K := s.t.d
  have Tt : Tx K mg := tx_of X G c s.more
  have R_ : Row K mg := dR X G c
  have CL := cl_of c
  obtain ⟨fp', fd, F, hm, bL⟩ := (d63 X G c).ex
  obtain rfl : fp' = fp := by
    have e := hm.symm.trans hfa
    cases e
    rfl
  have ne : (He.cT K ("check_joins", none)).2 ≠ (He.cT K ("run", none)).2 := fun z => by
    obtain ⟨_, e2⟩ := He.ba s.more
    obtain ⟨_, e3⟩ := He.ba e2
    rw [z] at e3
    simp at e3
  refine ⟨fd, tf.map (He.cT K), sp63 K [((He.cT K ("check_joins", none)).2, lq "check_joins"), ((He.cT K ("run", none)).2, lq "run")], fun p hp => ?_, fun p hp => ?_, fun p hp => ?_, fun s' u => ?_, fun H a ns hl _ hT hS => ⟨a, ns, rfl, hS, by omega, fun p hp => ?_, fun _ => rfl⟩, fun base XB GB TB => ?_⟩
  · obtain ⟨d, hd, rfl⟩ := List.mem_map.mp hp
    exact s.empty d hd
  · obtain ⟨d, hd, rfl⟩ := List.mem_map.mp hp
    exact s.out d hd
  · obtain ⟨d, hd, rfl⟩ := List.mem_map.mp hp
    exact PySem.W.codeHd_of_K X (s.hd d hd)
  · obtain ⟨oc, od, kV, doc, pm, an, cdv, ct, osl, e, lk, hc⟩ := F.ex
    rw [e]
    exact .of_eq rfl
  · simp only [List.mem_cons, List.not_mem_nil, or_false] at hp
    rcases hp with rfl | rfl
    · exact TabS.nil (hT (He.cT K ("check_joins", none)) (List.mem_map.mpr ⟨("check_joins", none), by simp [tf], rfl⟩))
    · exact TabS.nil (hT (He.cT K ("run", none)) (List.mem_map.mpr ⟨("run", none), by simp [tf], rfl⟩))
  · have tb1 : TabB base mg (He.codeOf K ("check_joins", none)) (He.cT K ("check_joins", none)).2 := TB (He.cT K ("check_joins", none)) (List.mem_map.mpr ⟨("check_joins", none), by simp [tf], rfl⟩)
    have tb2 : TabB base mg (He.codeOf K ("run", none)) (He.cT K ("run", none)).2 := TB (He.cT K ("run", none)) (List.mem_map.mpr ⟨("run", none), by simp [tf], rfl⟩)
    generalize hT1 : (He.cT K ("check_joins", none)).2 = P1 at ne tb1
    generalize hT2 : (He.cT K ("run", none)).2 = P2 at ne tb2
    have c12 := ok12 (P := l.prog) (w := w) (base := base) (d12 X G c) Tt
    have c13 := ok13 (d13 X G c) c12
    have c14 := ok14 (P := l.prog) (w := w) (base := base) (d14 X G c)
    have c15 := ok15 (d15 X G c) Tt c12 c14
    have c16 := ok16 (d16 X G c) c15
    have c17 := ok17 (d17 X G c) Tt c14 c16
    have c20 := ok20 (P := l.prog) (w := w) (base := base) (d20 X G c) Tt
    have c21 := ok21 (d21 X G c) c20
    have c22 := ok22 (P := l.prog) (w := w) (base := base) (d22 X G c)
    have c24 := ok24 (d24 X G c) Tt c22
    have c26 := ok26 (d26 X G c) c24
    have c30 := ok30 (P := l.prog) (w := w) (base := base) (d30 X G c) Tt
    have c31 := ok31 (d31 X G c) Tt c30
    have c32 := ok32 (P := l.prog) (w := w) (base := base) (d32 X G c) Tt
    have c33 := ok33 (d33 X G c) c32
    have c34 := ok34 (d34 X G c) Tt c31 c33 c21
    have c36 := ok36 (d36 X G c) c30
    have c37 := ok37 (P := l.prog) (w := w) (base := base) (d37 X G c) Tt
    have c38 := ok38 (d38 X G c) Tt c36 c37
    have c39 := ok39 (d39 X G c) Tt c36
    have hu1 : ∀ p ∈ [(P1, lq "check_joins"), (P2, lq "run")], p.1 = P1 → p.2 = lq "check_joins" := fun p hp e => by
      simp only [List.mem_cons, List.not_mem_nil, or_false] at hp
      rcases hp with rfl | rfl
      · rfl
      · exact absurd e.symm ne
    have hu2 : ∀ p ∈ [(P1, lq "check_joins"), (P2, lq "run")], p.1 = P2 → p.2 = lq "run" := fun p hp e => by
      simp only [List.mem_cons, List.not_mem_nil, or_false] at hp
      rcases hp with rfl | rfl
      · exact absurd e ne
      · rfl
    have c41 := ok41 (d41 X G c) Tt R_ tb1 (T := [(P1, lq "check_joins"), (P2, lq "run")]) (by simp) hu1 c31 c39
    have c42 := ok42 (P := l.prog) (w := w) (base := base) (d42 X G c) Tt
    have c43 := ok43 (d43 X G c) c26 c42
    have c44 := ok44 (d44 X G c) Tt R_ tb2 (T := [(P1, lq "check_joins"), (P2, lq "run")]) (by simp) hu2 c38 c43
    have c46 := ok46 (d46 X G c) Tt c34 c44
    have c47 := ok47 (d47 X G c) Tt c12 c41 c46
    have cI := okI (dPI X G c) CL c34
    have cJ := okJ (dP1 c) CL Tt c13 c43
    have cU := okU (P := l.prog) (w := w) (mg := mg) (base := base) (dP4 c) CL
    have cL := okLo (dP5 c) CL c17
    have cJs := okJs (P := l.prog) (w := w) (base := base) (dP6 c) CL Tt
    have c51 := ok51 (P := l.prog) (w := w) (base := base) (d51 X G c) Tt
    have c52 := ok52 (P := l.prog) (w := w) (base := base) (d52 X G c) Tt
    have c53 := ok53 (P := l.prog) (w := w) (base := base) (d53 X G c) Tt
    have c54 := ok54 (d54 X G c) Tt c51 c52
    have c55 := ok55 (P := l.prog) (w := w) (base := base) (d55 X G c) Tt
    have c56 := ok56 (d56 X G c) cI cJ
    have c57 := ok57 (P := l.prog) (w := w) (base := base) (d57 X G c) Tt
    have c58 := ok58 (d58 X G c) Tt c47
    have c59 := ok59 (d59 X G c) Tt c56 cL c55
    have c60 := ok60 (P := l.prog) (w := w) (base := base) (d60 X G c) Tt
    have c61 := ok61 (d61 X G c) Tt c56 c57 c58 cU cL cJs
    have c62 := ok62 (d62 X G c) Tt c47 c56 c57 cU cL
    refine F.ok sc63 (fun vs H Q E z => ?_) (fun cdv A outer s H vs Q E hr z => ?_)
    · obtain ⟨a, ns, rfl, _⟩ := z
      rfl
    · obtain ⟨t, ht, hq⟩ := body63 (E := E) hr z Tt c51 c52 c53 c54 c56 c59 c60 c61 c62 cL
      exact ⟨t, ht, hq⟩
end
end LH
/-! LhAG -/
set_option Elab.async false
set_option linter.all false
set_option maxRecDepth 100000
set_option maxHeartbeats 0
open PySem PySem.W PySem.Calls PyProof.Rows
theorem PySem.Challenge.cw_lotheads_k89_whole_joins_left_out_holds : PySem.Challenge.rw_lotheads_k89_whole_joins_left_out.Holds := by
  w_on; o_law
  refine HandSHeadRun.head_any (r := OpenLaw.row PySem.Challenge.rw_lotheads_k89_whole_joins_left_out) (q := view (OpenLaw.row PySem.Challenge.rw_lotheads_k89_whole_joins_left_out).prog [63]) (H := LH.hk) (ob := LH.ob) (M := 20000) (loose := LH.loose) (d := HandSHeadRun.topDef (OpenLaw.row PySem.Challenge.rw_lotheads_k89_whole_joins_left_out).prog 63) (kwd := []) LH.ob_eq
    (by kernel_rfl) (fun s => by kernel_rfl) LH.run (by kernel_rfl) (by kernel_rfl) (by kernel_rfl) (by rfl) (by first | assumption | decide +kernel) (by decide +kernel) ⟨rfl, rfl, rfl, rfl, rfl, by decide +kernel⟩ ?hw ?hc
  case hw => w_witness2
  case hc =>
    refine LamX.walk_ofTsE (l := PySem.Challenge.rw_lotheads_k89_whole_joins_left_out) (n := 63) (k := 11) (x := "_law_script") (CX := fun _ => L2.CX0) rfl (by decide) (by kernel_rfl) ⟨rfl, by decide, by decide⟩ ?F (fun _ _ _ _ _ z => z)
    intro w mg fa h Y G hmg0
    obtain ⟨K, KX, c⟩ := Y
    have hmg : mg ("law" : PySem.Str) = some (.ref fa) := by
      have e : (HandSHeadRun.topDef (OpenLaw.row PySem.Challenge.rw_lotheads_k89_whole_joins_left_out).prog 63).name = ("law" : PySem.Str) := by kernel_rfl
      rw [← e]
      exact hmg0
    exact ⟨K, KX, LH.law_ok KX G hmg c _⟩
