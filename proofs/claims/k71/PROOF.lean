import PyProof.Rows.All
import Wide.All
import OpenK.AllK
import Wide.FinOn
import HandS.ForMost
import HandS.Style
import HandS.Deep
import HandS.IsInst
import HandS.WideBits
import HandS.SetFor
import HandS.Strs
import HandS.Conv
import HandS.More
import HandS.TupSets
import HandS.DictTup
import HandS.Walk
import KE.GoesNew
import KE.SortData
import PyProof.ReprRoads
import PySem.Challenge.RW_twoabove_k71_whole_ends_by_walking_all_o
set_option Elab.async false
set_option linter.all false
set_option maxRecDepth 100000
set_option maxHeartbeats 0
namespace TA
/-! ### small facts about lists -/
abbrev Plc := Nat × Nat
abbrev g (l : List Nat) (i : Nat) : Nat := l.getD i 0
abbrev gk (l : List (List Nat)) (i : Nat) : List Nat := l.getD i []
abbrev gp (l : List (List Plc)) (i : Nat) : List Plc := l.getD i []
theorem getD_lt {α : Type} {l : List α} {i : Nat} (d : α) (h : i < l.length) : l.getD i d = l[i] := by
  rw [List.getD_eq_getElem?_getD, List.getElem?_eq_getElem h]; rfl
theorem getD_some {α : Type} {l : List α} {i : Nat} {x : α} (d : α) (h : l[i]? = some x) : l.getD i d = x := by
  rw [List.getD_eq_getElem?_getD, h]; rfl
theorem some_getD {α : Type} {l : List α} {i : Nat} (d : α) (h : i < l.length) : l[i]? = some (l.getD i d) := by
  rw [getD_lt d h, List.getElem?_eq_getElem h]
theorem getD_mem {α : Type} {l : List α} {i : Nat} (d : α) (h : i < l.length) : l.getD i d ∈ l := by
  rw [getD_lt d h]; exact List.getElem_mem h
theorem mem_getD {α : Type} {l : List α} {x : α} (d : α) (h : x ∈ l) : ∃ i, i < l.length ∧ l.getD i d = x := by
  obtain ⟨i, hi, e⟩ := List.getElem_of_mem h
  exact ⟨i, hi, (getD_lt d hi).trans e⟩
theorem g_set {l : List Nat} {i j v : Nat} (h : i < l.length) : g (l.set i v) j = if j = i then v else g l j := by
  unfold g
  rw [List.getD_eq_getElem?_getD, List.getElem?_set, List.getD_eq_getElem?_getD]
  by_cases e : i = j
  · subst e; simp [h]
  · have : ¬ j = i := fun q => e q.symm
    simp [e, this]
/-- the least -/
def mn : List Nat → Nat
  | [] => 0
  | [x] => x
  | x :: y :: r => min x (mn (y :: r))
theorem mn_le : ∀ {l : List Nat} {y : Nat}, y ∈ l → mn l ≤ y
  | [], _, h => by simp at h
  | [x], y, h => by
    have : y = x := by simpa using h
    subst this; exact Nat.le_refl _
  | x :: z :: r, y, h => by
    show min x (mn (z :: r)) ≤ y
    rcases List.mem_cons.mp h with e | h
    · subst e; exact Nat.min_le_left _ _
    · exact Nat.le_trans (Nat.min_le_right _ _) (mn_le h)
theorem mn_mem : ∀ {l : List Nat}, l ≠ [] → mn l ∈ l
  | [], h => (h rfl).elim
  | [x], _ => by simp [mn]
  | x :: z :: r, _ => by
    show min x (mn (z :: r)) ∈ _
    have ih : mn (z :: r) ∈ z :: r := mn_mem (by simp)
    by_cases h : x ≤ mn (z :: r)
    · rw [Nat.min_eq_left h]; exact List.mem_cons_self
    · rw [Nat.min_eq_right (by omega)]; exact List.mem_cons_of_mem _ ih
theorem mn_eq {l : List Nat} {m : Nat} (h1 : m ∈ l) (h2 : ∀ y ∈ l, m ≤ y) : m = mn l :=
  Nat.le_antisymm (h2 _ (mn_mem (List.ne_nil_of_mem h1))) (mn_le h1)
/-- the least number of a board on a kind -/
def minOn (h : List Nat) (kind : List Nat) : Nat := mn (kind.map (g h))
theorem minOn_le {h kind : List Nat} {s : Nat} (hs : s ∈ kind) : minOn h kind ≤ g h s := mn_le (List.mem_map.mpr ⟨s, hs, rfl⟩)
theorem minOn_mem {h kind : List Nat} (hk : kind ≠ []) : ∃ s, s ∈ kind ∧ g h s = minOn h kind := by
  have : mn (kind.map (g h)) ∈ kind.map (g h) := mn_mem (by simpa using hk)
  obtain ⟨s, h1, h2⟩ := List.mem_map.mp this
  exact ⟨s, h1, h2⟩
theorem minOn_mono {h w kind : List Nat} (hk : kind ≠ []) (le : ∀ s ∈ kind, g h s ≤ g w s) : minOn h kind ≤ minOn w kind := by
  obtain ⟨s, h1, h2⟩ := minOn_mem (h := w) hk
  rw [← h2]
  exact Nat.le_trans (minOn_le h1) (le s h1)
/-- the places that a delivery of the kind can take -/
def able (kind b w : List Nat) : List Plc := kind.flatMap fun s => (List.range' (g b s) (min (g w s) (minOn w kind + 1) - g b s)).map fun l => (s, l)
theorem mem_able {kind b w : List Nat} {q : Plc} : q ∈ able kind b w ↔ q.1 ∈ kind ∧ g b q.1 ≤ q.2 ∧ q.2 < g w q.1 ∧ q.2 ≤ minOn w kind := by
  obtain ⟨s, l⟩ := q
  unfold able
  constructor
  · intro h
    obtain ⟨s', h1, h2⟩ := List.mem_flatMap.mp h
    obtain ⟨l', h3, h4⟩ := List.mem_map.mp h2
    cases h4
    have h5 := List.mem_range'_1.mp h3
    refine ⟨h1, h5.1, ?_, ?_⟩ <;> simp only <;> omega
  · rintro ⟨h1, h2, h3, h4⟩
    refine List.mem_flatMap.mpr ⟨s, h1, List.mem_map.mpr ⟨l, List.mem_range'_1.mpr ?_, rfl⟩⟩
    simp only at h1 h2 h3 h4
    omega
/-- the law's own places -/
def able' (kind b w : List Nat) : List Plc := kind.flatMap fun s => ((List.range' (g b s) (g w s - g b s)).filter fun l => decide (l ≤ minOn w kind)).map fun l => (s, l)
theorem mem_able' {kind b w : List Nat} {q : Plc} : q ∈ able' kind b w ↔ q.1 ∈ kind ∧ g b q.1 ≤ q.2 ∧ q.2 < g w q.1 ∧ q.2 ≤ minOn w kind := by
  obtain ⟨s, l⟩ := q
  unfold able'
  constructor
  · intro h
    obtain ⟨s', h1, h2⟩ := List.mem_flatMap.mp h
    obtain ⟨l', h3, h4⟩ := List.mem_map.mp h2
    cases h4
    obtain ⟨h5, h6⟩ := List.mem_filter.mp h3
    have h5 := List.mem_range'_1.mp h5
    have h6 := of_decide_eq_true h6
    refine ⟨h1, h5.1, ?_, h6⟩
    simp only
    omega
  · rintro ⟨h1, h2, h3, h4⟩
    simp only at h1 h2 h3 h4
    refine List.mem_flatMap.mpr ⟨s, h1, List.mem_map.mpr ⟨l, List.mem_filter.mpr ⟨List.mem_range'_1.mpr ?_, decide_eq_true h4⟩, rfl⟩⟩
    omega
theorem able_iff {kind b w : List Nat} {q : Plc} : q ∈ able' kind b w ↔ q ∈ able kind b w := by rw [mem_able, mem_able']
/-! ### dealings, crowds -/
structure Fit (n : Nat) (kinds : List (List Nat)) (b c w : List Nat) : Prop where
  n2 : 2 ≤ n
  n4 : n ≤ 4
  k1 : 1 ≤ kinds.length
  k3 : kinds.length ≤ 3
  ne : ∀ k ∈ kinds, k ≠ []
  lt : ∀ k ∈ kinds, ∀ s ∈ k, s < n
  inc : ∀ k ∈ kinds, k.Pairwise (· < ·)
  bl : b.length = n
  wl : w.length = n
  cl : c.length = kinds.length
  le : ∀ s, g b s ≤ g w s
  sum : w.sum = b.sum + c.sum
  b2 : ∀ x ∈ b, x ≤ 2
  c2 : ∀ x ∈ c, x ≤ 2
structure IsDeal (kinds : List (List Nat)) (b c w : List Nat) (D : List (List Plc)) : Prop where
  len : D.length = c.length
  many : ∀ p, p < c.length → (gp D p).length = g c p
  each : ∀ p, p < c.length → ∀ q ∈ gp D p, q ∈ able (gk kinds p) b w
  nd : D.flatten.Nodup
structure IsCrowd (kinds : List (List Nat)) (b c w lot : List Nat) : Prop where
  inc : lot.Pairwise (· < ·)
  lt : ∀ p ∈ lot, p < c.length
  more : ∀ U : List Plc, U.Nodup → (∀ q ∈ U, ∃ p ∈ lot, q ∈ able (gk kinds p) b w) → U.length < (lot.map (g c)).sum
theorem pairwise_at {α : Type} {R : α → α → Prop} {l : List α} (h : l.Pairwise R) {i j : Nat} (d : α) (hij : i < j) (hj : j < l.length) : R (l.getD i d) (l.getD j d) := by
  rw [getD_lt d (Nat.lt_trans hij hj), getD_lt d hj]
  exact List.pairwise_iff_getElem.mp h i j (Nat.lt_trans hij hj) hj hij
theorem deal_crowd {kinds : List (List Nat)} {b c w lot : List Nat} {D : List (List Plc)} (hD : IsDeal kinds b c w D) (hC : IsCrowd kinds b c w lot) : False := by
  have hnd : (lot.map (gp D)).flatten.Nodup := by
    have h := List.pairwise_flatten.mp hD.nd
    refine List.pairwise_flatten.mpr ⟨fun l hl => ?_, List.pairwise_map.mpr (List.Pairwise.imp_of_mem ?_ hC.inc)⟩
    · obtain ⟨p, hp, rfl⟩ := List.mem_map.mp hl
      exact h.1 _ (getD_mem [] (by rw [hD.len]; exact hC.lt p hp))
    · intro p q hp hq hpq
      exact pairwise_at h.2 [] hpq (by rw [hD.len]; exact hC.lt q hq)
  have hlt := hC.more _ hnd fun q hq => by
    obtain ⟨l, hl, hql⟩ := List.mem_flatten.mp hq
    obtain ⟨p, hp, rfl⟩ := List.mem_map.mp hl
    exact ⟨p, hp, hD.each p (hC.lt p hp) q hql⟩
  rw [List.length_flatten, List.map_map] at hlt
  have e : lot.map (List.length ∘ gp D) = lot.map (g c) := List.map_congr_left fun p hp => hD.many p (hC.lt p hp)
  rw [e] at hlt
  exact Nat.lt_irrefl _ hlt
/-! ### histories -/
def bump (l : List Nat) (i : Nat) : List Nat := l.set i (g l i + 1)
theorem bump_length (l : List Nat) (i : Nat) : (bump l i).length = l.length := by simp [bump]
theorem g_bump {l : List Nat} {i j : Nat} (h : i < l.length) : g (bump l i) j = if j = i then g l i + 1 else g l j := g_set h
theorem sum_set_le : ∀ {l : List Nat} {i v : Nat}, i < l.length → (l.set i v).sum + g l i = l.sum + v
  | [], _, _, h => by simp at h
  | a :: r, 0, v, _ => by simp [g]; omega
  | a :: r, i + 1, v, h => by
    have ih := sum_set_le (l := r) (i := i) (v := v) (by simpa using h)
    simp only [List.set_cons_succ, List.sum_cons]
    have : g (a :: r) (i + 1) = g r i := by simp [g]
    rw [this]; omega
theorem sum_bump {l : List Nat} {i : Nat} (h : i < l.length) : (bump l i).sum = l.sum + 1 := by
  have := sum_set_le (v := g l i + 1) h
  unfold bump; omega
structure Legal (kinds : List (List Nat)) (h : List Nat) (p s : Nat) : Prop where
  hp : p < kinds.length
  hs : s ∈ gk kinds p
  at_ : g h s = minOn h (gk kinds p)
def Hist (kinds : List (List Nat)) : List Nat → List (Nat × Nat) → List Nat → Prop
  | b, [], w => b = w
  | b, e :: r, w => Legal kinds b e.1 e.2 ∧ Hist kinds (bump b e.2) r w
def usedFrom (u : List Nat) (hist : List (Nat × Nat)) : List Nat := hist.foldl (fun u e => bump u e.1) u
def usedOf (k : Nat) (hist : List (Nat × Nat)) : List Nat := usedFrom (List.replicate k 0) hist
theorem Hist.snoc {kinds : List (List Nat)} : ∀ {hist : List (Nat × Nat)} {b h : List Nat} {p s : Nat}, Hist kinds b hist h → Legal kinds h p s → Hist kinds b (hist ++ [(p, s)]) (bump h s)
  | [], b, h, p, s, hh, l => by
    have e : b = h := hh
    subst e
    exact ⟨l, rfl⟩
  | e :: r, b, h, p, s, hh, l => ⟨hh.1, Hist.snoc hh.2 l⟩
theorem usedFrom_snoc (u : List Nat) (hist : List (Nat × Nat)) (e : Nat × Nat) : usedFrom u (hist ++ [e]) = bump (usedFrom u hist) e.1 := by
  unfold usedFrom; rw [List.foldl_append]; rfl
theorem usedFrom_length (u : List Nat) (hist : List (Nat × Nat)) : (usedFrom u hist).length = u.length := by
  unfold usedFrom
  induction hist generalizing u with
  | nil => rfl
  | cons e r ih => rw [List.foldl_cons, ih, bump_length]
theorem Hist.le {kinds : List (List Nat)} {n : Nat} (hk : ∀ k ∈ kinds, ∀ s ∈ k, s < n) : ∀ {hist : List (Nat × Nat)} {b w : List Nat}, b.length = n → Hist kinds b hist w → (∀ s, g b s ≤ g w s) ∧ w.length = n ∧ w.sum = b.sum + hist.length
  | [], b, w, hb, h => by
    have e : b = w := h
    subst e
    exact ⟨fun s => Nat.le_refl _, hb, by simp⟩
  | e :: r, b, w, hb, h => by
    have hs : e.2 < b.length := by rw [hb]; exact hk _ (getD_mem [] h.1.hp) _ h.1.hs
    obtain ⟨h1, h2, h3⟩ := Hist.le hk (by rw [bump_length]; exact hb) h.2
    refine ⟨fun s => Nat.le_trans ?_ (h1 s), h2, ?_⟩
    · rw [g_bump hs]
      by_cases q : s = e.2
      · rw [if_pos q, q]; omega
      · rw [if_neg q]; exact Nat.le_refl _
    · rw [h3, sum_bump hs, List.length_cons]; omega
/-- the places that a history takes, with the positions -/
def takes : List Nat → List (Nat × Nat) → List (Nat × Plc)
  | _, [] => []
  | b, e :: r => (e.1, (e.2, g b e.2)) :: takes (bump b e.2) r
theorem takes_ok {kinds : List (List Nat)} {n : Nat} (hne : ∀ k ∈ kinds, k ≠ []) (hk : ∀ k ∈ kinds, ∀ s ∈ k, s < n) : ∀ {hist : List (Nat × Nat)} {b w : List Nat}, b.length = n → Hist kinds b hist w →
    (∀ x ∈ takes b hist, x.2 ∈ able (gk kinds x.1) b w) ∧ ((takes b hist).map (·.2)).Nodup ∧ (takes b hist).map (·.1) = hist.map (·.1)
  | [], b, w, hb, h => ⟨by simp [takes], by simp [takes], rfl⟩
  | e :: r, b, w, hb, h => by
    have hs : e.2 < b.length := by rw [hb]; exact hk _ (getD_mem [] h.1.hp) _ h.1.hs
    have hb' : (bump b e.2).length = n := by rw [bump_length]; exact hb
    obtain ⟨h1, h2, h3⟩ := takes_ok hne hk hb' h.2
    obtain ⟨m1, m2, _⟩ := Hist.le hk hb' h.2
    have up : ∀ s, g b s ≤ g (bump b e.2) s := fun s => by
      rw [g_bump hs]
      by_cases q : s = e.2
      · rw [if_pos q, q]; omega
      · rw [if_neg q]; exact Nat.le_refl _
    have self : g (bump b e.2) e.2 = g b e.2 + 1 := by rw [g_bump hs, if_pos rfl]
    refine ⟨fun x hx => ?_, ?_, ?_⟩
    · rcases List.mem_cons.mp hx with rfl | hx
      · refine mem_able.mpr ⟨h.1.hs, Nat.le_refl _, ?_, ?_⟩
        · have := m1 e.2; rw [self] at this; simp only; omega
        · show g b e.2 ≤ _
          rw [h.1.at_]
          exact minOn_mono (hne _ (getD_mem [] h.1.hp)) fun s _ => Nat.le_trans (up s) (m1 s)
      · obtain ⟨q1, q2, q3, q4⟩ := mem_able.mp (h1 x hx)
        exact mem_able.mpr ⟨q1, Nat.le_trans (up _) q2, q3, q4⟩
    · show ((e.2, g b e.2) :: (takes (bump b e.2) r).map (·.2)).Nodup
      refine List.nodup_cons.mpr ⟨fun hm => ?_, h2⟩
      obtain ⟨x, hx, ex⟩ := List.mem_map.mp hm
      obtain ⟨_, q2, _, _⟩ := mem_able.mp (h1 x hx)
      rw [ex] at q2
      simp only at q2
      rw [self] at q2
      omega
    · show e.1 :: (takes (bump b e.2) r).map (·.1) = e.1 :: r.map (·.1)
      rw [h3]
theorem sum_map_bump : ∀ {lot : List Nat} {u : List Nat} {p : Nat}, p < u.length → lot.Nodup → (lot.map (g (bump u p))).sum = (lot.map (g u)).sum + (if p ∈ lot then 1 else 0)
  | [], u, p, _, _ => by simp
  | a :: r, u, p, hp, hn => by
    obtain ⟨h1, h2⟩ := List.nodup_cons.mp hn
    have ih := sum_map_bump (lot := r) hp h2
    rw [List.map_cons, List.sum_cons, List.map_cons, List.sum_cons, ih, g_bump hp]
    by_cases q : a = p
    · subst q
      rw [if_pos rfl, if_neg h1, if_pos List.mem_cons_self]; omega
    · rw [if_neg q]
      by_cases z : p ∈ r
      · rw [if_pos z, if_pos (List.mem_cons_of_mem _ z)]; omega
      · have : ¬ p ∈ a :: r := fun m => by
          rcases List.mem_cons.mp m with e | e
          · exact q e.symm
          · exact z e
        rw [if_neg z, if_neg this]; omega
theorem used_count {lot : List Nat} (hn : lot.Nodup) : ∀ {hist : List (Nat × Nat)} {u : List Nat}, (∀ e ∈ hist, e.1 < u.length) → (lot.map (g (usedFrom u hist))).sum = (lot.map (g u)).sum + (hist.map (·.1)).countP (fun p => decide (p ∈ lot))
  | [], u, _ => by simp [usedFrom]
  | e :: r, u, h => by
    have he := h e List.mem_cons_self
    have ih := used_count hn (hist := r) (u := bump u e.1) (fun x hx => by rw [bump_length]; exact h x (List.mem_cons_of_mem _ hx))
    show (lot.map (g (usedFrom (bump u e.1) r))).sum = _
    rw [ih, sum_map_bump he hn, List.map_cons, List.countP_cons]
    by_cases q : e.1 ∈ lot
    · simp [q]; omega
    · simp [q]
theorem Hist.pos {kinds : List (List Nat)} : ∀ {hist : List (Nat × Nat)} {b w : List Nat}, Hist kinds b hist w → ∀ e ∈ hist, e.1 < kinds.length
  | [], _, _, _, e, he => by simp at he
  | x :: r, b, w, h, e, he => by
    rcases List.mem_cons.mp he with rfl | he
    · exact h.1.hp
    · exact Hist.pos h.2 e he
theorem sum_map_zero (k : Nat) : ∀ lot : List Nat, (lot.map (g (List.replicate k 0))).sum = 0
  | [] => rfl
  | a :: r => by
    have e : g (List.replicate k 0) a = 0 := by
      unfold g; rw [List.getD_eq_getElem?_getD, List.getElem?_replicate]; split <;> rfl
    rw [List.map_cons, List.sum_cons, sum_map_zero k r, e]
/-- a history of just these deliveries shuts out a crowd -/
theorem hist_crowd {n : Nat} {kinds : List (List Nat)} {b c w lot : List Nat} {hist : List (Nat × Nat)} (hne : ∀ k ∈ kinds, k ≠ []) (hk : ∀ k ∈ kinds, ∀ s ∈ k, s < n) (hb : b.length = n)
    (hh : Hist kinds b hist w) (hu : usedOf kinds.length hist = c) (hC : IsCrowd kinds b c w lot) : False := by
  obtain ⟨h1, h2, h3⟩ := takes_ok hne hk hb hh
  have hln : lot.Nodup := hC.inc.imp fun h => Nat.ne_of_lt h
  let T := (takes b hist).filter fun x => decide (x.1 ∈ lot)
  have hlt := hC.more (T.map (·.2)) (h2.sublist (List.Sublist.map _ List.filter_sublist)) fun q hq => by
    obtain ⟨x, hx, rfl⟩ := List.mem_map.mp hq
    obtain ⟨hx1, hx2⟩ := List.mem_filter.mp hx
    exact ⟨x.1, of_decide_eq_true hx2, h1 x hx1⟩
  have hcnt := used_count hln (hist := hist) (u := List.replicate kinds.length 0) (fun e he => by rw [List.length_replicate]; exact hh.pos e he)
  rw [sum_map_zero, ← h3, List.countP_map] at hcnt
  have e : usedFrom (List.replicate kinds.length 0) hist = c := hu
  rw [e, List.countP_eq_length_filter] at hcnt
  rw [List.length_map, hcnt] at hlt
  have : T.length = ((takes b hist).filter ((fun p => decide (p ∈ lot)) ∘ fun x => x.1)).length := rfl
  rw [this] at hlt
  omega
end TA
namespace TA
/-! ### a dealing gives a history (way_of's loop) -/
theorem sum_sub {α : Type} {f h : α → Nat} : ∀ {l : List α}, (∀ x ∈ l, h x ≤ f x) → (l.map fun x => f x - h x).sum + (l.map h).sum = (l.map f).sum
  | [], _ => rfl
  | a :: r, hl => by
    have ih := sum_sub (l := r) fun x hx => hl x (List.mem_cons_of_mem _ hx)
    have := hl a List.mem_cons_self
    simp only [List.map_cons, List.sum_cons]
    omega
theorem map_g_range (w : List Nat) : (List.range w.length).map (g w) = w := by
  refine List.ext_getElem (by simp) fun i h1 h2 => ?_
  rw [List.getElem_map, List.getElem_range]
  exact getD_lt 0 h2
theorem list_ext_g {l m : List Nat} (hl : l.length = m.length) (h : ∀ p, p < m.length → g l p = g m p) : l = m := by
  refine List.ext_getElem hl fun i h1 h2 => ?_
  have := h i h2
  unfold g at this
  rw [getD_lt 0 h1, getD_lt 0 h2] at this
  exact this
def allP (n : Nat) (b w : List Nat) : List Plc := (List.range n).flatMap fun s => (List.range' (g b s) (g w s - g b s)).map fun l => (s, l)
theorem mem_allP {n : Nat} {b w : List Nat} {s l : Nat} : (s, l) ∈ allP n b w ↔ s < n ∧ g b s ≤ l ∧ l < g w s := by
  unfold allP
  constructor
  · intro h
    obtain ⟨s', h1, h2⟩ := List.mem_flatMap.mp h
    obtain ⟨l', h3, h4⟩ := List.mem_map.mp h2
    cases h4
    have h5 := List.mem_range'_1.mp h3
    exact ⟨List.mem_range.mp h1, h5.1, by omega⟩
  · rintro ⟨h1, h2, h3⟩
    exact List.mem_flatMap.mpr ⟨s, List.mem_range.mpr h1, List.mem_map.mpr ⟨l, List.mem_range'_1.mpr (by omega), rfl⟩⟩
theorem allP_length {n : Nat} {b w : List Nat} (hb : b.length = n) (hw : w.length = n) (le : ∀ s, g b s ≤ g w s) : (allP n b w).length + b.sum = w.sum := by
  unfold allP
  rw [List.length_flatMap]
  have e : (List.range n).map (fun s => ((List.range' (g b s) (g w s - g b s)).map fun l => (s, l)).length) = (List.range n).map (fun s => g w s - g b s) := by
    apply List.map_congr_left
    intro s _
    simp
  rw [e]
  have := sum_sub (f := g w) (h := g b) (l := List.range n) fun x _ => le x
  have hb' : (List.range n).map (g b) = b := by subst hb; exact map_g_range b
  have hw' : (List.range n).map (g w) = w := by subst hw; exact map_g_range w
  rw [hb', hw'] at this
  exact this
theorem deal_lengths {kinds : List (List Nat)} {b c w : List Nat} {D : List (List Plc)} (hD : IsDeal kinds b c w D) : D.flatten.length = c.sum := by
  rw [List.length_flatten]
  have : D.map List.length = c := by
    refine List.ext_getElem (by rw [List.length_map]; exact hD.len) fun i h1 h2 => ?_
    rw [List.getElem_map]
    have hi : i < D.length := by rw [hD.len]; exact h2
    have := hD.many i h2
    unfold gp at this
    rw [getD_lt [] hi] at this
    rw [this]; exact getD_lt 0 h2
  rw [this]
theorem deal_covers {n : Nat} {kinds : List (List Nat)} {b c w : List Nat} {D : List (List Plc)} (F : Fit n kinds b c w) (hD : IsDeal kinds b c w D) {s l : Nat} (h1 : s < n) (h2 : g b s ≤ l) (h3 : l < g w s) : ∃ p, p < c.length ∧ (s, l) ∈ gp D p := by
  have hsub : ∀ q ∈ D.flatten, q ∈ allP n b w := fun q hq => by
    obtain ⟨x, hx, hqx⟩ := List.mem_flatten.mp hq
    obtain ⟨p, hp, rfl⟩ := mem_getD [] hx
    have hp' : p < c.length := by rw [← hD.len]; exact hp
    obtain ⟨a1, a2, a3, _⟩ := mem_able.mp (hD.each p hp' q hqx)
    have hpk : p < kinds.length := by rw [← F.cl]; exact hp'
    exact mem_allP.mpr ⟨F.lt _ (getD_mem [] hpk) _ a1, a2, a3⟩
  have hlen : D.flatten.length = (allP n b w).length := by
    have := allP_length F.bl F.wl F.le
    have := F.sum
    rw [deal_lengths hD]; omega
  have hin : (s, l) ∈ D.flatten := by
    by_cases q : (s, l) ∈ D.flatten
    · exact q
    · have hnd : ((s, l) :: D.flatten).Nodup := List.nodup_cons.mpr ⟨q, hD.nd⟩
      have := hnd.length_le_of_subset (l₂ := allP n b w) fun x hx => by
        rcases List.mem_cons.mp hx with rfl | hx
        · exact mem_allP.mpr ⟨h1, h2, h3⟩
        · exact hsub x hx
      rw [List.length_cons] at this
      omega
  obtain ⟨x, hx, hqx⟩ := List.mem_flatten.mp hin
  obtain ⟨p, hp, rfl⟩ := mem_getD [] hx
  exact ⟨p, by rw [← hD.len]; exact hp, hqx⟩
theorem deal_one {kinds : List (List Nat)} {b c w : List Nat} {D : List (List Plc)} (hD : IsDeal kinds b c w D) {p p' : Nat} {q : Plc} (hp : p < c.length) (hp' : p' < c.length) (h : q ∈ gp D p) (h' : q ∈ gp D p') : p = p' := by
  have hpw := (List.pairwise_flatten.mp hD.nd).2
  rcases Nat.lt_trichotomy p p' with z | z | z
  · exact absurd rfl (pairwise_at hpw [] z (by rw [hD.len]; exact hp') q h q h')
  · exact z
  · exact absurd rfl (pairwise_at hpw [] z (by rw [hD.len]; exact hp) q h' q h)
theorem countP_more {α : Type} [DecidableEq α] {P P' : α → Bool} {x : α} (hx : P x = false) (hx' : P' x = true) : ∀ {l : List α}, l.Nodup → (∀ y ∈ l, y ≠ x → P' y = P y) → l.countP P' = l.countP P + (if x ∈ l then 1 else 0)
  | [], _, _ => rfl
  | a :: r, hn, h => by
    obtain ⟨h1, h2⟩ := List.nodup_cons.mp hn
    have ih := countP_more hx hx' h2 fun y hy => h y (List.mem_cons_of_mem _ hy)
    rw [List.countP_cons, List.countP_cons, ih]
    by_cases q : a = x
    · subst q
      simp [hx, hx', h1]
    · have e := h a List.mem_cons_self q
      rw [e]
      by_cases z : x ∈ r
      · rw [if_pos z, if_pos (List.mem_cons_of_mem _ z)]; omega
      · have : ¬ x ∈ a :: r := fun m => by
          rcases List.mem_cons.mp m with e | e
          · exact q e.symm
          · exact z e
        rw [if_neg z, if_neg this]; omega
structure WayInv (kinds : List (List Nat)) (b c w : List Nat) (D : List (List Plc)) (here : List Nat) (way : List (Nat × Nat)) : Prop where
  hist : Hist kinds b way here
  le : ∀ s, g here s ≤ g w s
  len : here.length = w.length
  used : ∀ p, p < c.length → g (usedOf kinds.length way) p = (gp D p).countP fun q => decide (q.2 < g here q.1)
theorem way_start {n : Nat} {kinds : List (List Nat)} {b c w : List Nat} {D : List (List Plc)} (F : Fit n kinds b c w) (hD : IsDeal kinds b c w D) : WayInv kinds b c w D b [] := by
  refine ⟨rfl, F.le, F.bl.trans F.wl.symm, fun p hp => ?_⟩
  have e : (gp D p).countP (fun q => decide (q.2 < g b q.1)) = 0 := by
    rw [List.countP_eq_zero]
    intro q hq
    obtain ⟨_, a2, _, _⟩ := mem_able.mp (hD.each p hp q hq)
    simp only [decide_eq_true_eq]; omega
  rw [e]
  unfold usedOf usedFrom g
  rw [List.foldl_nil, List.getD_eq_getElem?_getD, List.getElem?_replicate]
  split <;> rfl
/-- the shelves that are not yet there -/
def leftOf (here w : List Nat) : List Nat := (List.range here.length).filter fun s => decide (g here s < g w s)
theorem mem_leftOf {here w : List Nat} {s : Nat} : s ∈ leftOf here w ↔ s < here.length ∧ g here s < g w s := by
  unfold leftOf
  rw [List.mem_filter, List.mem_range, decide_eq_true_eq]
theorem left_ne {here w : List Nat} (hl : here.length = w.length) (le : ∀ s, g here s ≤ g w s) (hne : here ≠ w) : leftOf here w ≠ [] := fun h0 => by
  refine hne (list_ext_g hl fun p hp => ?_)
  have : ¬ p ∈ leftOf here w := by rw [h0]; simp
  rw [mem_leftOf] at this
  have := le p
  omega
theorem way_step {n : Nat} {kinds : List (List Nat)} {b c w : List Nat} {D : List (List Plc)} {here : List Nat} {way : List (Nat × Nat)} {s l p : Nat} (F : Fit n kinds b c w) (hD : IsDeal kinds b c w D) (I : WayInv kinds b c w D here way)
    (hs : s ∈ leftOf here w) (hl : l = g here s) (least : ∀ x ∈ leftOf here w, l ≤ g here x) (hp : p < c.length) (hq : (s, l) ∈ gp D p) :
    WayInv kinds b c w D (bump here s) (way ++ [(p, s)]) := by
  obtain ⟨hs1, hs2⟩ := mem_leftOf.mp hs
  have hpk : p < kinds.length := by rw [← F.cl]; exact hp
  obtain ⟨a1, a2, a3, a4⟩ := mem_able.mp (hD.each p hp _ hq)
  have kne := F.ne _ (getD_mem [] hpk)
  have leg : Legal kinds here p s := by
    refine ⟨hpk, a1, Nat.le_antisymm ?_ (minOn_le a1)⟩
    obtain ⟨s', b1, b2⟩ := minOn_mem (h := here) kne
    have key : g here s ≤ g here s' := by
      by_cases z : g here s' < g w s'
      · have := least s' (mem_leftOf.mpr ⟨by rw [I.len, F.wl]; exact F.lt _ (getD_mem [] hpk) _ b1, z⟩)
        omega
      · have h1 : minOn w (gk kinds p) ≤ g w s' := minOn_le b1
        have : l ≤ minOn w (gk kinds p) := a4
        omega
    exact Nat.le_trans key (Nat.le_of_eq b2)
  refine ⟨I.hist.snoc leg, fun x => ?_, by rw [bump_length]; exact I.len, fun p' hp' => ?_⟩
  · rw [g_bump hs1]
    by_cases z : x = s
    · rw [if_pos z, z]; omega
    · rw [if_neg z]; exact I.le x
  · have hul : p < (usedOf kinds.length way).length := by
      show p < (usedFrom _ _).length
      rw [usedFrom_length, List.length_replicate]; exact hpk
    have e1 : usedOf kinds.length (way ++ [(p, s)]) = bump (usedOf kinds.length way) p := usedFrom_snoc _ _ _
    rw [e1, g_bump hul]
    have hnd : (gp D p').Nodup := (List.pairwise_flatten.mp hD.nd).1 _ (getD_mem [] (by rw [hD.len]; exact hp'))
    have e2 := countP_more (P := fun q : Plc => decide (q.2 < g here q.1)) (P' := fun q : Plc => decide (q.2 < g (bump here s) q.1)) (x := (s, l)) (by simp only [decide_eq_false_iff_not]; omega) (by simp only [decide_eq_true_eq]; rw [g_bump hs1, if_pos rfl]; omega) hnd (fun y hy hne => by
      rw [g_bump hs1]
      by_cases z : y.1 = s
      · rw [if_pos z]
        have : y.2 ≠ l := fun e => hne (Prod.ext z e)
        rw [z]
        by_cases zz : y.2 < g here s
        · rw [decide_eq_true zz, decide_eq_true (by omega)]
        · rw [decide_eq_false zz, decide_eq_false (by omega)]
      · rw [if_neg z])
    rw [e2]
    by_cases z : p' = p
    · subst z
      rw [if_pos rfl, if_pos hq, I.used p' hp']
    · rw [if_neg z, if_neg (fun m => z (deal_one hD hp' hp m hq)), I.used p' hp']; rfl
theorem way_end {n : Nat} {kinds : List (List Nat)} {b c w : List Nat} {D : List (List Plc)} {way : List (Nat × Nat)} (F : Fit n kinds b c w) (hD : IsDeal kinds b c w D) (I : WayInv kinds b c w D w way) : Hist kinds b way w ∧ usedOf kinds.length way = c := by
  refine ⟨I.hist, list_ext_g ?_ fun p hp => ?_⟩
  · show (usedFrom _ _).length = _
    rw [usedFrom_length, List.length_replicate, F.cl]
  · rw [I.used p hp, ← hD.many p hp, List.countP_eq_length]
    intro q hq
    obtain ⟨_, _, a3, _⟩ := mem_able.mp (hD.each p hp q hq)
    exact decide_eq_true a3
/-! ### dicts as lists of pairs -/
abbrev Tk := List (Plc × Nat)
def look (t : Tk) (q : Plc) : Option Nat := (t.find? fun e => decide (e.1 = q)).map (·.2)
def put (t : Tk) (q : Plc) (v : Nat) : Tk := if t.any (fun e => decide (e.1 = q)) = true then t.map (fun e => if e.1 = q then (e.1, v) else e) else t ++ [(q, v)]
def lk (t : Tk) (q : Plc) : Nat := (look t q).getD 0
theorem look_none {t : Tk} {q : Plc} : look t q = none ↔ q ∉ t.map (·.1) := by
  unfold look
  rw [Option.map_eq_none_iff, List.find?_eq_none]
  constructor
  · intro h hm
    obtain ⟨e, he, rfl⟩ := List.mem_map.mp hm
    exact h e he (decide_eq_true rfl)
  · intro h e he hd
    exact h (List.mem_map.mpr ⟨e, he, of_decide_eq_true hd⟩)
theorem look_mem {t : Tk} {q : Plc} {v : Nat} (h : look t q = some v) : (q, v) ∈ t := by
  unfold look at h
  obtain ⟨e, h1, h2⟩ := Option.map_eq_some_iff.mp h
  have := List.mem_of_find?_eq_some h1
  have hq := List.find?_some h1
  have hq := of_decide_eq_true hq
  subst h2
  rw [← hq]; exact this
theorem look_some {t : Tk} (hn : (t.map (·.1)).Nodup) {q : Plc} {v : Nat} (h : (q, v) ∈ t) : look t q = some v := by
  induction t with
  | nil => simp at h
  | cons a r ih =>
    obtain ⟨h1, h2⟩ := List.nodup_cons.mp hn
    unfold look
    rw [List.find?_cons]
    by_cases e : a.1 = q
    · rw [decide_eq_true e]
      rcases List.mem_cons.mp h with rfl | h
      · rfl
      · exact absurd (List.mem_map.mpr ⟨_, h, e.symm⟩) h1
    · rw [decide_eq_false e]
      rcases List.mem_cons.mp h with rfl | h
      · exact absurd rfl e
      · exact ih h2 h
theorem look_key {t : Tk} {q : Plc} (h : q ∈ t.map (·.1)) : ∃ v, look t q = some v ∧ (q, v) ∈ t := by
  cases e : look t q with
  | none => exact absurd h (look_none.mp e)
  | some v => exact ⟨v, rfl, look_mem e⟩
theorem lk_of {t : Tk} {q : Plc} {v : Nat} (h : look t q = some v) : lk t q = v := by unfold lk; rw [h]; rfl
theorem any_key {t : Tk} {q : Plc} : (t.any fun e => decide (e.1 = q)) = true ↔ q ∈ t.map (·.1) := by
  rw [List.any_eq_true]
  constructor
  · rintro ⟨e, he, hd⟩
    exact List.mem_map.mpr ⟨e, he, of_decide_eq_true hd⟩
  · intro h
    obtain ⟨e, he, rfl⟩ := List.mem_map.mp h
    exact ⟨e, he, decide_eq_true rfl⟩
theorem put_new {t : Tk} {q : Plc} {v : Nat} (h : q ∉ t.map (·.1)) : put t q v = t ++ [(q, v)] := by
  unfold put
  rw [if_neg fun z => h (any_key.mp z)]
theorem filter_key {t : Tk} {q : Plc} (h : q ∉ t.map (·.1)) : t.filter (fun e => decide (e.1 ≠ q)) = t := by
  rw [List.filter_eq_self]
  intro e he
  exact decide_eq_true fun z => h (List.mem_map.mpr ⟨e, he, z⟩)
theorem put_keys {t : Tk} {q : Plc} {v : Nat} (h : q ∈ t.map (·.1)) : (put t q v).map (·.1) = t.map (·.1) := by
  unfold put
  rw [if_pos (any_key.mpr h), List.map_map]
  apply List.map_congr_left
  intro e _
  show (if e.1 = q then (e.1, v) else e).1 = e.1
  split <;> rfl
theorem put_nd {t : Tk} {q : Plc} {v : Nat} (hn : (t.map (·.1)).Nodup) : ((put t q v).map (·.1)).Nodup := by
  by_cases h : q ∈ t.map (·.1)
  · rw [put_keys h]; exact hn
  · rw [put_new h, List.map_append]
    refine List.nodup_append.mpr ⟨hn, by simp, fun a ha b hb => ?_⟩
    have : b = q := by simpa using hb
    subst this
    exact fun e => h (e ▸ ha)
theorem mem_put {t : Tk} {q : Plc} {v : Nat} {e : Plc × Nat} : e ∈ put t q v ↔ e = (q, v) ∨ (e.1 ≠ q ∧ e ∈ t) := by
  by_cases h : q ∈ t.map (·.1)
  · unfold put
    rw [if_pos (any_key.mpr h)]
    constructor
    · intro he
      obtain ⟨x, hx, rfl⟩ := List.mem_map.mp he
      by_cases z : x.1 = q
      · rw [if_pos z, z]; exact .inl rfl
      · rw [if_neg z]; exact .inr ⟨z, hx⟩
    · rintro (rfl | ⟨h1, h2⟩)
      · obtain ⟨x, hx, ex⟩ := List.mem_map.mp h
        exact List.mem_map.mpr ⟨x, hx, by rw [if_pos ex, ex]⟩
      · exact List.mem_map.mpr ⟨e, h2, if_neg h1⟩
  · rw [put_new h, List.mem_append, List.mem_singleton]
    constructor
    · rintro (h1 | h1)
      · exact .inr ⟨fun z => h (List.mem_map.mpr ⟨e, h1, z⟩), h1⟩
      · exact .inl h1
    · rintro (h1 | ⟨_, h1⟩)
      · exact .inr h1
      · exact .inl h1
theorem pair_nodup {t : Tk} (hn : (t.map (·.1)).Nodup) : t.Nodup := by
  have := List.pairwise_map.mp hn
  exact this.imp fun h e => h (by rw [e])
theorem put_perm {t : Tk} {q : Plc} {v : Nat} (hn : (t.map (·.1)).Nodup) : (put t q v).Perm ((q, v) :: t.filter fun e => decide (e.1 ≠ q)) := by
  refine (List.perm_ext_iff_of_nodup (pair_nodup (put_nd hn)) (List.nodup_cons.mpr ⟨fun h => ?_, (pair_nodup hn).sublist List.filter_sublist⟩)).mpr fun e => ?_
  · exact (of_decide_eq_true (List.mem_filter.mp h).2) rfl
  · rw [mem_put, List.mem_cons, List.mem_filter, decide_eq_true_eq, and_comm (a := e ∈ t)]
theorem cut_perm {t : Tk} {q : Plc} {v : Nat} (hn : (t.map (·.1)).Nodup) (h : (q, v) ∈ t) : t.Perm ((q, v) :: t.filter fun e => decide (e.1 ≠ q)) := by
  refine (List.perm_ext_iff_of_nodup (pair_nodup hn) (List.nodup_cons.mpr ⟨fun h => ?_, (pair_nodup hn).sublist List.filter_sublist⟩)).mpr fun e => ?_
  · exact (of_decide_eq_true (List.mem_filter.mp h).2) rfl
  · rw [List.mem_cons, List.mem_filter, decide_eq_true_eq]
    constructor
    · intro he
      by_cases z : e.1 = q
      · have h1 := look_some hn h
        have h2 := look_some hn (q := e.1) (v := e.2) he
        rw [z, h1] at h2
        exact .inl (Prod.ext z (Option.some.inj h2).symm)
      · exact .inr ⟨he, z⟩
    · rintro (rfl | h1)
      · exact h
      · exact h1.1
/-! ### matchings -/
structure Match (A : Nat → List Plc) (pcs : List Nat) (m : Nat) (t : Tk) : Prop where
  nd : (t.map (·.1)).Nodup
  vals : (t.map (·.2)).Perm (List.range m)
  ok : ∀ e ∈ t, e.1 ∈ A (g pcs e.2)
structure WayOk (A : Nat → List Plc) (pcs : List Nat) (m : Nat) (t way : Tk) : Prop where
  nd : (way.map (·.1)).Nodup
  par : ∀ pre e post, way = pre ++ e :: post → e.1 ∈ A (g pcs e.2) ∧ (e.2 = m ∨ ∃ e' ∈ pre, (e'.1, e.2) ∈ t)
theorem WayOk.nil {A : Nat → List Plc} {pcs : List Nat} {m : Nat} {t : Tk} : WayOk A pcs m t [] := ⟨by simp, fun pre e post h => by simp at h⟩
theorem WayOk.snoc {A : Nat → List Plc} {pcs : List Nat} {m : Nat} {t way : Tk} {q : Plc} {p : Nat} (W : WayOk A pcs m t way) (hq : q ∉ way.map (·.1)) (hA : q ∈ A (g pcs p)) (hp : p = m ∨ ∃ e' ∈ way, (e'.1, p) ∈ t) : WayOk A pcs m t (way ++ [(q, p)]) := by
  refine ⟨?_, fun pre e post h => ?_⟩
  · rw [List.map_append]
    refine List.nodup_append.mpr ⟨W.nd, by simp, fun a ha b hb => ?_⟩
    have : b = q := by simpa using hb
    subst this
    exact fun e => hq (e ▸ ha)
  · rcases List.append_eq_append_iff.mp h with ⟨x, h1, h2⟩ | ⟨x, h1, h2⟩
    · cases x with
      | nil =>
        have h2 : [(q, p)] = e :: post := h2
        injection h2 with h3 h4
        subst h3
        rw [h1, List.append_nil]
        exact ⟨hA, hp⟩
      | cons y ys =>
        have h2 : [(q, p)] = y :: (ys ++ e :: post) := h2
        injection h2 with _ h4
        simp at h4
    · cases x with
      | nil =>
        have h2 : e :: post = [(q, p)] := h2
        injection h2 with h3 h4
        subst h3
        have h1 : way = pre := by rw [h1, List.append_nil]
        rw [← h1]
        exact ⟨hA, hp⟩
      | cons y ys =>
        have h2 : e :: post = y :: (ys ++ [(q, p)]) := h2
        injection h2 with h3 h4
        subst h3
        exact W.par pre _ ys h1
/-- moved_on's loop: the place here is to be given anew -/
structure MvInv (A : Nat → List Plc) (pcs : List Nat) (m : Nat) (t way T : Tk) (here : Plc) (pre : Tk) (par : Nat) : Prop where
  split : ∃ post, way = pre ++ (here, par) :: post
  nd : (T.map (·.1)).Nodup
  vals : ((T.filter fun e => decide (e.1 ≠ here)).map (·.2)).Perm (List.range m)
  ok : ∀ e ∈ T, e.1 ≠ here → e.1 ∈ A (g pcs e.2)
  same : ∀ e ∈ pre, ∀ v, (e.1, v) ∈ t → (e.1, v) ∈ T
theorem mv_start {A : Nat → List Plc} {pcs : List Nat} {m : Nat} {t pre : Tk} {here : Plc} {par : Nat} (M : Match A pcs m t) (hf : here ∉ t.map (·.1)) : MvInv A pcs m t (pre ++ [(here, par)]) t here pre par :=
  ⟨⟨[], rfl⟩, M.nd, by rw [filter_key hf]; exact M.vals, fun e he _ => M.ok e he, fun _ _ _ h => h⟩
theorem mv_step {A : Nat → List Plc} {pcs : List Nat} {m : Nat} {t way T pre : Tk} {here here' : Plc} {par : Nat} (M : Match A pcs m t) (W : WayOk A pcs m t way) (I : MvInv A pcs m t way T here pre par) (hp : par ≠ m) (ho : (here', par) ∈ t) :
    ∃ pre' par' post', pre = pre' ++ (here', par') :: post' ∧ MvInv A pcs m t way (put T here par) here' pre' par' := by
  obtain ⟨post, hs⟩ := I.split
  obtain ⟨hA, h1⟩ := W.par _ _ _ hs
  obtain ⟨e', he', ht⟩ := h1.resolve_left hp
  have hvn : (t.map (·.2)).Nodup := M.vals.nodup_iff.mpr List.nodup_range
  have same_key : ∀ {a b : Plc} {v : Nat}, (a, v) ∈ t → (b, v) ∈ t → a = b := fun {a b v} ha hb => by
    obtain ⟨i, hi, ei⟩ := List.getElem_of_mem ha
    obtain ⟨j, hj, ej⟩ := List.getElem_of_mem hb
    have : i = j := by
      have hi' : i < (t.map (·.2)).length := by rw [List.length_map]; exact hi
      have hj' : j < (t.map (·.2)).length := by rw [List.length_map]; exact hj
      refine (List.getElem_inj (h₀ := hi') (h₁ := hj') hvn).mp ?_
      rw [List.getElem_map, List.getElem_map, ei, ej]
    subst this
    rw [ei] at ej
    exact congrArg Prod.fst ej
  have hh : e'.1 = here' := same_key ht ho
  obtain ⟨pre', post', hpre⟩ := List.append_of_mem he'
  have hne : here' ≠ here := fun z => by
    have hn := W.nd
    rw [hs, List.map_append] at hn
    have := (List.nodup_append.mp hn).2.2 e'.1 (List.mem_map.mpr ⟨_, he', rfl⟩) here (by simp)
    exact this (hh.trans z)
  have hee : e' = (here', e'.2) := Prod.ext hh rfl
  refine ⟨pre', e'.2, post', by rw [hpre, ← hee], ⟨⟨post' ++ (here, par) :: post, by rw [hs, hpre, ← hee, List.append_assoc]; rfl⟩, put_nd I.nd, ?_, ?_, ?_⟩⟩
  · -- the pieces
    have hin : (here', par) ∈ T.filter fun e => decide (e.1 ≠ here) := List.mem_filter.mpr ⟨hh ▸ I.same e' he' par ht, decide_eq_true hne⟩
    have hnX : ((T.filter fun e => decide (e.1 ≠ here)).map (·.1)).Nodup := I.nd.sublist (List.Sublist.map _ List.filter_sublist)
    have p1 := (cut_perm hnX hin).map (fun e : Plc × Nat => e.2)
    have p2 := ((put_perm (q := here) (v := par) I.nd).filter fun e => decide (e.1 ≠ here')).map (fun e : Plc × Nat => e.2)
    rw [List.filter_cons_of_pos (by exact decide_eq_true (Ne.symm hne))] at p2
    exact (p2.trans p1.symm).trans I.vals
  · intro e he hn
    rcases mem_put.mp he with rfl | ⟨z1, z2⟩
    · exact hA
    · exact I.ok e z2 z1
  · intro e he v hv
    have hepre : e ∈ pre := by rw [hpre]; exact List.mem_append_left _ he
    refine mem_put.mpr (.inr ⟨fun z => ?_, I.same e hepre v hv⟩)
    have hn := W.nd
    rw [hs, List.map_append] at hn
    exact (List.nodup_append.mp hn).2.2 e.1 (List.mem_map.mpr ⟨_, hepre, rfl⟩) here (by simp) z
theorem mv_end {A : Nat → List Plc} {pcs : List Nat} {m : Nat} {t way T pre : Tk} {here : Plc} {par : Nat} (W : WayOk A pcs m t way) (I : MvInv A pcs m t way T here pre par) (hp : par = m) : Match A pcs (m + 1) (put T here m) := by
  obtain ⟨post, hs⟩ := I.split
  obtain ⟨hA, _⟩ := W.par _ _ _ hs
  refine ⟨put_nd I.nd, ?_, fun e he => ?_⟩
  · have p2 := (put_perm (q := here) (v := m) I.nd).map (fun e : Plc × Nat => e.2)
    refine p2.trans ?_
    rw [List.map_cons, List.range_succ]
    exact ((I.vals.cons m)).trans (List.perm_append_comm (l₁ := [m]))
  · rcases mem_put.mp he with rfl | ⟨z1, z2⟩
    · rw [hp] at hA; exact hA
    · exact I.ok e z2 z1
/-- placed's search for the piece m -/
structure Srch (A : Nat → List Plc) (pcs : List Nat) (m : Nat) (t : Tk) (wait : List Nat) (way : Tk) : Prop where
  wait : wait = m :: way.map fun e => lk t e.1
  inT : ∀ e ∈ way, e.1 ∈ t.map (·.1)
  wok : WayOk A pcs m t way
theorem Srch.start {A : Nat → List Plc} {pcs : List Nat} {m : Nat} {t : Tk} : Srch A pcs m t [m] [] := ⟨rfl, fun _ h => by simp at h, .nil⟩
theorem Srch.from {A : Nat → List Plc} {pcs : List Nat} {m : Nat} {t way : Tk} {wait : List Nat} (S : Srch A pcs m t wait way) {p : Nat} (h : p ∈ wait) : p = m ∨ ∃ e' ∈ way, (e'.1, p) ∈ t := by
  rw [S.wait] at h
  rcases List.mem_cons.mp h with h | h
  · exact .inl h
  · obtain ⟨e, he, hv⟩ := List.mem_map.mp h
    obtain ⟨v, h1, h2⟩ := look_key (S.inT e he)
    rw [lk_of h1] at hv
    subst hv
    exact .inr ⟨e, he, h2⟩
theorem Srch.more {A : Nat → List Plc} {pcs : List Nat} {m : Nat} {t way : Tk} {wait : List Nat} (S : Srch A pcs m t wait way) {p : Nat} {q : Plc} (h : p ∈ wait) (hq : q ∉ way.map (·.1)) (hA : q ∈ A (g pcs p)) (ht : q ∈ t.map (·.1)) :
    Srch A pcs m t (wait ++ [lk t q]) (way ++ [(q, p)]) := by
  refine ⟨?_, fun e he => ?_, S.wok.snoc hq hA (S.from h)⟩
  · conv => lhs; rw [S.wait]
    rw [List.map_append]; rfl
  · rcases List.mem_append.mp he with he | he
    · exact S.inT e he
    · have : e = (q, p) := by simpa using he
      rw [this]; exact ht
theorem Srch.length {A : Nat → List Plc} {pcs : List Nat} {m : Nat} {t way : Tk} {wait : List Nat} (S : Srch A pcs m t wait way) : wait.length = way.length + 1 ∧ way.length ≤ t.length := by
  refine ⟨by rw [S.wait]; simp, ?_⟩
  have := S.wok.nd.length_le_of_subset (l₂ := t.map (·.1)) fun x hx => by
    obtain ⟨e, he, rfl⟩ := List.mem_map.mp hx
    exact S.inT e he
  simpa using this
end TA
namespace TA
/-! ### the pieces -/
def piecesOf (c : List Nat) : List Nat := (List.range c.length).flatMap fun p => List.replicate (g c p) p
def piecesTo (c : List Nat) (i : Nat) : List Nat := (List.range i).flatMap fun p => List.replicate (g c p) p
theorem piecesTo_succ (c : List Nat) (i : Nat) : piecesTo c (i + 1) = piecesTo c i ++ List.replicate (g c i) i := by
  unfold piecesTo
  rw [List.range_succ, List.flatMap_append]
  simp
theorem piecesTo_count (c : List Nat) (lot : List Nat) (hn : lot.Nodup) : ∀ i, (piecesTo c i).countP (fun p => decide (p ∈ lot)) = (lot.map fun p => if p < i then g c p else 0).sum
  | 0 => by
    have : ∀ l : List Nat, (l.map fun p => if p < 0 then g c p else 0).sum = 0 := fun l => by
      induction l with
      | nil => rfl
      | cons a r ih => rw [List.map_cons, List.sum_cons, ih]; simp
    rw [this]; rfl
  | i + 1 => by
    rw [piecesTo_succ, List.countP_append, piecesTo_count c lot hn i, List.countP_replicate]
    have : ∀ l : List Nat, l.Nodup → (l.map fun p => if p < i then g c p else 0).sum + (if i ∈ l then g c i else 0) = (l.map fun p => if p < i + 1 then g c p else 0).sum := fun l => by
      induction l with
      | nil => intro _; rfl
      | cons a r ih =>
        intro hn
        obtain ⟨h1, h2⟩ := List.nodup_cons.mp hn
        have ih := ih h2
        rw [List.map_cons, List.sum_cons, List.map_cons, List.sum_cons, ← ih]
        by_cases q : a = i
        · subst q
          rw [if_neg (Nat.lt_irrefl _), if_pos List.mem_cons_self, if_neg h1, if_pos (Nat.lt_succ_self _)]; omega
        · have e1 : (if a < i + 1 then g c a else 0) = if a < i then g c a else 0 := by
            by_cases z : a < i
            · rw [if_pos z, if_pos (by omega)]
            · rw [if_neg z, if_neg (by omega)]
          rw [e1]
          by_cases z : i ∈ r
          · rw [if_pos z, if_pos (List.mem_cons_of_mem _ z)]; omega
          · have : ¬ i ∈ a :: r := fun m => by
              rcases List.mem_cons.mp m with e | e
              · exact q e.symm
              · exact z e
            rw [if_neg z, if_neg this]; omega
    rw [← this lot hn]
    simp only [decide_eq_true_eq]
theorem pieces_count {c lot : List Nat} (hn : lot.Nodup) (hl : ∀ p ∈ lot, p < c.length) : (piecesOf c).countP (fun p => decide (p ∈ lot)) = (lot.map (g c)).sum := by
  have := piecesTo_count c lot hn c.length
  rw [show piecesOf c = piecesTo c c.length from rfl, this]
  congr 1
  exact List.map_congr_left fun p hp => if_pos (hl p hp)
theorem pieces_lt {c : List Nat} {x : Nat} (h : x ∈ piecesOf c) : x < c.length := by
  obtain ⟨p, h1, h2⟩ := List.mem_flatMap.mp h
  rw [List.eq_of_mem_replicate h2]
  exact List.mem_range.mp h1
theorem pieces_length (c : List Nat) : (piecesOf c).length = c.sum := by
  unfold piecesOf
  rw [List.length_flatMap]
  have e : (List.range c.length).map (fun p => (List.replicate (g c p) p).length) = (List.range c.length).map (g c) := List.map_congr_left fun p _ => by simp
  rw [e, map_g_range]
theorem pieces_g_lt {c : List Nat} {i : Nat} (h : i < (piecesOf c).length) : g (piecesOf c) i < c.length := pieces_lt (getD_mem 0 h)
/-! ### what placed finds -/
theorem Srch.nd {A : Nat → List Plc} {pcs : List Nat} {m : Nat} {t way : Tk} {wait : List Nat} (M : Match A pcs m t) (S : Srch A pcs m t wait way) : wait.Nodup ∧ ∀ x ∈ wait, x < m + 1 := by
  have hv : ∀ e ∈ way, (e.1, lk t e.1) ∈ t ∧ lk t e.1 < m := fun e he => by
    obtain ⟨v, h1, h2⟩ := look_key (S.inT e he)
    rw [lk_of h1]
    exact ⟨h2, List.mem_range.mp (M.vals.mem_iff.mp (List.mem_map.mpr ⟨_, h2, rfl⟩))⟩
  refine ⟨?_, fun x hx => ?_⟩
  · rw [S.wait]
    refine List.nodup_cons.mpr ⟨fun h => ?_, ?_⟩
    · obtain ⟨e, he, ev⟩ := List.mem_map.mp h
      have := (hv e he).2
      omega
    · have hw : way.Pairwise (fun a b => a.1 ≠ b.1) := List.pairwise_map.mp S.wok.nd
      refine List.pairwise_map.mpr (List.Pairwise.imp_of_mem ?_ hw)
      intro x y hx hy hne e
      have h1 := (hv x hx).1
      have h2 := (hv y hy).1
      rw [← e] at h2
      obtain ⟨i, hi, ei⟩ := List.getElem_of_mem h1
      obtain ⟨j, hj, ej⟩ := List.getElem_of_mem h2
      have hvn : (t.map (·.2)).Nodup := M.vals.nodup_iff.mpr List.nodup_range
      have : i = j := by
        have hi' : i < (t.map (·.2)).length := by rw [List.length_map]; exact hi
        have hj' : j < (t.map (·.2)).length := by rw [List.length_map]; exact hj
        refine (List.getElem_inj (h₀ := hi') (h₁ := hj') hvn).mp ?_
        rw [List.getElem_map, List.getElem_map, ei, ej]
      subst this
      rw [ei] at ej
      exact hne (Prod.mk.inj ej).1
  · rw [S.wait] at hx
    rcases List.mem_cons.mp hx with h | h
    · omega
    · obtain ⟨e, he, ev⟩ := List.mem_map.mp h
      have := (hv e he).2
      omega
theorem crowd_of {kinds : List (List Nat)} {b c w : List Nat} {m : Nat} {t way : Tk} {wait lot : List Nat} (M : Match (fun p => able (gk kinds p) b w) (piecesOf c) m t) (hm : m < (piecesOf c).length)
    (S : Srch (fun p => able (gk kinds p) b w) (piecesOf c) m t wait way) (done : ∀ x ∈ wait, ∀ q ∈ able (gk kinds (g (piecesOf c) x)) b w, q ∈ way.map (·.1))
    (inc : lot.Pairwise (· < ·)) (hlot : ∀ p, p ∈ lot ↔ p ∈ wait.map (g (piecesOf c))) : IsCrowd kinds b c w lot := by
  obtain ⟨wnd, wlt⟩ := S.nd M
  have hl : ∀ p ∈ lot, p < c.length := fun p hp => by
    obtain ⟨x, hx, rfl⟩ := List.mem_map.mp ((hlot p).mp hp)
    exact pieces_g_lt (by have := wlt x hx; omega)
  refine ⟨inc, hl, fun U hU hUA => ?_⟩
  have h1 : U.length ≤ (way.map (·.1)).length := hU.length_le_of_subset fun q hq => by
    obtain ⟨p, hp, hA⟩ := hUA q hq
    obtain ⟨x, hx, rfl⟩ := List.mem_map.mp ((hlot p).mp hp)
    exact done x hx q hA
  have h2 := S.length.1
  have hln : lot.Nodup := inc.imp fun h => Nat.ne_of_lt h
  rw [← pieces_count hln hl]
  have h3 : wait.length ≤ ((List.range (piecesOf c).length).filter fun i => decide (g (piecesOf c) i ∈ lot)).length := wnd.length_le_of_subset fun x hx => by
    refine List.mem_filter.mpr ⟨List.mem_range.mpr (by have := wlt x hx; omega), decide_eq_true ?_⟩
    exact (hlot _).mpr (List.mem_map.mpr ⟨x, hx, rfl⟩)
  have h4 : ((List.range (piecesOf c).length).filter fun i => decide (g (piecesOf c) i ∈ lot)).length = (piecesOf c).countP (fun p => decide (p ∈ lot)) := by
    conv => rhs; rw [← map_g_range (piecesOf c)]
    rw [List.countP_map, List.countP_eq_length_filter]
    rfl
  rw [List.length_map] at h1
  omega
/-- what dealing_of makes of the places taken, sorted: ks -/
def dealtOf (c : List Nat) (t : Tk) (ks : List Plc) : List (List Plc) := (List.range c.length).map fun p => ks.filter fun q => decide (g (piecesOf c) (lk t q) = p)
theorem deal_of {kinds : List (List Nat)} {b c w : List Nat} {t : Tk} {ks : List Plc} (M : Match (fun p => able (gk kinds p) b w) (piecesOf c) (piecesOf c).length t) (hk : ks.Perm (t.map (·.1))) : IsDeal kinds b c w (dealtOf c t ks) := by
  have hget : ∀ p, p < c.length → gp (dealtOf c t ks) p = ks.filter fun q => decide (g (piecesOf c) (lk t q) = p) := fun p hp => by
    unfold gp dealtOf
    rw [getD_lt [] (by simpa using hp), List.getElem_map, List.getElem_range]
  have knd : ks.Nodup := hk.nodup_iff.mpr M.nd
  refine ⟨by simp [dealtOf], fun p hp => ?_, fun p hp q hq => ?_, ?_⟩
  · rw [hget p hp, ← List.countP_eq_length_filter, hk.countP_eq, List.countP_map]
    have e1 : t.countP ((fun q => decide (g (piecesOf c) (lk t q) = p)) ∘ fun x => x.1) = t.countP ((fun i => decide (g (piecesOf c) i = p)) ∘ fun x => x.2) := by
      apply List.countP_congr
      intro e he
      show decide (g (piecesOf c) (lk t e.1) = p) = true ↔ decide (g (piecesOf c) e.2 = p) = true
      rw [lk_of (look_some M.nd (q := e.1) (v := e.2) he)]
    rw [e1, ← List.countP_map, M.vals.countP_eq]
    have e2 := pieces_count (c := c) (lot := [p]) (by simp) (by simpa using hp)
    rw [← map_g_range (piecesOf c), List.countP_map] at e2
    have e3 : (List.range (piecesOf c).length).countP (fun i => decide (g (piecesOf c) i = p)) = (List.range (piecesOf c).length).countP ((fun p_1 => decide (p_1 ∈ [p])) ∘ g (piecesOf c)) := by
      apply List.countP_congr
      intro i _
      simp
    rw [e3, e2]; simp
  · rw [hget p hp] at hq
    obtain ⟨h1, h2⟩ := List.mem_filter.mp hq
    have h2 := of_decide_eq_true h2
    obtain ⟨v, h3, h4⟩ := look_key (t := t) (q := q) (hk.mem_iff.mp h1)
    rw [lk_of h3] at h2
    have := M.ok _ h4
    simp only at this
    rw [h2] at this
    exact this
  · refine List.pairwise_flatten.mpr ⟨fun l hl => ?_, ?_⟩
    · obtain ⟨p, _, rfl⟩ := List.mem_map.mp hl
      exact knd.sublist List.filter_sublist
    · unfold dealtOf
      refine List.pairwise_map.mpr (List.Pairwise.imp ?_ (List.pairwise_lt_range (n := c.length)))
      intro p p' hpp x hx y hy e
      have h1 := of_decide_eq_true (List.mem_filter.mp hx).2
      have h2 := of_decide_eq_true (List.mem_filter.mp hy).2
      rw [e] at h1
      omega
/-! ### the law's own walk of all orders -/
abbrev Stg := List Nat × List Nat
def after (board kind : List Nat) : List (List Nat) := (kind.filter fun s => decide (g board s = minOn board kind)).map (bump board)
def stepsOf (kinds : List (List Nat)) (st : Stg) (p : Nat) : List Stg := if 0 < g st.2 p then (after st.1 (gk kinds p)).map fun o => (o, st.2.set p (g st.2 p - 1)) else []
def extd (f l : List Stg) : List Stg := f ++ l.filter fun x => !decide (x ∈ f)
def turnIn (kinds : List (List Nat)) (f : List Stg) (st : Stg) (j : Nat) : List Stg := (List.range j).foldl (fun f p => extd f (stepsOf kinds st p)) f
def turn (kinds : List (List Nat)) (sts : List Stg) : List Stg := sts.foldl (fun f st => turnIn kinds f st kinds.length) []
def stand (kinds : List (List Nat)) (st : Stg) : Nat → List Stg
  | 0 => [st]
  | i + 1 => turn kinds (stand kinds st i)
theorem turnIn_succ (kinds : List (List Nat)) (f : List Stg) (st : Stg) (j : Nat) : turnIn kinds f st (j + 1) = extd (turnIn kinds f st j) (stepsOf kinds st j) := by
  unfold turnIn; rw [List.range_succ, List.foldl_append]; rfl
theorem mem_extd {f l : List Stg} {x : Stg} : x ∈ extd f l ↔ x ∈ f ∨ x ∈ l := by
  unfold extd
  rw [List.mem_append, List.mem_filter]
  constructor
  · rintro (h | h)
    · exact .inl h
    · exact .inr h.1
  · intro h
    by_cases z : x ∈ f
    · exact .inl z
    · exact .inr ⟨h.resolve_left z, by simp [z]⟩
theorem extd_length (f l : List Stg) : (extd f l).length ≤ f.length + l.length := by
  unfold extd
  rw [List.length_append]
  have := List.length_filter_le (fun x => !decide (x ∈ f)) l
  omega
theorem mem_turnIn {kinds : List (List Nat)} {f : List Stg} {st x : Stg} : ∀ {j : Nat}, x ∈ turnIn kinds f st j ↔ x ∈ f ∨ ∃ p, p < j ∧ x ∈ stepsOf kinds st p
  | 0 => by simp [turnIn]
  | j + 1 => by
    rw [turnIn_succ, mem_extd, mem_turnIn (j := j)]
    constructor
    · rintro ((h | ⟨p, h1, h2⟩) | h)
      · exact .inl h
      · exact .inr ⟨p, by omega, h2⟩
      · exact .inr ⟨j, by omega, h⟩
    · rintro (h | ⟨p, h1, h2⟩)
      · exact .inl (.inl h)
      · by_cases z : p = j
        · subst z; exact .inr h2
        · exact .inl (.inr ⟨p, by omega, h2⟩)
theorem mem_turn_aux {kinds : List (List Nat)} {x : Stg} : ∀ {sts f : List Stg}, x ∈ sts.foldl (fun f st => turnIn kinds f st kinds.length) f ↔ x ∈ f ∨ ∃ st ∈ sts, ∃ p, p < kinds.length ∧ x ∈ stepsOf kinds st p
  | [], f => by simp
  | a :: r, f => by
    rw [List.foldl_cons, mem_turn_aux (sts := r), mem_turnIn]
    constructor
    · rintro ((h | ⟨p, h1, h2⟩) | ⟨st, h1, h2⟩)
      · exact .inl h
      · exact .inr ⟨a, List.mem_cons_self, p, h1, h2⟩
      · exact .inr ⟨st, List.mem_cons_of_mem _ h1, h2⟩
    · rintro (h | ⟨st, h1, h2⟩)
      · exact .inl (.inl h)
      · rcases List.mem_cons.mp h1 with rfl | h1
        · obtain ⟨p, h3, h4⟩ := h2
          exact .inl (.inr ⟨p, h3, h4⟩)
        · exact .inr ⟨st, h1, h2⟩
theorem mem_turn {kinds : List (List Nat)} {x : Stg} {sts : List Stg} : x ∈ turn kinds sts ↔ ∃ st ∈ sts, ∃ p, p < kinds.length ∧ x ∈ stepsOf kinds st p := by
  unfold turn
  rw [mem_turn_aux]; simp
theorem steps_length {kinds : List (List Nat)} {st : Stg} {p M : Nat} (hM : ∀ p, (gk kinds p).length ≤ M) : (stepsOf kinds st p).length ≤ M := by
  unfold stepsOf
  split
  · rw [List.length_map]
    unfold after
    rw [List.length_map]
    exact Nat.le_trans (List.length_filter_le _ _) (hM p)
  · exact Nat.zero_le _
theorem turnIn_length {kinds : List (List Nat)} {f : List Stg} {st : Stg} {M : Nat} (hM : ∀ p, (gk kinds p).length ≤ M) : ∀ j, (turnIn kinds f st j).length ≤ f.length + j * M
  | 0 => by simp [turnIn]
  | j + 1 => by
    rw [turnIn_succ]
    have h1 := extd_length (turnIn kinds f st j) (stepsOf kinds st j)
    have h2 := turnIn_length hM (f := f) (st := st) j
    have h3 := steps_length (st := st) (p := j) hM
    rw [Nat.succ_mul]; omega
theorem turn_length_aux {kinds : List (List Nat)} {M : Nat} (hM : ∀ p, (gk kinds p).length ≤ M) : ∀ (sts f : List Stg), (sts.foldl (fun f st => turnIn kinds f st kinds.length) f).length ≤ f.length + sts.length * (kinds.length * M)
  | [], f => by simp
  | a :: r, f => by
    rw [List.foldl_cons]
    have h1 := turn_length_aux hM r (turnIn kinds f a kinds.length)
    have h2 := turnIn_length hM (f := f) (st := a) kinds.length
    rw [List.length_cons, Nat.succ_mul]; omega
theorem stand_length {kinds : List (List Nat)} {st : Stg} (hk : kinds.length ≤ 3) (hM : ∀ p, (gk kinds p).length ≤ 4) : ∀ i, (stand kinds st i).length ≤ 12 ^ i
  | 0 => by simp [stand]
  | i + 1 => by
    have h1 : (turn kinds (stand kinds st i)).length ≤ 0 + (stand kinds st i).length * (kinds.length * 4) := turn_length_aux hM (stand kinds st i) []
    have h2 := stand_length (st := st) hk hM i
    have h3 : kinds.length * 4 ≤ 12 := by omega
    show (turn kinds (stand kinds st i)).length ≤ 12 ^ (i + 1)
    rw [Nat.pow_succ]
    have := Nat.mul_le_mul h2 h3
    omega
def Run (kinds : List (List Nat)) : Stg → List (Nat × Nat) → Stg → Prop
  | st, [], st' => st = st'
  | st, e :: r, st' => (Legal kinds st.1 e.1 e.2 ∧ 0 < g st.2 e.1) ∧ Run kinds (bump st.1 e.2, st.2.set e.1 (g st.2 e.1 - 1)) r st'
theorem Run.snoc {kinds : List (List Nat)} : ∀ {hist : List (Nat × Nat)} {st x : Stg} {e : Nat × Nat}, Run kinds st hist x → Legal kinds x.1 e.1 e.2 → 0 < g x.2 e.1 → Run kinds st (hist ++ [e]) (bump x.1 e.2, x.2.set e.1 (g x.2 e.1 - 1))
  | [], st, x, e, h, l, z => by
    have e : st = x := h
    subst e
    exact ⟨⟨l, z⟩, rfl⟩
  | a :: r, st, x, e, h, l, z => ⟨h.1, Run.snoc h.2 l z⟩
theorem Run.unsnoc {kinds : List (List Nat)} : ∀ {hist : List (Nat × Nat)} {st x : Stg} {e : Nat × Nat}, Run kinds st (hist ++ [e]) x → ∃ y, Run kinds st hist y ∧ Legal kinds y.1 e.1 e.2 ∧ 0 < g y.2 e.1 ∧ x = (bump y.1 e.2, y.2.set e.1 (g y.2 e.1 - 1))
  | [], st, x, e, h => ⟨st, rfl, h.1.1, h.1.2, h.2.symm⟩
  | a :: r, st, x, e, h => by
    obtain ⟨y, h1, h2⟩ := Run.unsnoc (hist := r) h.2
    exact ⟨y, ⟨h.1, h1⟩, h2⟩
theorem mem_steps {kinds : List (List Nat)} {st x : Stg} {p : Nat} : x ∈ stepsOf kinds st p ↔ 0 < g st.2 p ∧ ∃ s, s ∈ gk kinds p ∧ g st.1 s = minOn st.1 (gk kinds p) ∧ x = (bump st.1 s, st.2.set p (g st.2 p - 1)) := by
  unfold stepsOf
  by_cases h : 0 < g st.2 p
  · rw [if_pos h]
    unfold after
    rw [List.map_map, List.mem_map]
    constructor
    · rintro ⟨s, h1, h2⟩
      obtain ⟨h3, h4⟩ := List.mem_filter.mp h1
      exact ⟨h, s, h3, of_decide_eq_true h4, h2.symm⟩
    · rintro ⟨_, s, h1, h2, h3⟩
      exact ⟨s, List.mem_filter.mpr ⟨h1, decide_eq_true h2⟩, h3.symm⟩
  · rw [if_neg h]
    constructor
    · intro h1; simp at h1
    · intro h1; exact absurd h1.1 h
theorem mem_stand {kinds : List (List Nat)} {st : Stg} : ∀ {i : Nat} {x : Stg}, x ∈ stand kinds st i ↔ ∃ hist : List (Nat × Nat), hist.length = i ∧ Run kinds st hist x
  | 0, x => by
    show x ∈ [st] ↔ _
    rw [List.mem_singleton]
    constructor
    · rintro rfl; exact ⟨[], rfl, rfl⟩
    · rintro ⟨hist, h1, h2⟩
      have : hist = [] := List.length_eq_zero_iff.mp h1
      subst this
      exact h2.symm
  | i + 1, x => by
    show x ∈ turn kinds (stand kinds st i) ↔ _
    rw [mem_turn]
    constructor
    · rintro ⟨y, h1, p, hp, h2⟩
      obtain ⟨hist, h3, h4⟩ := mem_stand.mp h1
      obtain ⟨h5, s, h6, h7, rfl⟩ := mem_steps.mp h2
      exact ⟨hist ++ [(p, s)], by simp [h3], h4.snoc (e := (p, s)) ⟨hp, h6, h7⟩ h5⟩
    · rintro ⟨hist, h1, h2⟩
      have hne : hist ≠ [] := fun z => by rw [z] at h1; simp at h1
      have hd := List.dropLast_concat_getLast hne
      rw [← hd] at h2
      obtain ⟨y, h3, h4, h5, h6⟩ := Run.unsnoc h2
      refine ⟨y, mem_stand.mpr ⟨hist.dropLast, by rw [List.length_dropLast, h1]; rfl, h3⟩, _, h4.hp, mem_steps.mpr ⟨h5, _, h4.hs, h4.at_, h6⟩⟩
theorem Run.facts {kinds : List (List Nat)} {n : Nat} (hk : ∀ k ∈ kinds, ∀ s ∈ k, s < n) : ∀ {hist : List (Nat × Nat)} {st x : Stg} {u : List Nat}, st.1.length = n → st.2.length = kinds.length → u.length = kinds.length → Run kinds st hist x →
    Hist kinds st.1 hist x.1 ∧ x.1.length = n ∧ x.2.length = kinds.length ∧ (∀ p, g (usedFrom u hist) p + g x.2 p = g u p + g st.2 p) ∧ x.2.sum + hist.length = st.2.sum
  | [], st, x, u, h1, h2, h3, h => by
    have e : st = x := h
    subst e
    exact ⟨rfl, h1, h2, fun p => rfl, rfl⟩
  | e :: r, st, x, u, h1, h2, h3, h => by
    have he : e.1 < kinds.length := h.1.1.hp
    obtain ⟨a1, a2, a3, a4, a5⟩ := Run.facts hk (hist := r) (st := (bump st.1 e.2, st.2.set e.1 (g st.2 e.1 - 1))) (x := x) (u := bump u e.1) (by rw [bump_length]; exact h1) (by rw [List.length_set]; exact h2) (by rw [bump_length]; exact h3) h.2
    refine ⟨⟨h.1.1, a1⟩, a2, a3, fun p => ?_, ?_⟩
    · have h5 := a4 p
      show g (usedFrom (bump u e.1) r) p + _ = _
      rw [h5, g_bump (by rw [h3]; exact he), g_set (by rw [h2]; exact he)]
      have := h.1.2
      by_cases z : p = e.1
      · rw [if_pos z, if_pos z, z]; omega
      · rw [if_neg z, if_neg z]
    · have := sum_set_le (l := st.2) (i := e.1) (v := g st.2 e.1 - 1) (by rw [h2]; exact he)
      have := h.1.2
      simp only at a5
      rw [List.length_cons]
      omega
theorem Run.of {kinds : List (List Nat)} {n : Nat} (hk : ∀ k ∈ kinds, ∀ s ∈ k, s < n) : ∀ {hist : List (Nat × Nat)} {b left w : List Nat}, b.length = n → left.length = kinds.length → Hist kinds b hist w → (∀ p, (hist.map (·.1)).countP (fun x => decide (x = p)) ≤ g left p) → ∃ left', Run kinds (b, left) hist (w, left')
  | [], b, left, w, h1, h2, h, hc => ⟨left, by have e : b = w := h; subst e; rfl⟩
  | e :: r, b, left, w, h1, h2, h, hc => by
    have he : e.1 < left.length := by rw [h2]; exact h.1.hp
    have pos : 0 < g left e.1 := by
      have := hc e.1
      rw [List.map_cons, List.countP_cons, if_pos (decide_eq_true rfl)] at this
      omega
    obtain ⟨left', hr⟩ := Run.of hk (hist := r) (b := bump b e.2) (left := left.set e.1 (g left e.1 - 1)) (w := w) (by rw [bump_length]; exact h1) (by rw [List.length_set]; exact h2) h.2 (fun p => by
      have := hc p
      rw [List.map_cons, List.countP_cons] at this
      rw [g_set he]
      by_cases z : p = e.1
      · rw [if_pos z]
        have ez : decide (e.1 = p) = true := decide_eq_true z.symm
        rw [ez] at this
        rw [z] at this ⊢
        simp only [if_true] at this
        omega
      · rw [if_neg z]
        omega)
    exact ⟨left', ⟨h.1, pos⟩, hr⟩
theorem used_countP (hist : List (Nat × Nat)) : ∀ {u : List Nat} (p : Nat), (∀ e ∈ hist, e.1 < u.length) → g (usedFrom u hist) p = g u p + (hist.map (·.1)).countP (fun x => decide (x = p)) := by
  induction hist with
  | nil => intro u p _; simp [usedFrom]
  | cons e r ih =>
    intro u p h
    have he := h e List.mem_cons_self
    have := ih (u := bump u e.1) p fun x hx => by rw [bump_length]; exact h x (List.mem_cons_of_mem _ hx)
    show g (usedFrom (bump u e.1) r) p = _
    rw [this, g_bump he, List.map_cons, List.countP_cons]
    by_cases z : p = e.1
    · subst z; simp; omega
    · have : ¬ e.1 = p := fun q => z q.symm
      simp [z, this]
theorem sum_zero : ∀ {l : List Nat}, l.sum = 0 → ∀ p, g l p = 0
  | [], _, p => by simp [g]
  | a :: r, h, p => by
    rw [List.sum_cons] at h
    cases p with
    | zero => simp [g]; omega
    | succ p => have := sum_zero (l := r) (by omega) p; simpa [g] using this
def endsOf (kinds : List (List Nat)) (b c : List Nat) : List (List Nat) := (stand kinds (b, c) c.sum).map (·.1)
/-- the law's own walk meets just the boards of histories of just these deliveries -/
theorem mem_ends {n : Nat} {kinds : List (List Nat)} {b c w : List Nat} (hk : ∀ k ∈ kinds, ∀ s ∈ k, s < n) (hb : b.length = n) (hc : c.length = kinds.length) : w ∈ endsOf kinds b c ↔ ∃ hist, Hist kinds b hist w ∧ usedOf kinds.length hist = c := by
  unfold endsOf
  rw [List.mem_map]
  constructor
  · rintro ⟨x, hx, rfl⟩
    obtain ⟨hist, h1, h2⟩ := mem_stand.mp hx
    obtain ⟨a1, a2, a3, a4, a5⟩ := Run.facts hk (st := (b, c)) (u := List.replicate kinds.length 0) hb hc (by simp) h2
    refine ⟨hist, a1, list_ext_g (by rw [hc]; show (usedFrom _ _).length = _; rw [usedFrom_length]; simp) fun p hp => ?_⟩
    have h0 : g x.2 p = 0 := sum_zero (by simp only at a5; omega) p
    have e0 : g (List.replicate kinds.length 0) p = 0 := by
      unfold g; rw [List.getD_eq_getElem?_getD, List.getElem?_replicate]; split <;> rfl
    have := a4 p
    rw [h0, e0] at this
    show g (usedFrom _ _) p = _
    simp only at this
    omega
  · rintro ⟨hist, h1, h2⟩
    have hpos : ∀ e ∈ hist, e.1 < (List.replicate kinds.length 0).length := fun e he => by rw [List.length_replicate]; exact h1.pos e he
    have hcnt : ∀ p, (hist.map (·.1)).countP (fun x => decide (x = p)) = g c p := fun p => by
      have := used_countP hist p hpos
      have e0 : g (List.replicate kinds.length 0) p = 0 := by
        unfold g; rw [List.getD_eq_getElem?_getD, List.getElem?_replicate]; split <;> rfl
      have e : usedFrom (List.replicate kinds.length 0) hist = c := h2
      rw [e, e0] at this
      omega
    obtain ⟨left', hr⟩ := Run.of hk hb hc h1 (fun p => Nat.le_of_eq (hcnt p))
    have hlen : hist.length = c.sum := by
      obtain ⟨_, _, _, a4, a5⟩ := Run.facts hk (st := (b, c)) (u := List.replicate kinds.length 0) hb hc (by simp) hr
      have hz : ∀ p, g left' p = 0 := fun p => by
        have := a4 p
        have e0 : g (List.replicate kinds.length 0) p = 0 := by
          unfold g; rw [List.getD_eq_getElem?_getD, List.getElem?_replicate]; split <;> rfl
        have e : usedFrom (List.replicate kinds.length 0) hist = c := h2
        rw [e, e0] at this
        simp only at this
        omega
      have hs : left'.sum = 0 := by
        have : left' = List.replicate left'.length 0 := list_ext_g (by simp) fun p hp => by
          rw [hz p]
          unfold g; rw [List.getD_eq_getElem?_getD, List.getElem?_replicate]; split <;> rfl
        rw [this, List.sum_replicate_nat]; simp
      simp only at a5
      omega
    exact ⟨(w, left'), mem_stand.mpr ⟨hist, hlen, hr⟩, rfl⟩
end TA
namespace TA
/-! ### kinds as bits -/
def orTo (f : Nat) (k : List Nat) : Nat := k.foldl (fun f s => f ||| 2 ^ s) f
def bitsOf (k : List Nat) : Nat := orTo 0 k
def spots (m : Nat) : List Nat := (List.range 8).filter fun s => decide (m / 2 ^ s % 2 = 1)
theorem orTo_bit : ∀ {k : List Nat} {f i : Nat}, (orTo f k).testBit i = (f.testBit i || decide (i ∈ k))
  | [], f, i => by simp [orTo]
  | a :: r, f, i => by
    show (orTo (f ||| 2 ^ a) r).testBit i = _
    rw [orTo_bit, Nat.testBit_or, Nat.testBit_two_pow]
    by_cases h : a = i
    · subst h; simp
    · have : ¬ i = a := fun e => h e.symm
      simp [h, this]
theorem bitsOf_bit {k : List Nat} {i : Nat} : (bitsOf k).testBit i = decide (i ∈ k) := by
  unfold bitsOf
  rw [orTo_bit]; simp
theorem bit_test (m s : Nat) : decide (m / 2 ^ s % 2 = 1) = m.testBit s := by
  rw [Nat.testBit_eq_decide_div_mod_eq]
theorem mem_spots {k : List Nat} (hk : ∀ s ∈ k, s < 8) {s : Nat} : s ∈ spots (bitsOf k) ↔ s ∈ k := by
  unfold spots
  rw [List.mem_filter, List.mem_range, bit_test, bitsOf_bit, decide_eq_true_eq]
  exact ⟨fun h => h.2, fun h => ⟨hk s h, h⟩⟩
theorem inc_ext {l m : List Nat} (hl : l.Pairwise (· < ·)) (hm : m.Pairwise (· < ·)) (h : ∀ x, x ∈ l ↔ x ∈ m) : l = m := by
  have hp : l.Perm m := (List.perm_ext_iff_of_nodup (hl.imp fun h => Nat.ne_of_lt h) (hm.imp fun h => Nat.ne_of_lt h)).mpr h
  exact hp.eq_of_pairwise (le := (· < ·)) (fun a b _ _ h1 h2 => by omega) hl hm
theorem spots_inc (m : Nat) : (spots m).Pairwise (· < ·) := List.Pairwise.filter _ List.pairwise_lt_range
theorem spots_bits {k : List Nat} (hi : k.Pairwise (· < ·)) (hk : ∀ s ∈ k, s < 8) : spots (bitsOf k) = k := inc_ext (spots_inc _) hi fun _ => mem_spots hk
theorem bits_ext {k k' : List Nat} (h : ∀ x, x ∈ k ↔ x ∈ k') : bitsOf k = bitsOf k' := by
  apply Nat.eq_of_testBit_eq
  intro i
  rw [bitsOf_bit, bitsOf_bit]
  by_cases z : i ∈ k
  · rw [decide_eq_true z, decide_eq_true ((h i).mp z)]
  · rw [decide_eq_false z, decide_eq_false fun q => z ((h i).mpr q)]
theorem bits_reverse (k : List Nat) : bitsOf k.reverse = bitsOf k := bits_ext fun x => List.mem_reverse
theorem spots_lt (m : Nat) : ∀ s ∈ spots m, s < 8 := fun s h => List.mem_range.mp (List.mem_filter.mp h).1
/-! ### lists of ints -/
abbrev zi (xs : List Nat) : List Int := xs.map fun n : Nat => (n : Int)
theorem zi_inj {a b : List Nat} (h : zi a = zi b) : a = b := by
  have := congrArg (List.map Int.toNat) h
  unfold zi at this
  rw [List.map_map, List.map_map] at this
  have e : ∀ l : List Nat, l.map (Int.toNat ∘ fun n : Nat => (n : Int)) = l := fun l => by
    induction l with
    | nil => rfl
    | cons x r ih => rw [List.map_cons, ih]; rfl
  rw [e, e] at this
  exact this
/-- rows sorted as Python sorts them -/
def sortRows (rows : List (List Int)) : List (List Int) := rows.mergeSort fun p q => decide (p ≤ q)
theorem sortRows_perm (rows : List (List Int)) : (sortRows rows).Perm rows := List.mergeSort_perm _ _
theorem int_le_total (a b : List Int) : a ≤ b ∨ b ≤ a := Std.Total.total a b
theorem int_le_trans {a b c : List Int} (h1 : a ≤ b) (h2 : b ≤ c) : a ≤ c := Std.le_trans h1 h2
theorem int_le_anti {a b : List Int} (h1 : a ≤ b) (h2 : b ≤ a) : a = b := Std.le_antisymm h1 h2
theorem sortRows_sorted (rows : List (List Int)) : (sortRows rows).Pairwise (· ≤ ·) := by
  have := List.pairwise_mergeSort (le := fun p q : List Int => decide (p ≤ q)) (fun a b c h1 h2 => decide_eq_true (int_le_trans (of_decide_eq_true h1) (of_decide_eq_true h2)))
    (fun a b => by rcases int_le_total a b with h | h <;> simp [h]) rows
  exact this.imp fun h => of_decide_eq_true h
theorem sortRows_eq {rows ys : List (List Int)} (hp : ys.Perm rows) (hs : ys.Pairwise (· ≤ ·)) : sortRows rows = ys :=
  List.Perm.eq_of_pairwise (fun a b _ _ h1 h2 => int_le_anti h1 h2) (sortRows_sorted rows) hs ((sortRows_perm rows).trans hp.symm)
theorem map_zi_of : ∀ {ks : List (List Int)} {ls : List (List Nat)}, ks.Perm (ls.map zi) → ∃ ms : List (List Nat), ks = ms.map zi ∧ ms.Perm ls := fun {ks ls} h => by
  let back : List Int → List Nat := fun l => l.map Int.toNat
  have hb : ∀ l : List Nat, back (zi l) = l := fun l => by
    show (zi l).map Int.toNat = l
    unfold zi
    rw [List.map_map]
    conv => rhs; rw [← List.map_id l]
    exact List.map_congr_left fun x _ => rfl
  refine ⟨ks.map back, ?_, ?_⟩
  · rw [List.map_map]
    conv => lhs; rw [← List.map_id ks]
    refine List.map_congr_left fun x hx => ?_
    obtain ⟨l, _, rfl⟩ := List.mem_map.mp (h.mem_iff.mp hx)
    show id (zi l) = zi (back (zi l))
    rw [hb]; rfl
  · have := h.map back
    rw [List.map_map] at this
    have e : ls.map (back ∘ zi) = ls := by
      conv => rhs; rw [← List.map_id ls]
      exact List.map_congr_left fun x _ => hb x
    rw [e] at this
    exact this
/-- the law's kinds, sorted -/
structure KindsOk (n : Nat) (kinds : List (List Nat)) : Prop where
  ne : ∀ k ∈ kinds, k ≠ []
  lt : ∀ k ∈ kinds, ∀ s ∈ k, s < n
  inc : ∀ k ∈ kinds, k.Pairwise (· < ·)
  nd : kinds.Nodup
  srt : (kinds.map zi).Pairwise (· ≤ ·)
/-- what plain_kinds gives of the kinds' bits -/
theorem plain_rows {n : Nat} {kinds : List (List Nat)} (hn : n ≤ 8) (K : KindsOk n kinds) {L : List Nat} (inc : L.Pairwise (· < ·)) (hL : ∀ x, x ∈ L ↔ x ∈ kinds.map bitsOf) : sortRows ((L.map spots).map zi) = kinds.map zi := by
  refine sortRows_eq ?_ K.srt
  refine List.Perm.map _ ((List.perm_ext_iff_of_nodup K.nd ?_).mpr fun k => ?_)
  · refine List.pairwise_map.mpr (List.Pairwise.imp_of_mem ?_ inc)
    intro x y hx hy hlt e
    obtain ⟨k, hk, rfl⟩ := List.mem_map.mp ((hL x).mp hx)
    obtain ⟨k', hk', rfl⟩ := List.mem_map.mp ((hL y).mp hy)
    rw [spots_bits (K.inc k hk) fun s hs => Nat.lt_of_lt_of_le (K.lt k hk s hs) hn, spots_bits (K.inc k' hk') fun s hs => Nat.lt_of_lt_of_le (K.lt k' hk' s hs) hn] at e
    rw [e] at hlt
    exact Nat.lt_irrefl _ hlt
  · constructor
    · intro hk
      exact List.mem_map.mpr ⟨bitsOf k, (hL _).mpr (List.mem_map.mpr ⟨k, hk, rfl⟩), spots_bits (K.inc k hk) fun s hs => Nat.lt_of_lt_of_le (K.lt k hk s hs) hn⟩
    · intro hk
      obtain ⟨x, hx, rfl⟩ := List.mem_map.mp hk
      obtain ⟨k', hk', rfl⟩ := List.mem_map.mp ((hL x).mp hx)
      rw [spots_bits (K.inc k' hk') fun s hs => Nat.lt_of_lt_of_le (K.lt k' hk' s hs) hn]
      exact hk'
theorem kind_length {n : Nat} {k : List Nat} (inc : k.Pairwise (· < ·)) (lt : ∀ s ∈ k, s < n) : k.length ≤ n := by
  have : k.Nodup := inc.imp fun h => Nat.ne_of_lt h
  have := this.length_le_of_subset (l₂ := List.range n) fun x hx => List.mem_range.mpr (lt x hx)
  simpa using this
/-! ### bounds -/
theorem sum_le {M : Nat} : ∀ {l : List Nat}, (∀ x ∈ l, x ≤ M) → l.sum ≤ l.length * M
  | [], _ => by simp
  | a :: r, h => by
    have := sum_le (l := r) fun x hx => h x (List.mem_cons_of_mem _ hx)
    have := h a List.mem_cons_self
    rw [List.sum_cons, List.length_cons, Nat.succ_mul]; omega
theorem g_le_sum {l : List Nat} {i : Nat} : g l i ≤ l.sum := by
  induction l generalizing i with
  | nil => simp [g]
  | cons a r ih =>
    cases i with
    | zero => simp [g]
    | succ i => have := @ih i; simp only [List.sum_cons]; have e : g (a :: r) (i + 1) = g r i := by simp [g]
                rw [e]; omega
section
variable {n : Nat} {kinds : List (List Nat)} {b c w : List Nat}
theorem Fit.csum (F : Fit n kinds b c w) : c.sum ≤ 6 := by
  have := sum_le F.c2
  have := F.cl; have := F.k3
  omega
theorem Fit.bsum (F : Fit n kinds b c w) : b.sum ≤ 8 := by
  have := sum_le F.b2
  have := F.bl; have := F.n4
  omega
theorem Fit.wle (F : Fit n kinds b c w) (s : Nat) : g w s ≤ 14 := by
  have := g_le_sum (l := w) (i := s)
  have := F.csum; have := F.bsum; have := F.sum
  omega
theorem Fit.able_length (F : Fit n kinds b c w) {p : Nat} (hp : p < kinds.length) : (able (gk kinds p) b w).length ≤ 6 := by
  have hk := getD_mem [] hp
  have nd : (able (gk kinds p) b w).Nodup := by
    unfold able
    refine List.pairwise_flatMap.mpr ⟨fun s _ => ?_, (F.inc _ hk).imp fun {s s'} hlt x hx y hy e => ?_⟩
    · refine List.pairwise_map.mpr ((List.nodup_range' (step := 1) (by omega)).imp fun h e => h (Prod.mk.inj e).2)
    · obtain ⟨_, _, rfl⟩ := List.mem_map.mp hx
      obtain ⟨_, _, rfl⟩ := List.mem_map.mp hy
      have := (Prod.mk.inj e).1
      omega
  have h := nd.length_le_of_subset (l₂ := allP n b w) fun q hq => by
    obtain ⟨a1, a2, a3, _⟩ := mem_able.mp hq
    exact mem_allP.mpr ⟨F.lt _ hk _ a1, a2, a3⟩
  have := allP_length F.bl F.wl F.le
  have := F.sum; have := F.csum
  omega
end
end TA
/-! own rules: sum of a tuple; enumerate of a tuple; zip of a tuple and a list or a tuple; sorted of rows, of a dict with tuple keys; set of a list or a tuple of ints -/
namespace TR
open PySem PySem.Spec PyProof.Rows L2
section
variable {X : Cx}
/-- sum(t), t a tuple of ints -/
def rSumT (K : PySem.W.Frag) : List V → Hp → VK → Prop := fun vs H Q => ∃ (a : Addr) (ns : List Int), vs = [V.ref a] ∧ SqT K H a (ns.map V.int) ∧ Q (.int ns.sum) H
theorem cr_sumT (hc : X.calm = true) : CallR X (.builtin "sum") (rSumT X.K) := by
  intro pins s σ H vs us Q I r h
  obtain ⟨a, ns, rfl, hs, q⟩ := h
  obtain ⟨its, rv, ht, _⟩ := I.tuple hs
  rw [Vals.ref1 r]
  obtain ⟨xs, ex⟩ := rv.ints.allInts.items
  have hn : numsOf (intItems xs).toList = ns := by rw [← ex]; exact rv.ints.numsOf
  rw [nums_intItems] at hn
  have ht' : s.heap.IsTuple a (intItems xs) := by rw [← ex]; exact ht
  refine call_sum_walkG (wpAny_pyIter_tuple ht' ?_)
  have hlt : a < s.heap.objs.size := let ⟨_, ho, _⟩ := ht'; Heap.lt_size ho
  refine ⟨s.heap.objs.size, _, _, _, _, _, numAt xs, rfl, Walks.tuple (A := X.A.in1) (I.ok.hd hc) s.heap.objs.size a (Nat.ne_of_lt hlt) (intItems xs), ⟨⟨_, Heap.get?_push_size _ rfl, rfl, rfl⟩, ht'.at fun o e => Heap.get?_push_of_some _ e⟩, fun b hb => ?_, fun _ _ => intItems_at, fun h' tk t' hk => ?_⟩
  · rw [Heap.size_push]
    have e : b = s.heap.objs.size ∨ b = a := by simpa using hb
    rcases e with e | e
    · subst e; exact Nat.lt_succ_self _
    · subst e; exact Nat.lt_succ_of_lt hlt
  · refine ⟨.int ns.sum, H, I.kept (fun b o e => hk b o (fun z => ?_) (Heap.get?_push_of_some _ e)), ⟨t', ?_⟩, q⟩
    · have ez : b = s.heap.objs.size := by simpa using z
      exact absurd (Heap.lt_size e) (by rw [ez]; exact Nat.lt_irrefl _)
    · rw [preSum_eq, List.take_of_length_le (by simp [intItems]), hn]
end

/-! ### sequences of a kind: lists, tuples -/
/-- how a sequence of a kind is told, and its iterator -/
structure Kd (K : PySem.W.Frag) where
  Sq : Hp → Addr → List V → Prop
  At : Heap → Addr → Addr → Nat → Prop
  Is : Heap → Addr → Array Value → Prop
  ob : Addr → Obj
  get : ∀ {X : Cx} {pins : List (Addr × Obj)} {σ : L2.St} {H : Hp} {s : Shared} {a : Addr} {xs : List V}, X.K = K → Inv X pins σ H s → Sq H a xs → ∃ its : List Value, Vals xs its ∧ Is s.heap a its.toArray
  inj : ∀ {X : Cx} {pins : List (Addr × Obj)} {σ : L2.St} {H : Hp} {s : Shared} {a : Addr} {xs ys : List V}, X.K = K → Inv X pins σ H s → Sq H a xs → Sq H a ys → xs = ys
  lt : ∀ {h : Heap} {a : Addr} {its : Array Value}, Is h a its → a < h.objs.size
  it0 : ∀ {h : Heap} {it a : Addr}, h.get? it = some (ob a) → At h it a 0
  itd : ∀ {h : Heap} {it a : Addr} {i : Nat}, At h it a i → ∃ o, h.get? it = some o ∧ ∀ v, o.data ≠ .cell v
  keepA : ∀ {h h' : Heap} {it a : Addr} {i : Nat}, At h it a i → (∀ o, h.get? it = some o → h'.get? it = some o) → At h' it a i
  draws : ∀ (P : Program) (w : World) (A : Around) (it a : Addr) (its : Array Value), A.handled = none → a ≠ it → Draws P w A it [it, a] its.size (fun i v => its[i]? = some v) (fun i h => At h it a i ∧ Is h a its)
  begins : ∀ (a : Addr) (its : Array Value), Begins (.ref a) (ob a) fun h => Is h a its
def kdL (K : PySem.W.Frag) : Kd K where
  Sq := SqL K
  At := fun h it a i => h.IsListIter it a i
  Is := fun h a its => h.IsList a its
  ob := fun l => { cls := .type "list_iterator", data := .fields #[.ref l, .int 0 0] }
  get := fun e I h => by
    subst e
    obtain ⟨its, rv, p, _⟩ := I.list h
    exact ⟨its, rv, p.isList⟩
  inj := fun e I h h' => by subst e; exact I.list_inj h h'
  lt := fun ⟨_, ho, _⟩ => Heap.lt_size ho
  it0 := fun e => ⟨_, e, rfl, rfl⟩
  itd := fun ⟨o, e, _, d⟩ => ⟨o, e, fun v z => by rw [d] at z; cases z⟩
  keepA := fun st k => st.at k
  draws := fun P w A it a its hh hne => Draws.list hh it a hne its
  begins := begins_list
def kdT (K : PySem.W.Frag) : Kd K where
  Sq := SqT K
  At := fun h it a i => h.IsTupleIter it a i
  Is := fun h a its => h.IsTuple a its
  ob := fun t => { cls := .type "tuple_iterator", data := .fields #[.ref t, .int 0 0] }
  get := fun e I h => by
    subst e
    obtain ⟨its, rv, p, _⟩ := I.tuple h
    exact ⟨its, rv, p⟩
  inj := fun e I h h' => by subst e; exact I.tuple_inj h h'
  lt := fun ⟨_, ho, _⟩ => Heap.lt_size ho
  it0 := fun e => ⟨_, e, rfl, rfl⟩
  itd := fun ⟨o, e, _, d⟩ => ⟨o, e, fun v z => by rw [d] at z; cases z⟩
  keepA := fun st k => st.at k
  draws := fun P w A it a its hh hne => Draws.tuple hh it a hne its
  begins := begins_tuple

theorem pair_new {P : Program} {w : World} {H : Hp} {h' : Heap} {T : Addr} {x y : V} {u v : Value} (hT : h'.IsTuple T #[u, v]) (rx : RelV x u) (ry : RelV y v) : ObjOk P w (upd H T (.tup [x, y])) h' T (.tup [x, y]) :=
  ⟨by show 2 ≤ sizeLine; decide, [u, v], .cons rx (.cons ry .nil), hT⟩

/-! ### enumerate -/
/-- each item of the sequence at a with its number, in a new pair -/
def IteK {K : PySem.W.Frag} (k : Kd K) (a : Addr) : It :=
  ⟨fun i H => ∃ (xs : List V) (x : V), k.Sq H a xs ∧ xs[i]? = some x, fun i H v H' => ∃ T x, v = .ref T ∧ H T = none ∧ H' = upd H T (.tup [.int (i : Nat), x]) ∧ ∀ xs, k.Sq H a xs → xs[i]? = some x, fun i H => ∃ xs : List V, k.Sq H a xs ∧ xs.length = i⟩
theorem turn_enumK {P : Program} {w : World} {K : PySem.W.Frag} (k : Kd K) {elts : List Expr} {kk : Nat} {tpos : Pos} (a e it : Addr) (hne : e ≠ it) (hea : e ≠ a) (hia : a ≠ it) :
    Turn P w K (.Tuple elts kk tpos) (IteK k a) [e, it] e (fun i h => (∃ old, IsEnum h e it (0 + (i : Int)) old) ∧ k.At h it a i) where
  mem := by simp
  obj := fun i h st b hb => by
    have eb : b = e ∨ b = it := by simpa using hb
    cases eb with
    | inl z =>
      obtain ⟨old, he⟩ := st.1
      rw [z]; exact ⟨_, he, fun v q => nomatch q⟩
    | inr z => rw [z]; exact k.itd st.2
  keep := fun i h h' st kp => ⟨let ⟨old, he⟩ := st.1; ⟨old, kp e (by simp) _ he⟩, k.keepA st.2 fun o q => kp it (by simp) o q⟩
  item := by
    intro X hP hw hK hc i pins s σ H E I hf st hg
    subst hP hw
    obtain ⟨xs, x, hq, hx⟩ := hg
    obtain ⟨its, rv, p⟩ := k.get hK I hq
    obtain ⟨u, hu, ru⟩ := rv.get hx
    have he : e < s.heap.objs.size := let ⟨_, q⟩ := st.1; Heap.lt_size q
    have hi : it < s.heap.objs.size := let ⟨_, q, _⟩ := k.itd st.2; Heap.lt_size q
    have G := GoesN.enumFrom (elts := elts) (x1 := kk) (pos := tpos) 0 (k.draws X.prog X.w X.A.in1 it a its.toArray (I.ok.hd hc) hia) e hne (by simp only [List.mem_cons, List.not_mem_nil, or_false, not_or]; exact ⟨hne, hea⟩) (by simp)
    have hin : i < its.toArray.size := by
      have := (List.getElem?_eq_some_iff.mp hu).1
      simpa using this
    refine wpAny_mono (G.goes i s (fun v s2 => ∃ x H', Inv X pins σ H' s2 ∧ RelV x v ∧ (IteK k a).yld i H x H' ∧ ((∃ old, IsEnum s2.heap e it (0 + ((i + 1 : Nat) : Int)) old) ∧ k.At s2.heap it a (i + 1)) ∧ ∀ b ∈ [e, it], H' b = none) E hin ⟨st.1, st.2, p⟩ ?_) (fun r s1 h => h) fun _ _ z => z
    intro v h' tk hY st' hk _
    obtain ⟨T, t, y, ev, hT0, hy, hT⟩ := hY
    have hyu : y = u := by
      have e1 : its.toArray[i]? = some u := by simpa using hu
      rw [e1] at hy
      exact (Option.some.inj hy).symm
    subst hyu
    have new : ObjOk X.prog X.w (upd H T (.tup [.int (i : Nat), x])) h' T (.tup [.int (i : Nat), x]) := pair_new hT ⟨t, by rw [Int.zero_add]⟩ ru
    refine ⟨.ref T, _, I.turnedNew (t' := tk) (ch := [e, it]) (fun b o hb q => hk b o hb q) hf hT0 new, ev.symm ▸ rfl, ⟨T, x, rfl, I.hok.fresh hT0, rfl, fun ys hy => by rw [k.inj hK I hy hq]; exact hx⟩, ⟨st'.1, st'.2.1⟩, fun b hb => ?_⟩
    have hlt : b < s.heap.objs.size := by
      have eb : b = e ∨ b = it := by simpa using hb
      cases eb with
      | inl z => rw [z]; exact he
      | inr z => rw [z]; exact hi
    rw [upd_ne (Nat.ne_of_lt (Nat.lt_of_lt_of_le hlt hT0))]
    exact (hf b hb).1
  done := by
    intro X hP hw hK hc i pins s σ H E I hf st hg
    subst hP hw
    obtain ⟨xs, hq, hx⟩ := hg
    obtain ⟨its, rv, p⟩ := k.get hK I hq
    have hl : its.toArray.size = i := by rw [List.size_toArray, ← rv.length]; exact hx
    have G := GoesN.enumFrom (elts := elts) (x1 := kk) (pos := tpos) 0 (k.draws X.prog X.w X.A.in1 it a its.toArray (I.ok.hd hc) hia) e hne (by simp only [List.mem_cons, List.not_mem_nil, or_false, not_or]; exact ⟨hne, hea⟩) (by simp)
    subst hl
    refine wpAny_mono (G.stops s (fun s1 => Inv X pins σ H s1) E ⟨st.1, st.2, p⟩ fun h' tk hk _ => I.turnedL (t' := tk) (ch := [e, it]) (fun b o hb q => hk b o hb q) hf) (fun r s1 h => h) fun _ _ z => z
  self := fun A i s Q E st h => let ⟨_, he⟩ := st.1; wpAny_pyIter_enum he h
def iEnumK {K : PySem.W.Frag} (k : Kd K) (ta : TA) : TI := fun σ H R => ta σ H fun vs H1 => ∃ a xs, vs = [.ref a] ∧ k.Sq H1 a xs ∧ R (IteK k a) H1
theorem walk_enumK {K : PySem.W.Frag} {k : Kd K} {a : Addr} {xs : List V} : Walk (IteK k a) xs.length (fun H => k.Sq H a xs) (YPair (fun i => some (.int (i : Nat))) (fun i => xs[i]?)) := by
  refine ⟨fun i _ hi q => ⟨xs, xs[i], q, by simp [hi]⟩, fun _ q => ⟨xs, q, rfl⟩, fun i H v H' _ q y => ?_⟩
  obtain ⟨T, x, h1, h2, h3, h4⟩ := y
  exact ⟨T, .int (i : Nat), x, h1, h2, h3, rfl, h4 xs q⟩

/-- enumerate(v) begins -/
theorem meets_enum1 {v : Value} {o : Obj} {H : Heap → Prop} (B : Begins v o H) :
    Meets (Builtin.«enumerate.__new__» ⟨[.type "enumerate", v], []⟩) (fun _ R s => H s.heap ∧
      R (.ok (.ret (.ref (s.heap.push o).objs.size))) { s with heap := (s.heap.push o).push { cls := .type "enumerate", data := .fields #[.none, .bool false, .ref s.heap.objs.size, rawInt 0, .none, .none] } }) := by
  refine .of_wp fun prog w A R s h => ?_
  obtain ⟨hp, g, d, tk, os⟩ := s
  obtain ⟨hH, hR⟩ := h
  have isub := sub_enumerate
  have goes : ∀ {A' : Around} {E : Value → Shared → Prop} {Q : Value → Shared → Prop}, Q (.ref hp.objs.size) ⟨hp.push o, g, d, tk, os⟩ → wpAny (model prog w) A' (pyIter v) Q E ⟨hp, g, d, tk, os⟩ := fun q => B.iter prog w _ _ ⟨hp, g, d, tk, os⟩ _ hH q
  wp_walk using goes
  refine wpAny_stack_any fun _ => wpAny_pure ?_
  split
  · rename_i cc _ _ _ _ _
    cases (cc == Value.type "enumerate") <;> (wp_walk using goes; exact ⟨_, rfl, hR⟩)
  · wp_walk using goes
    exact ⟨_, rfl, hR⟩
theorem enum1_begins {prog : Program} {w : World} {A : Around} {E : Value → Shared → Prop} {s : Shared} {v : Value} {o : Obj} {H : Heap → Prop} {Q : Value → Shared → Prop} (B : Begins v o H) (hH : H s.heap)
    (h : ∀ h', IsEnum h' (s.heap.objs.size + 1) s.heap.objs.size 0 .none → h'.get? s.heap.objs.size = some o → (∀ b u, s.heap.get? b = some u → h'.get? b = some u) → Q (.ref (s.heap.objs.size + 1)) { s with heap := h' }) :
    wpAny (model prog w) A (call (.type "enumerate") [v]) Q E s := by
  refine callType_new F.called_enumerate (by decide) (F.typeCall_enumerate_1 _) (F.newCall_enumerate_1 _) (fun obj => F.args_object_init_2 obj _) F.entry_enumerate_new (meets_enum1 B) ⟨hH, ?_⟩
  have sz : (s.heap.push o).objs.size = s.heap.objs.size + 1 := Heap.size_push ..
  have he : ((s.heap.push o).push { cls := .type "enumerate", data := .fields #[.none, .bool false, .ref s.heap.objs.size, rawInt 0, .none, .none] }).get? (s.heap.objs.size + 1) = some { cls := .type "enumerate", data := .fields #[.none, .bool false, .ref s.heap.objs.size, rawInt 0, .none, .none] } := by
    rw [← sz]; exact Heap.get?_push_size _ rfl
  show _ ∧ _
  rw [sz]
  exact ⟨⟨_, he, rfl⟩, h _ he (Heap.get?_push_of_some _ (Heap.get?_push_size _ B.free)) fun b u x => Heap.get?_push_of_some _ (Heap.get?_push_of_some _ x)⟩
section
variable {X : Cx}
theorem pi_enumK (k : Kd X.K) {e : Expr} {ta : TA} {p pos tpos : Pos} {elts : List Expr} {kk : Nat} (hg : Gl X "enumerate") (hm : X.mg "enumerate" = none) (ha : PA X [e] ta) (hs : starEach [e] X.env = [(false, eval e X.env)] := by rfl) :
    PI X (.Tuple elts kk tpos) (.Call (.Name "enumerate" p) [e] [] pos) (iEnumK k ta) := by
  refine ⟨fun pins s σ H R I h => ?_⟩
  refine Call_ (ld_blt I hg hm boot_enumerate (PyProof.Rows.callWith_type1 (thn (ha.run pos pins s σ H _ I h) fun us s1 hh => ?_) hs rfl))
  obtain ⟨vs, H1, I1, r1, a, xs, rfl, hq, q⟩ := hh
  rw [Vals.ref1 r1]
  obtain ⟨its, rv, p'⟩ := k.get rfl I1 hq
  have hlt := k.lt p'
  refine enum1_begins (k.begins a its.toArray) p' fun h' he ho hk => wpAny_pyIter_enum he ?_
  refine ⟨s1.heap.objs.size + 1, [s1.heap.objs.size + 1, s1.heap.objs.size], _, _, H1, rfl, I1.kept (t' := s1.toks) hk, turn_enumK k a (s1.heap.objs.size + 1) s1.heap.objs.size (Nat.succ_ne_self _) (Nat.ne_of_gt (Nat.lt_succ_of_lt hlt)) (Nat.ne_of_lt hlt), ⟨⟨_, he⟩, k.it0 ho⟩, fun b hb => ?_, q⟩
  have hle : s1.heap.objs.size ≤ b := by
    have eb : b = s1.heap.objs.size + 1 ∨ b = s1.heap.objs.size := by simpa using hb
    cases eb with
    | inl z => rw [z]; exact Nat.le_succ _
    | inr z => rw [z]; exact Nat.le_refl _
  exact I1.fpOk hle (I1.hok.fresh hle)
end

/-! ### zip -/
/-- the items of two sequences, in new pairs -/
def ItzK {K : PySem.W.Frag} (k l : Kd K) (a b : Addr) : It :=
  ⟨fun i H => ∃ (xs ys : List V) (x y : V), k.Sq H a xs ∧ l.Sq H b ys ∧ xs[i]? = some x ∧ ys[i]? = some y,
    fun i H v H' => ∃ T x y, v = .ref T ∧ H T = none ∧ H' = upd H T (.tup [x, y]) ∧ (∀ xs, k.Sq H a xs → xs[i]? = some x) ∧ ∀ ys, l.Sq H b ys → ys[i]? = some y,
    fun i H => ∃ xs ys : List V, k.Sq H a xs ∧ l.Sq H b ys ∧ min xs.length ys.length = i⟩
theorem turn_zipK {P : Program} {w : World} {K : PySem.W.Frag} (k l : Kd K) {elts : List Expr} {kk : Nat} {tpos : Pos} {a b z TI TO i1 i2 : Addr} (D : ZipSep2 z TI TO i1 i2 [i1, a] [i2, b]) (ha : a ≠ i1) (hb : b ≠ i2) :
    Turn P w K (.Tuple elts kk tpos) (ItzK k l a b) [z, TI, TO, i1, i2] z (fun i h => IsZip h z TI TO .none ∧ IsTupOf2 h TI (.ref i1) (.ref i2) ∧ (∃ a1 a2, IsTupOf2 h TO a1 a2) ∧ k.At h i1 a i ∧ l.At h i2 b i) where
  mem := by simp
  obj := fun i h st c hc => by
    obtain ⟨hz, hTI, ⟨a1, a2, hTO⟩, h1, h2⟩ := st
    have ec : c = z ∨ c = TI ∨ c = TO ∨ c = i1 ∨ c = i2 := by simpa using hc
    rcases ec with e | e | e | e | e <;> subst e
    · exact ⟨_, hz, fun v q => nomatch q⟩
    · exact ⟨_, hTI, fun v q => nomatch q⟩
    · exact ⟨_, hTO, fun v q => nomatch q⟩
    · exact k.itd h1
    · exact l.itd h2
  keep := fun i h h' st kp => by
    obtain ⟨hz, hTI, ⟨a1, a2, hTO⟩, h1, h2⟩ := st
    exact ⟨kp z (by simp) _ hz, kp TI (by simp) _ hTI, ⟨a1, a2, kp TO (by simp) _ hTO⟩, k.keepA h1 fun o q => kp i1 (by simp) o q, l.keepA h2 fun o q => kp i2 (by simp) o q⟩
  item := by
    intro X hP hw hK hc i pins s σ H E I hf st hg
    subst hP hw
    obtain ⟨xs, ys, x, y, hqx, hqy, hx, hy⟩ := hg
    obtain ⟨its, rv, p⟩ := k.get hK I hqx
    obtain ⟨its2, rv2, p2⟩ := l.get hK I hqy
    obtain ⟨u, hu, ru⟩ := rv.get hx
    obtain ⟨u2, hu2, ru2⟩ := rv2.get hy
    obtain ⟨hz, hTI, hTO, h1, h2⟩ := st
    have low : ∀ c ∈ [z, TI, TO, i1, i2], c < s.heap.objs.size := fun c hc' => by
      obtain ⟨a1, a2, hTO⟩ := hTO
      have ec : c = z ∨ c = TI ∨ c = TO ∨ c = i1 ∨ c = i2 := by simpa using hc'
      rcases ec with e | e | e | e | e <;> subst e
      · exact Heap.lt_size hz
      · exact Heap.lt_size hTI
      · exact Heap.lt_size hTO
      · obtain ⟨_, q, _⟩ := k.itd h1; exact Heap.lt_size q
      · obtain ⟨_, q, _⟩ := l.itd h2; exact Heap.lt_size q
    have G := GoesN.zip2 (elts := elts) (x1 := kk) (pos := tpos) D (k.draws X.prog X.w X.A.in1 i1 a its.toArray (I.ok.hd hc) ha) (l.draws X.prog X.w X.A.in1 i2 b its2.toArray (I.ok.hd hc) hb)
    have hin : i < min its.toArray.size its2.toArray.size := by
      have q1 := (List.getElem?_eq_some_iff.mp hu).1
      have q2 := (List.getElem?_eq_some_iff.mp hu2).1
      simp only [List.size_toArray]
      omega
    refine wpAny_mono (G.goes i s (fun v s2 => ∃ x H', Inv X pins σ H' s2 ∧ RelV x v ∧ (ItzK k l a b).yld i H x H' ∧ (IsZip s2.heap z TI TO .none ∧ IsTupOf2 s2.heap TI (.ref i1) (.ref i2) ∧ (∃ a1 a2, IsTupOf2 s2.heap TO a1 a2) ∧ k.At s2.heap i1 a (i + 1) ∧ l.At s2.heap i2 b (i + 1)) ∧ ∀ c ∈ [z, TI, TO, i1, i2], H' c = none) E hin ⟨hz, hTI, hTO, ⟨h1, p⟩, ⟨h2, p2⟩⟩ ?_) (fun r s1 h => h) fun _ _ q => q
    intro v h' tk hY st' hk _
    obtain ⟨T, x', y', ev, hT0, hx', hy', hT⟩ := hY
    have e1 : x' = u := by
      have q : its.toArray[i]? = some u := by simpa using hu
      rw [q] at hx'
      exact (Option.some.inj hx').symm
    have e2 : y' = u2 := by
      have q : its2.toArray[i]? = some u2 := by simpa using hu2
      rw [q] at hy'
      exact (Option.some.inj hy').symm
    subst e1; subst e2
    have new : ObjOk X.prog X.w (upd H T (.tup [x, y])) h' T (.tup [x, y]) := pair_new hT ru ru2
    refine ⟨.ref T, _, I.turnedNew (t' := tk) (ch := [z, TI, TO, i1, i2]) (fun c o hc' q => hk c o (fun m => hc' ?_) q) hf hT0 new, ev.symm ▸ rfl, ⟨T, x, y, rfl, I.hok.fresh hT0, rfl, fun zs hz' => by rw [k.inj hK I hz' hqx]; exact hx, fun zs hz' => by rw [l.inj hK I hz' hqy]; exact hy⟩, ⟨st'.1, st'.2.1, st'.2.2.1, st'.2.2.2.1.1, st'.2.2.2.2.1⟩, fun c hc' => ?_⟩
    · have em : c = z ∨ c = TO ∨ c = i1 ∨ c = i2 := by simpa using m
      rcases em with e | e | e | e <;> simp [e]
    · rw [upd_ne (Nat.ne_of_lt (Nat.lt_of_lt_of_le (low c hc') hT0))]
      exact (hf c hc').1
  done := by
    intro X hP hw hK hc i pins s σ H E I hf st hg
    subst hP hw
    obtain ⟨xs, ys, hqx, hqy, he⟩ := hg
    obtain ⟨its, rv, p⟩ := k.get hK I hqx
    obtain ⟨its2, rv2, p2⟩ := l.get hK I hqy
    obtain ⟨hz, hTI, hTO, h1, h2⟩ := st
    have G := GoesN.zip2 (elts := elts) (x1 := kk) (pos := tpos) D (k.draws X.prog X.w X.A.in1 i1 a its.toArray (I.ok.hd hc) ha) (l.draws X.prog X.w X.A.in1 i2 b its2.toArray (I.ok.hd hc) hb)
    have hl : min its.toArray.size its2.toArray.size = i := by rw [List.size_toArray, List.size_toArray, ← rv.length, ← rv2.length]; exact he
    subst hl
    refine wpAny_mono (G.stops s (fun s1 => Inv X pins σ H s1) E ⟨hz, hTI, hTO, ⟨h1, p⟩, ⟨h2, p2⟩⟩ fun h' tk hk _ => I.turnedL (t' := tk) (ch := [z, TI, TO, i1, i2]) (fun c o hc' q => hk c o (fun m => hc' ?_) q) hf) (fun r s1 h => h) fun _ _ q => q
    have em : c = z ∨ c = TO ∨ c = i1 ∨ c = i2 := by simpa using m
    rcases em with e | e | e | e <;> simp [e]
  self := fun A i s Q E st h => wpAny_pyIter_zip st.1 h
theorem walk_zipK {K : PySem.W.Frag} {k l : Kd K} {a b : Addr} {xs ys : List V} {n : Nat} (hx : xs.length = n) (hy : ys.length = n) : Walk (ItzK k l a b) n (fun H => k.Sq H a xs ∧ l.Sq H b ys) (YPair (fun i => xs[i]?) (fun i => ys[i]?)) := by
  refine ⟨fun i _ hi q => ?_, fun _ q => ⟨xs, ys, q.1, q.2, by omega⟩, fun i H v H' _ q y => ?_⟩
  · have h1 : i < xs.length := by omega
    have h2 : i < ys.length := by omega
    exact ⟨xs, ys, xs[i], ys[i], q.1, q.2, by simp [h1], by simp [h2]⟩
  · obtain ⟨T, x, z, h1, h2, h3, h4, h5⟩ := y
    exact ⟨T, x, z, h1, h2, h3, h4 xs q.1, h5 ys q.2⟩
/-- zip(t, v): t a tuple, v a list or a tuple -/
def iZipK (K : PySem.W.Frag) (ta : TA) : TI := fun σ H R => ta σ H fun vs H1 => ∃ a b xs ys, vs = [.ref a, .ref b] ∧ SqT K H1 a xs ∧ ((SqL K H1 b ys ∧ R (ItzK (kdT K) (kdL K) a b) H1) ∨ (SqT K H1 b ys ∧ R (ItzK (kdT K) (kdT K) a b) H1))
section
variable {X : Cx}
theorem zip_it (k l : Kd X.K) {pins : List (Addr × Obj)} {σ : L2.St} {H : Hp} {s : Shared} {R : It → Hp → Prop} {a b : Addr} {xs ys : List V} {elts : List Expr} {kk : Nat} {tpos : Pos} (I : Inv X pins σ H s) (hx : k.Sq H a xs) (hy : l.Sq H b ys) (q : R (ItzK k l a b) H) :
    wpAny (model X.prog X.w) X.A (call (.type "zip") [.ref a, .ref b]) (fun v s1 => wpAny (model X.prog X.w) X.A (pyIter v) (PIE X pins σ (.Tuple elts kk tpos) R) X.xe s1) X.xe s := by
  obtain ⟨its, rv, p⟩ := k.get rfl I hx
  obtain ⟨its2, rv2, p2⟩ := l.get rfl I hy
  have la := k.lt p
  have lb := l.lt p2
  refine zip_begins2 (k.begins a its.toArray) (l.begins b its2.toArray) p p2 fun h' hz hTI hTO o1 o2 _ hk => wpAny_pyIter_zip hz ?_
  have sep := zip_sep2 (N := s.heap.objs.size) (fp1 := [a]) (fp2 := [b]) (fun c hc => by rw [List.mem_singleton.mp hc]; exact la) (fun c hc => by rw [List.mem_singleton.mp hc]; exact lb)
  refine ⟨s.heap.objs.size + 4, [s.heap.objs.size + 4, s.heap.objs.size + 2, s.heap.objs.size + 3, s.heap.objs.size, s.heap.objs.size + 1], _, _, H, rfl, I.kept (t' := s.toks) hk, turn_zipK k l sep (Nat.ne_of_lt la) (Nat.ne_of_lt (Nat.lt_succ_of_lt lb)), ⟨hz, hTI, ⟨_, _, hTO⟩, k.it0 o1, l.it0 o2⟩, fun c hc => ?_, q⟩
  have hle : s.heap.objs.size ≤ c := by
    have ec : c = s.heap.objs.size + 4 ∨ c = s.heap.objs.size + 2 ∨ c = s.heap.objs.size + 3 ∨ c = s.heap.objs.size ∨ c = s.heap.objs.size + 1 := by simpa using hc
    rcases ec with e | e | e | e | e <;> rw [e] <;> first | exact Nat.le_add_right _ _ | exact Nat.le_refl _
  exact I.fpOk hle (I.hok.fresh hle)
theorem pi_zipK {e e2 : Expr} {ta : TA} {p pos tpos : Pos} {elts : List Expr} {kk : Nat} (hg : Gl X "zip") (hm : X.mg "zip" = none) (ha : PA X [e, e2] ta)
    (hs : starEach [e, e2] X.env = (false, eval e X.env) :: starEach [e2] X.env := by rfl) (hpl : (backTo pos (starEach [e2] X.env)).any (·.1) = false := by rfl) :
    PI X (.Tuple elts kk tpos) (.Call (.Name "zip" p) [e, e2] [] pos) (iZipK X.K ta) := by
  refine ⟨fun pins s σ H R I h => ?_⟩
  refine Call_ (ld_blt I hg hm PyProof.Rows.boot_zip (PyProof.Rows.callWith_type1 (thn (ha.run pos pins s σ H _ I h) fun us s1 hh => ?_) hs hpl))
  obtain ⟨vs, H1, I1, r1, a, b, xs, ys, rfl, hx, hy⟩ := hh
  cases r1 with
  | cons r rr =>
    cases rr with
    | cons r' rr =>
      cases rr
      cases r
      cases r'
      rcases hy with ⟨hy, q⟩ | ⟨hy, q⟩
      · exact zip_it (kdT X.K) (kdL X.K) I1 hx hy q
      · exact zip_it (kdT X.K) (kdT X.K) I1 hx hy q
/-- a sequence of either kind, walked -/
def iSeq (K : PySem.W.Frag) (tl : TE) : TI := fun σ H R => tl σ H fun x H1 => ∃ a xs, x = .ref a ∧ ((SqL K H1 a xs ∧ R (Itl K a) H1) ∨ (SqT K H1 a xs ∧ R (Itt K a) H1))
theorem pi_seq {tg l : Expr} {tl : TE} (hl : PE X l tl) : PI X tg l (iSeq X.K tl) := by
  refine ⟨fun pins s σ H R I h => ?_⟩
  refine thn (hl.run pins s σ H _ I h) fun v s1 hh => ?_
  obtain ⟨x, H1, I1, r1, a, xs, rfl, hq⟩ := hh
  cases r1
  have done : ∀ {it a : Addr} {J : It} {tn : Nat → Heap → Prop} {o : Obj}, it = s1.heap.objs.size → Turn X.prog X.w X.K tg J [it] it tn → tn 0 (s1.heap.push o) → R J H1 → PIE X pins σ tg R (.ref it) { s1 with heap := s1.heap.push o } := fun {it a J tn o} e T st q => by
    subst e
    refine ⟨s1.heap.objs.size, [s1.heap.objs.size], tn, J, H1, rfl, I1.kept (t' := s1.toks) fun b u z => Heap.get?_push_of_some _ z, T, st, fun b hb => ?_, q⟩
    rw [List.mem_singleton.mp hb]
    exact I1.fpOk (Nat.le_refl _) (I1.hok.fresh (Nat.le_refl _))
  rcases hq with ⟨hq, q⟩ | ⟨hq, q⟩
  · obtain ⟨its, rv, p, _⟩ := I1.list hq
    exact wpAny_pyIter_list p.isList (done (a := a) rfl (turn_list a _) ⟨_, Heap.get?_push_size _ rfl, rfl, rfl⟩ q)
  · obtain ⟨its, rv, p, _⟩ := I1.tuple hq
    exact wpAny_pyIter_tuple (show s1.heap.IsTuple a its.toArray from p) (done (a := a) rfl (turn_tuple a _) ⟨_, Heap.get?_push_size _ rfl, rfl, rfl⟩ q)
end
end TR
namespace TR
open PySem PySem.Spec PyProof.Rows L2
/-! ### f(k = v, ..): keywords alone -/
section
variable {X : Cx} {CX : CXT} {k : Nat} {f : Addr} {fd : FuncData} {ps ks : List Str} {sp : Sp} {E : XK} {x : Str} {p pos : Pos} {kws : List Keyword} {tk : TA}
def tCallKw (sp : Sp) (gV : List V → List V → List V) (E : XK) (tk : TA) : TE := fun σ H Q => tk σ H fun zs H2 => sp (gV [] zs) H2 Q E
variable {g : List Value → List Value → List Value} {gV : List V → List V → List V}
theorem pe_callKw (F : FnOk X.prog X.w X.K X.mg X.base CX k f fd ps sp) (hr : Room k X.A) (hg : Gl X x) (hm : X.mg x = some (.ref f)) (hk : PySem.W.keepIn X.K (.ref f) = true) (hb : KBinds X.K fd ps ks g gV) (hx : Passes CX X E)
    (hkw : PK X kws tk) (hall : (backToKw pos (keywordEach kws X.env)).all (·.1.isSome) = true := by rfl) (hks : (backToKw pos (keywordEach kws X.env)).filterMap (·.1) = ks := by rfl)
    (hdb : (x == ("__debug__" : Str)) = false := by decide) (hpl : ((backTo pos (starEach [] X.env)).any (·.1) || (backToKw pos (keywordEach kws X.env)).any (·.1.isNone)) = false := by rfl) :
    PE X (.Call (.Name x p) [] kws pos) (tCallKw sp gV E tk) := by
  refine ⟨fun pins s σ H Q I h => wpAny_Call_Name_kw (ld_glob I hg hm ?_ hdb)⟩
  refine PySem.W.callWith_KW0 (h₀ := X.base) I.ok.mod.kin hk hall (thn (hkw.run pos pins s σ H _ I h) fun ws s2 hh => ?_) hpl
  obtain ⟨zs, H2, I2, rz, q⟩ := hh
  refine ⟨I2.kIn, ?_⟩
  rw [hks]
  exact run_fnk (us := []) (vs := []) F hr hb hx I2 .nil rz q
end

/-! ### sorted of rows -/
/-- the items are rows, by R -/
def Rows (R : Addr → List Int → Prop) (xs : List V) (rows : List (List Int)) : Prop := Paired (fun x r => ∃ p, x = V.ref p ∧ R p r) xs rows
section
variable {X : Cx}
def rSortedR (K : PySem.W.Frag) : List V → Hp → VK → Prop := fun vs H Q => ∃ (a : Addr) (xs : List V) (rows : List (List Int)) (R : Addr → List Int → Prop), vs = [V.ref a] ∧ SqL K H a xs ∧ Rows R xs rows ∧ (∀ p r, R p r → H p = some (.lst (r.map V.int))) ∧
  ∀ (ys : List V) (p : Addr), Rows R ys (rows.mergeSort fun p q => decide (p ≤ q)) → H p = none → Q (.ref p) (upd H p (.lst ys))
/-- a value and the row that it is -/
def RowV (R : Addr → List Int → Prop) (u : Value) (r : List Int) : Prop := ∃ p, u = Value.ref p ∧ R p r
theorem rows_each {R : Addr → List Int → Prop} : ∀ {xs : List V} {rows : List (List Int)} {us : List Value}, Rows R xs rows → Vals xs us → PySem.W.EachIs (RowV R) us rows
  | _, _, _, .nil, .nil => .nil
  | _, _, _, .cons h t, .cons r rt => by
    obtain ⟨p, rfl, hp⟩ := h
    cases r
    exact .cons ⟨p, rfl, hp⟩ (rows_each t rt)
theorem rows_back {R : Addr → List Int → Prop} : ∀ {us : List Value} {rows : List (List Int)}, PySem.W.EachIs (RowV R) us rows → ∃ ys, Vals ys us ∧ Rows R ys rows
  | _, _, .nil => ⟨[], .nil, .nil⟩
  | _, _, .cons r t => by
    obtain ⟨p, rfl, hp⟩ := r
    obtain ⟨ys, h1, h2⟩ := rows_back t
    exact ⟨V.ref p :: ys, .cons rfl h1, .cons ⟨p, rfl, hp⟩ h2⟩
theorem dpAll_ints {K : PySem.W.Frag} {H : Hp} : ∀ r : List Int, DpAll K H (r.map V.int) (r.map PyData.int)
  | [] => .nil
  | i :: r => .cons (.int i) (dpAll_ints r)
theorem row_reads {pins : List (Addr × Obj)} {σ : L2.St} {H : Hp} {s : Shared} (I : Inv X pins σ H s) {R : Addr → List Int → Prop} (hR : ∀ p r, R p r → H p = some (.lst (r.map V.int))) {u : Value} {r : List Int} (h : RowV R u r) : ∃ as, Reads s.heap u (.list (r.map PyData.int)) as := by
  obtain ⟨p, rfl, hp⟩ := h
  exact Dp.reads I (.list (r.map PyData.int)) (.ref p) _ (.lst (SqL.of (hR p r hp)) (dpAll_ints r)) rfl
theorem sqL_at {X : Cx} {pins : List (Addr × Obj)} {σ : L2.St} {H : Hp} {s : Shared} (I : Inv X pins σ H s) {a : Addr} {xs : List V} (h : SqL X.K H a xs) : a < s.heap.objs.size := by
  obtain ⟨its, _, p, _⟩ := I.list h
  exact p.lt
theorem cr_sortedR (hu : X.A.units + 64 < cLine) : CallR X (.builtin "sorted") (rSortedR X.K) := by
  intro pins s σ H vs us Q I r h
  obtain ⟨a, xs, rows, R, rfl, hs, hrows, hR, q⟩ := h
  obtain ⟨its, rv, hl, hz⟩ := I.list hs
  rw [Vals.ref1 r]
  have er := rows_each hrows rv
  have hlen : rows.length ≤ sizeLine := by rw [← er.length, ← rv.length]; exact hz
  refine PySem.W.sorted_data (enc := fun r : List Int => PyData.list (r.map PyData.int)) hl.isList er (er.mono fun _ _ h => row_reads I hR h) (PySem.W.AllAlike.of fun b b' => ?_) (PySem.W.Sortable.others fun b => ⟨fun z => (nomatch z), fun xs z => nomatch z⟩) hlen (fun b _ => ?_) fun out hlo he => ?_
  · exact PySem.W.alike_ints b b'
  · have : PyData.depth (.list (b.map PyData.int)) = 1 := by
      show PyData.depthAll (b.map PyData.int) + 1 = 1
      rw [PySem.W.depth_ints]
    rw [this]; omega
  · rw [PySem.W.dataLe_rows fun r : List Int => r] at he
    obtain ⟨ys, h1, h2⟩ := rows_back he
    obtain ⟨ep, he'⟩ := PyProof.Rows.sortedAll_at s.heap its out.toArray
    have hn : H (s.heap.objs.size + 1) = none := I.hok.fresh (Nat.le_succ _)
    have hlen' : ys.length ≤ sizeLine := by
      rw [h1.length, hlo]
      exact hlen
    refine ⟨.ref _, upd H (s.heap.objs.size + 1) (.lst ys), I.laid (t' := s.toks) (fun _ _ => PyProof.Rows.sortedAll_old) (Nat.le_succ _) ⟨hlen', out, ep, h1, he'⟩, rfl, q ys _ h2 hn⟩
end
end TR
namespace TR
open PySem PySem.Spec PyProof.Rows L2
open TA (Plc)
/-! ### sorted(d), the keys pairs of counts -/
def keyOf (q : Plc) : List L2.Key := [Sum.inl (q.1 : Int), Sum.inl (q.2 : Int)]
abbrev vn (n : Nat) : V := V.int (n : Int)
abbrev vp (q : Plc) : List V := [vn q.1, vn q.2]
theorem keyOf_vals (q : Plc) : (keyOf q).map kV = vp q := rfl
theorem keyOf_inj {q r : Plc} (h : keyOf q = keyOf r) : q = r := by
  unfold keyOf at h
  injection h with h1 h2
  injection h2 with h2 _
  have h1 := Sum.inl.inj h1
  have h2 := Sum.inl.inj h2
  exact Prod.ext (by omega) (by omega)
section
variable {X : Cx}
def rSortedDT : List V → Hp → VK → Prop := fun vs H Q => ∃ (d : Addr) (kvs : List (List L2.Key × V)) (ks : List Plc), vs = [V.ref d] ∧ H d = some (.dT kvs) ∧ kvs.map (·.1) = ks.map keyOf ∧ ks.length < 64 ∧ (∀ q ∈ ks, q.1 < 1000 ∧ q.2 < 1000) ∧
  ∀ (ls : List (Addr × Plc)) (p : Addr), (ls.map (·.2)).Perm ks → (∀ x ∈ ls, H x.1 = some (.tup (vp x.2))) → H p = none → Q (.ref p) (upd H p (.lst (ls.map fun x => V.ref x.1)))
/-- the key tuples of the dict's rows, with their places -/
theorem dT_rows {H : Hp} : ∀ {kvs : List (List L2.Key × V)} {xs : List (List L2.Key × Addr × Value)} {ks : List Plc}, KT H kvs xs → kvs.map (·.1) = ks.map keyOf → ∃ ls : List (Addr × Plc), xs.map (fun x => x.2.1) = ls.map (·.1) ∧ ls.map (·.2) = ks ∧ ∀ x ∈ ls, H x.1 = some (.tup (vp x.2))
  | [], _, [], .nil, _ => ⟨[], rfl, rfl, fun x hx => by simp at hx⟩
  | (k, v) :: r, _, q :: ks, .cons h t, e => by
    rw [List.map_cons, List.map_cons] at e
    injection e with e1 e2
    obtain ⟨ls, h1, h2, h3⟩ := dT_rows t e2
    obtain ⟨h4, h5, h6⟩ := h
    refine ⟨(_, q) :: ls, by rw [List.map_cons, List.map_cons, h1], by rw [List.map_cons, h2], fun x hx => ?_⟩
    rcases List.mem_cons.mp hx with rfl | hx
    · have e1 : k = keyOf q := e1
      simp only at h5
      rw [e1] at h5
      exact h5
    · exact h3 x hx
  | [], _, _ :: _, _, e => by simp at e
  | _ :: _, _, [], _, e => by simp at e
theorem refs_perm : ∀ {vs : List Value} {ls : List (Addr × Plc)}, vs.Perm (ls.map fun x => Value.ref x.1) → ∃ ms : List (Addr × Plc), vs = ms.map (fun x => Value.ref x.1) ∧ ms.Perm ls := fun {vs ls} h => by
  have key : ∀ {as bs : List Value}, as.Perm bs → ∀ ls : List (Addr × Plc), bs = ls.map (fun x => Value.ref x.1) → ∃ ms : List (Addr × Plc), as = ms.map (fun x => Value.ref x.1) ∧ ms.Perm ls := fun {as bs} h => by
    induction h with
    | nil => intro ls e; exact ⟨ls, e, .refl _⟩
    | @cons x l₁ l₂ h ih =>
      intro ls e
      cases ls with
      | nil => simp at e
      | cons a r =>
        injection e with e1 e2
        obtain ⟨ms, h1, h2⟩ := ih r e2
        exact ⟨a :: ms, by rw [e1, h1]; rfl, h2.cons a⟩
    | swap x y l =>
      intro ls e
      cases ls with
      | nil => simp at e
      | cons a r =>
        cases r with
        | nil => simp at e
        | cons b r =>
          injection e with e1 e2
          injection e2 with e2 e3
          exact ⟨b :: a :: r, by rw [e1, e2, e3]; rfl, .swap _ _ _⟩
    | trans h1 h2 ih1 ih2 =>
      intro ls e
      obtain ⟨ms, a1, a2⟩ := ih2 ls e
      obtain ⟨ns, b1, b2⟩ := ih1 ms a1
      exact ⟨ns, b1, b2.trans a2⟩
  exact key h ls rfl
theorem vals_of_ls : ∀ ls : List (Addr × Plc), Vals (ls.map fun x => V.ref x.1) (ls.map fun x => Value.ref x.1)
  | [] => .nil
  | _ :: r => .cons rfl (vals_of_ls r)
theorem cr_sortedDT (hc : X.calm = true) : CallR X (.builtin "sorted") rSortedDT := by
  intro pins s σ H vs us Q I r h
  obtain ⟨d, kvs, ks, rfl, hd, hks, h64, hB, q⟩ := h
  rw [Vals.ref1 r]
  obtain ⟨_, hs, xs, pr, o, es, ep, ho, hx, hdt, he, hn⟩ := (show ObjOk X.prog X.w H s.heap d (.dT kvs) from I.hok d _ hd)
  obtain ⟨ls, l1, l2, l3⟩ := dT_rows pr hks
  have hxl : xs.length = ks.length := by
    have a := congrArg List.length l1
    have b := congrArg List.length l2
    rw [List.length_map, List.length_map] at a
    rw [List.length_map] at b
    omega
  have hes : es.size = xs.length := size_of_entries he
  refine Calls.call_function_entry PyProof.Rows.kind_sorted PyProof.Rows.plain_sorted PyProof.Rows.entry_sorted (PyProof.Rows.args_sorted1 _) ?_
  unfold Builtin.«sorted»
  refine wpAny_bind (m := checkCount "sorted" 1 1 _) (wpAny_pure ?_)
  refine wpAny_bind (PySem.W.kdu_collect (A := X.A.in1) (kdl_raw hs hx hdt) (I.ok.hd hc) ho (by rw [hes, hxl, sizeLine_eq]; omega) fun h' tk acc hk hacc => ?_)
  have hal : acc.toList.length = es.size := by rw [Array.length_toList]; exact hacc.1
  have hv : acc.toList = ls.map fun x => Value.ref x.1 := by
    have e2 : acc.toList = xs.map fun x => Value.ref x.2.1 := by
      refine List.ext_getElem (by rw [hal, hes, List.length_map]) fun j h1 h2 => ?_
      obtain ⟨en, e1, e3⟩ := hacc.2 j acc.toList[j] (by rw [← Array.getElem?_toList]; exact List.getElem?_eq_getElem h1)
      rw [entry_at he j] at e1
      have hj : j < xs.length := by rw [← hes, ← hal]; exact h1
      rw [List.getElem?_eq_getElem hj] at e1
      rw [e3, ← Option.some.inj e1, List.getElem_map]
      rfl
    have e3 : xs.map (fun x => Value.ref x.2.1) = (xs.map fun x => x.2.1).map Value.ref := by rw [List.map_map]; rfl
    rw [e2, e3, l1, List.map_map]; rfl
  have I1 : Inv X pins σ H { s with heap := h', toks := tk } := I.kept hk
  refine wpAny_bind (wpAny_newList ?_ (by rw [hal, hes, hxl, sizeLine_eq]; omega))
  have hoL : (h'.push (seqObj "list" acc.toList.toArray 0)).get? h'.objs.size = some (seqObj "list" acc.toList.toArray 0) := Heap.get?_push_size _ rfl
  show wpAny _ _ _ _ _ { s with heap := h'.push (seqObj "list" acc.toList.toArray 0), toks := tk }
  have hT : ∀ x ∈ ls, TS.TupInts (h'.push (seqObj "list" acc.toList.toArray 0)) (.ref x.1) [(x.2.1 : Int), (x.2.2 : Int)] := fun x hx => by
    obtain ⟨its, rv, p, _⟩ := I1.tuple (SqT.of (K := X.K) (l3 x hx))
    refine ⟨x.1, its.toArray, rfl, ?_, by simpa using Vals.ints (ns := [(x.2.1 : Int), (x.2.2 : Int)]) rv⟩
    obtain ⟨ob, e1, e2⟩ := p
    exact ⟨ob, Heap.get?_push_of_some _ e1, e2⟩
  refine wpAny_bind (wpAny_holding (TS.call_sort_tups (s := { s with heap := h'.push (seqObj "list" acc.toList.toArray 0), toks := tk }) (d := 2) (B := 1000) hoL (by rw [hal, hes, hxl]; exact h64) (by decide) (fun v hv' => ?_) fun out g1 _ => ?_))
  · rw [hv] at hv'
    obtain ⟨x, hx, rfl⟩ := List.mem_map.mp hv'
    have hb := hB x.2 (l2 ▸ List.mem_map.mpr ⟨x, hx, rfl⟩)
    refine ⟨_, hT x hx, rfl, fun m hm => ?_⟩
    have em : m = (x.2.1 : Int) ∨ m = (x.2.2 : Int) := by simpa using hm
    rcases em with e | e <;> omega
  · rw [hv] at g1
    obtain ⟨ms, m1, m2⟩ := refs_perm g1
    obtain ⟨c, hc'⟩ := PyProof.Rows.sortedHeap_at (vs := acc.toList) (out := out) hoL
    have hm : ∀ x ∈ ms, H x.1 = some (.tup (vp x.2)) := fun x hx => l3 x (m2.mem_iff.mp hx)
    have hlen : (ms.map fun x => V.ref x.1).length ≤ sizeLine := by
      have a := m2.length_eq
      have b := congrArg List.length l2
      rw [List.length_map] at b
      rw [List.length_map, sizeLine_eq]
      omega
    have hn0 : H h'.objs.size = none := I1.hok.fresh (Nat.le_refl _)
    have hkeep : ∀ b u, h'.get? b = some u → (sortedHeap (h'.push (seqObj "list" acc.toList.toArray 0)) h'.objs.size acc.toList out).get? b = some u := fun b u e => by
      have hlt := Heap.lt_size e
      rw [PyProof.Rows.sortedHeap_old (Nat.ne_of_lt hlt) (by rw [Heap.size_push]; exact Nat.lt_succ_of_lt hlt)]
      exact Heap.get?_push_of_some _ e
    refine wpAny_pure ⟨_, rfl, .ref h'.objs.size, upd H h'.objs.size (.lst (ms.map fun x => V.ref x.1)), I1.laid (t' := tk) hkeep (Nat.le_refl _) ⟨hlen, out.toList, c, by rw [m1]; exact vals_of_ls ms, hc'⟩, rfl, q ms _ ?_ hm hn0⟩
    rw [← l2]
    exact m2.map _
end
end TR
namespace TR
open PySem PySem.Spec PyProof.Rows L2
/-! ### set(xs) of ints, xs a list or a tuple -/
/-- a fresh set, as it is made in this world -/
abbrev emptySet (w : World) : Obj := { cls := .type "set", dict := none, data := .set #[] 0 (.fresh 0 0 (!w.params.followText "set-order")) }
section
variable {P : Program} {w : World} {A : Around} {E : Value → Shared → Prop} {s : Shared}
theorem set_of_list {l : Addr} {items : Array Value} (ns : List Int) {Q : Value → Shared → Prop} (calm : A.handled = none) (isl : s.heap.IsList l items) (hint : IntsAre items.toList ns) (few : ns.length + 1 < scanBound)
    (done : ∀ (h' : Heap) (tk c : Nat), SetR w h' s.heap.objs.size (fun j => decide (j ∈ ns)) c → c ≤ ns.length → (∀ b o, s.heap.get? b = some o → h'.get? b = some o) → Q (.ref s.heap.objs.size) { s with heap := h', toks := tk }) :
    wpAny (model P w) A (call (.type "set") [.ref l]) Q E s := by
  have size_eq : items.size = ns.length := by
    rw [← Array.length_toList]; exact hint.length
  obtain ⟨oL, hoL, cL, nL, dL⟩ := id isl
  have lL : l < s.heap.objs.size := Heap.lt_size hoL
  have f1 := F.called_set.notType
  have f2 := F.called_set.canCreate
  have f3 := F.called_set.made
  have f4 := F.called_set.sub
  have f5 := F.called_set.init.lookup
  have f6 := F.called_set.init.bind (.ref s.heap.objs.size)
  have f7 := F.typeCall_set_1 (.ref l)
  obtain ⟨mc, mt, f8⟩ := F.called_set.mro
  refine wpAny_call (codeAny_of_tree (show wpAny _ _ (callAny (.type "set") _) _ _ _ from wpAny_pure ⟨Code.quiet_builtin _ (by decide +kernel), codeAny_builtin F.entry_type_call ?_⟩))
  rw [Around.under_plain (weight_type_call_type "set" [.ref l] []) rfl]
  repeat (any_goals (first | assumption | wp_step))
  refine codeAny_mono (code_set_led1 (.ref l) (E := E) (Q₁ := fun obj s₁ => obj = .ref s.heap.objs.size ∧ s₁ = { s with heap := s.heap.push (emptySet w) }) ⟨rfl, rfl⟩) fun r s₁ hr => ?_
  cases r with
  | error e => exact hr
  | ok fl =>
   cases fl with
   | next => exact hr.elim
   | brk => exact hr.elim
   | cont => exact hr.elim
   | ret obj =>
    obtain ⟨rfl, rfl⟩ := hr
    have atS : (s.heap.push (emptySet w)).get? s.heap.objs.size = some (emptySet w) := Heap.get?_push_size _ rfl
    have isS : Shared.TypeIs { s with heap := s.heap.push (emptySet w) } (.ref s.heap.objs.size) "set" := ⟨_, atS, rfl⟩
    repeat (any_goals (first | assumption | wp_step))
    refine codeAny_mono (codeAny_call_builtin (R := wants (fun r s₂ => r = .none ∧ ∃ h' tk c, s₂ = { s with heap := h', toks := tk } ∧ SetR w h' s.heap.objs.size (fun j => decide (j ∈ ns)) c ∧ c ≤ ns.length ∧
        (∀ b o, s.heap.get? b = some o → h'.get? b = some o)) E) F.called_set.init.plain F.entry_set_init (check_set_init_1 isS ?_)) fun r₂ s₂ hr₂ => ?_
    · obtain ⟨kc, kd, kt, ks⟩ := oL
      cases (show kc = _ from cL)
      cases (show kt = _ from dL)
      have hoL1 : (s.heap.push (emptySet w)).get? l = some { cls := .type "list", dict := kd, data := .seq items nL, slots := ks } := Heap.get?_push_of_some _ hoL
      have isL1 : (s.heap.push (emptySet w)).IsList l items := ⟨_, hoL1, rfl, nL, rfl⟩
      have g1 := F.sub_list_set
      have g2 := F.sub_list_frozenset
      have g3 : (Value.type "list" == Value.type "dict") = false := by decide
      unfold Builtin.«set.__init__» noKeywords Builtin.Frozenset.updateFrom
      generalize hIter : pyIter = IT
      wp_walk
      subst hIter
      refine wpAny_pyIter_list isL1 (wpAny_bind (wpAny_runValue ?_))
      have zs : (s.heap.push (emptySet w)).objs.size = s.heap.objs.size + 1 := Heap.size_push ..
      have apart : l ≠ (s.heap.push (emptySet w)).objs.size := by rw [zs]; exact Nat.ne_of_lt (Nat.lt_succ_of_lt lL)
      refine set_update_ints ((Walks.list (by simp [calm]) _ l apart items).toS) s.heap.objs.size (by
          simp only [List.mem_cons, List.not_mem_nil, or_false, not_or]
          exact ⟨by rw [zs]; exact Nat.ne_of_lt (Nat.lt_succ_self _), Nat.ne_of_gt lL⟩) ns size_eq few (fun i v hv => ?_) (items.size - 0) 0 _ (by omega) (Nat.zero_le _)
        ⟨⟨_, Heap.get?_push_size _ rfl, rfl, rfl⟩, isL1.push _⟩ ⟨0, Nat.le_refl 0, setR_new_at (Heap.get?_push_of_some _ atS)⟩ fun s' c' hm hc' hS' => ?_
      · have hi : i < ns.length := by rw [← size_eq]; exact (Array.getElem?_eq_some_iff.mp hv).1
        obtain ⟨t, e⟩ := PyProof.Rows.IntsAre.int_at hint i v (by rw [Array.getElem?_toList]; exact hv)
        refine ⟨ns[i], t, List.getElem?_eq_getElem hi, ?_⟩
        rw [e, List.getD_eq_getElem?_getD, List.getElem?_eq_getElem hi]; rfl
      · obtain ⟨h', gs', d', tk', os'⟩ := s'
        cases (show gs' = s.gens from hm.gens)
        cases (show d' = s.drawn from hm.drawn)
        cases (show os' = s.os from hm.os)
        rw [size_eq] at hc'
        refine (show wpAny _ _ _ _ _ _ from wpAny_pure (show wpAny _ _ (ret Value.none) _ _ _ from wpAny_pure ⟨rfl, h', tk', c', rfl, hS', hc', fun b o e => ?_⟩))
        have lb : b < s.heap.objs.size := Heap.lt_size e
        refine hm.heap b o ?_ (Heap.get?_push_of_some _ (Heap.get?_push_of_some _ e))
        simp only [List.mem_cons, List.not_mem_nil, or_false, not_or]
        exact ⟨Nat.ne_of_lt lb, Nat.ne_of_lt (by rw [zs]; exact Nat.lt_succ_of_lt lb)⟩
    · cases r₂ with
      | error e => exact hr₂
      | ok fl₂ =>
        cases fl₂ with
        | next => exact hr₂.elim
        | brk => exact hr₂.elim
        | cont => exact hr₂.elim
        | ret r =>
          obtain ⟨rfl, h', tk, c', rfl, hS', hc', hk'⟩ := hr₂
          repeat (any_goals (first | assumption | wp_step))
          exact done _ _ _ hS' hc' hk'
end
section
variable {X : Cx}
/-- set(xs) -/
def rSetI (K : PySem.W.Frag) (w : World) : List V → Hp → VK → Prop := fun vs H Q => ∃ (a : Addr) (ns : List Int), vs = [V.ref a] ∧ (SqL K H a (ns.map V.int) ∨ SqT K H a (ns.map V.int)) ∧ ns.length < 64 ∧
  ∀ (p : Addr) (c : Nat), c ≤ ns.length → H p = none → Q (.ref p) (upd H p (SetO w p (fun j => decide (j ∈ ns)) c))
theorem cr_setI (hc : X.calm = true) : CallR X (.type "set") (rSetI X.K X.w) := by
  intro pins s σ H vs us Q I r h
  obtain ⟨a, ns, rfl, hs, h64, q⟩ := h
  rw [Vals.ref1 r]
  have hn : H s.heap.objs.size = none := I.hok.fresh (Nat.le_refl _)
  have few : ns.length + 1 < scanBound := by unfold scanBound; omega
  rcases hs with hs | hs
  · obtain ⟨its, rv, p, _⟩ := I.list hs
    refine set_of_list ns (I.ok.hd hc) p.isList (by simpa using rv.ints) few fun h' tk c hS hc' hk => ?_
    exact ⟨.ref _, _, I.laid (t' := tk) hk (Nat.le_refl _) (setO_new hS), rfl, q _ c hc' hn⟩
  · obtain ⟨its, rv, p, _⟩ := I.tuple hs
    refine call_set_tupI ns (I.ok.hd hc) (show s.heap.IsTuple a its.toArray from p) (by simpa using rv.ints) few fun h' tk c hS hc' hk => ?_
    exact ⟨.ref _, _, I.laid (t' := tk) hk (Nat.le_refl _) (setO_new hS), rfl, q _ c hc' hn⟩
end
end TR
namespace TR
open PySem PySem.Spec PyProof.Rows L2
/-! ### defs that are called where no repr runs around them -/
section
variable {P : Program} {w : World} {K : PySem.W.Frag} {mg : Str → Option Value} {base : Heap} {CX : CXT}
/-- as FnOk, for calls with no guard around -/
structure FnG (P : Program) (w : World) (K : PySem.W.Frag) (mg : Str → Option Value) (base : Heap) (k : Nat) (f : Addr) (fd : FuncData) (ps : List Str) (sp : Sp) : Prop where
  len : ∀ vs H Q E, sp vs H Q E → vs.length = ps.length
  run : ∀ (A : Around) (outer : List Env) (s : Shared) (H : Hp) (args : Args) (us : List Value) (vs : List V) (Q : VK) (E : XK), Room k A → A.guards = some [] → Env0 P w K mg base A outer s H → BindsTo s fd args (ps.zip us) → Vals vs us → sp vs H Q E →
    codeAny (model P w) A (.call (.ref f) args) (CR CX0 outer P w H s Q E) s
theorem okG {x qual : Str} {st : Stmt} {f : Addr} {fd : FuncData} {N ps : List Str} {k : Nat} {sp : Sp} (F : Fun K x qual st f fd) (S : FnScope N ps (defScope st)) (len : ∀ vs H Q E, sp vs H Q E → vs.length = ps.length)
    (body : ∀ (cdv : Value) (A : Around) (outer : List Env) (s : Shared) (H : Hp) (vs : List V) (Q : VK) (E : XK), Room k (A.deeper (envOfC qual (defScope st) s.heap.objs.size f cdv)) → (A.deeper (envOfC qual (defScope st) s.heap.objs.size f cdv)).guards = some [] → sp vs H Q E →
      ∃ t, PSs (cxOf CX0 P w K mg base N qual (defScope st) f cdv A outer s H E).nox (defBody st) t ∧ t { nx := fun _ H' => Q .non H', rt := Q } (start N vs) H) : FnG P w K mg base (k + 1) f fd ps sp := by
  obtain ⟨oc, od, kV, doc, pm, an, cdv, ct, osl, rfl, lk, hcd⟩ := F.ex
  refine ⟨len, fun A outer s H args us vs Q E hr hg e0 hb rel hsp => ?_⟩
  have KX : K.In s.heap := e0.mod.kin.keeps fun b o e => (e0.bs b o e).1
  refine codeAny_call_function hr.depth (KX _ _ lk) rfl S.co S.gen rfl (PySem.W.codeRec_of KX hcd) (hb _ _ _ _ ?_)
  refine wpAny_newFunctionEnv_cells S.kind (fun y hy => ?_) fun env he s1 x => ?_
  · cases S.par y.1 (List.of_mem_zip hy).1 with
    | inl q => exact .inl q
    | inr q => exact .inr ⟨q, PySem.W.cellsFrom_some _ _ _ (.inl q)⟩
  · subst he
    refine ⟨(e0.mod.nolimit.keeps fun b o e => (e0.bs b o e).1).keeps x.toInCall.keep, codeAny_func ?_⟩
    obtain ⟨t, ht, hq⟩ := body cdv A outer s H vs Q E (hr.deeper _) hg hsp
    have I : Inv (cxOf CX0 P w K mg base N qual (defScope st) f cdv A outer s H E) [] (start N vs) H s1 := inv_start S hr.hd e0 (len _ _ _ _ hsp) rel x
    refine wpAny_mono (ht.nox.run [] s1 (start N vs) H _ I hq) (fun fl s' hs => ?_) fun e s' hs => hs
    cases fl with
    | ret u =>
      obtain ⟨v, σ', H', J, rv, q⟩ := hs
      exact ⟨v, H', J.os, J.bare, J.base, J.hok, rv, q⟩
    | next =>
      obtain ⟨σ', H', J, q⟩ := hs
      exact ⟨.non, H', J.os, J.bare, J.base, J.hok, rfl, q⟩
    | brk => exact (show False from let ⟨_, _, _, q⟩ := hs; q).elim
    | cont => exact (show False from let ⟨_, _, _, q⟩ := hs; q).elim
end
section
variable {X : Cx} {k : Nat} {f : Addr} {fd : FuncData} {ps : List Str} {sp : Sp} {x : Str} {p pos : Pos} {e : Expr} {es : List Expr} {t : TA}
/-- f(e, ..) of such a def -/
theorem pe_callG (F : FnG X.prog X.w X.K X.mg X.base k f fd ps sp) (hr : Room k X.A) (hG : X.A.guards = some []) (hg : Gl X x) (hm : X.mg x = some (.ref f)) (hk : PySem.W.keepIn X.K (.ref f) = true) (hb : Binds X.K fd ps [])
    (ha : PA X (e :: es) t) (hdb : (x == ("__debug__" : Str)) = false := by decide) (he : starEach (e :: es) X.env = (false, eval e X.env) :: starEach es X.env := by rfl) (hpl : (backTo pos (starEach es X.env)).any (·.1) = false := by rfl) :
    PE X (.Call (.Name x p) (e :: es) [] pos) (tCall sp [] E0 t) := by
  refine ⟨fun pins s σ H Q I h => wpAny_Call_Name_kw (ld_glob I hg hm ?_ hdb)⟩
  refine PySem.W.callWith_K (h₀ := X.base) I.ok.mod.kin hk (thn (ha.run pos pins s σ H _ I h) fun us s1 hh => ?_) he hpl
  obtain ⟨vs, H1, I1, rel, q⟩ := hh
  refine ⟨I1.kIn, ?_⟩
  rw [List.append_nil] at q
  have hl : (us ++ []).length = ps.length := by rw [List.append_nil, ← rel.length]; exact F.len _ _ _ _ q
  have B := hb s1 us I1.kIn hl
  rw [List.append_nil] at B
  refine wpAny_call (codeAny_mono (F.run X.A X.stack s1 H1 ⟨us, []⟩ us vs Q E0 hr hG I1.env0 B rel q) fun r s' hq => ?_)
  cases r with
  | error e => exact hq.elim
  | ok fl =>
    cases fl with
    | ret u => exact I1.after hq
    | next => exact hq.elim
    | brk => exact hq.elim
    | cont => exact hq.elim
/-! ### repr of a list of truth values -/
def rReprB (K : PySem.W.Frag) : List V → Hp → VK → Prop := fun vs H Q => ∃ (a : Addr) (x y : Bool), vs = [V.ref a] ∧ SqL K H a [V.bl x, V.bl y] ∧ Q (.str (PyData.shown (.list [.bool x, .bool y]))) H
theorem cr_reprB (hG : X.A.guards = some []) (hu : X.A.units + 64 < cLine) : CallR X (.builtin "repr") (rReprB X.K) := by
  intro pins s σ H vs us Q I r h
  obtain ⟨a, x, y, rfl, hs, q⟩ := h
  rw [Vals.ref1 r]
  obtain ⟨as, hr⟩ := Dp.reads I (.list [.bool x, .bool y]) (.ref a) (.ref a) (.lst hs (.cons (.bl x) (.cons (.bl y) .nil))) rfl
  refine repr_of_reads' hr (by cases x <;> cases y <;> rfl) (fun z => by cases x <;> cases y <;> cases z) hG (by
    have e : PyData.depth (.list [.bool x, .bool y]) = 1 := by cases x <;> cases y <;> rfl
    rw [e]; omega) (fun _ _ e => e) (fun h' u tk hk => ⟨.str _, H, I.kept hk, ⟨u, rfl⟩, q⟩) (by cases x <;> cases y <;> decide +kernel)
theorem shown_ne {x y x' y' : Bool} : (PyData.shown (.list [.bool x, .bool y]) = PyData.shown (.list [.bool x', .bool y'])) ↔ (x = x' ∧ y = y') := by
  cases x <;> cases y <;> cases x' <;> cases y' <;> decide +kernel
end
end TR
namespace TR
open PySem PySem.Spec PyProof.Rows L2
/-! ### the law's end, over FnG -/
section
variable {P : Program} {w : World} {K : PySem.W.Frag} {mg mb : Str → Option Value} {k : Nat} {fa a : Addr} {fd : FuncData} {x : Str} {sp : Sp} {s₁ : Shared} {vs : List Value} {ns : List Int}
/-- the script tracked as a known list, unless it is one of the module's own -/
def scriptH (K : PySem.W.Frag) (a : Addr) (vs : List Value) (ns : List Int) : Hp := fun b => if b = a ∧ K.lookup a = none then some (.frz { cls := .type "list", data := .seq vs.toArray } (.lst (ns.map V.int))) else none
theorem scriptH_some {b : Addr} {o : HO} (h : scriptH K a vs ns b = some o) : b = a ∧ K.lookup a = none ∧ o = .frz { cls := .type "list", data := .seq vs.toArray } (.lst (ns.map V.int)) := by
  unfold scriptH at h
  split at h
  · rename_i c
    exact ⟨c.1, c.2, (Option.some.inj h).symm⟩
  · cases h
theorem law_G (KX : K.In s₁.heap) (hns : s₁.heap.Ns mainGlobals mg) (hb : s₁.heap.Ns builtinsNs mb) (hbb : ∀ x : Str, x ≠ "__name__" → mb x = bootBuiltins x) (hlim : s₁.heap.NoLimit) (hg : s₁.gens = #[])
    (ha : s₁.heap.get? a = some { cls := .type "list", data := .seq vs.toArray }) (hi : IntsAre vs ns) (hl : ns.length ≤ sizeLine) (hr : Room k callerA)
    (F : ∀ base : Heap, K.In base → base.Ns mainGlobals mg → FnG P w K mg base k fa fd [x] sp) (hbind : ∀ (s : Shared) (u : Value), BindsTo s fd ⟨[u], []⟩ [(x, u)])
    (hsp : ∀ H : Hp, SqL K H a (ns.map V.int) → sp [.ref a] H (fun v _ => v = .bl true) fun _ _ _ => False) :
    codeAny (model P w) callerA (.call (.ref fa) ⟨[.ref a], []⟩) (fun r s' => r = .ok (.ret (.bool true)) ∧ OldK s₁.heap s'.heap ∧ s'.os = s₁.os ∧ AllBare s'.gens) s₁ := by
  have rv := vals_ints hi
  have hok : HOk P w (scriptH K a vs ns) s₁.heap := fun b o e => by
    obtain ⟨rfl, _, rfl⟩ := scriptH_some e
    exact ⟨ha, by rw [List.length_map]; exact hl, vs, _, rv, ha⟩
  have hS : SqL K (scriptH K a vs ns) a (ns.map V.int) := by
    cases hk : K.lookup a with
    | none => exact .inl (.inr ⟨_, if_pos ⟨rfl, hk⟩⟩)
    | some o =>
      have e := KX a o hk
      rw [ha] at e
      cases e
      exact .inr ⟨_, vs.toArray, _, hk, rfl, rfl, rfl, by rw [List.size_toArray, hi.length]; exact hl, by simpa using rv⟩
  -- what is a dict, or written, is not the script
  have free : ∀ {b : Addr}, b ≠ a → scriptH K a vs ns b = none := fun {b} hne => if_neg fun z => hne z.1
  have nsK : ∀ {b : Addr} {m : Str → Option Value}, s₁.heap.Ns b m → (hidT s₁.heap (scriptH K a vs ns)).Ns b m := fun {b m} ⟨o, es, ep, e, d, r⟩ => ⟨o, es, ep, hidT_get e (free fun z => by
    rw [z, ha] at e; cases e; cases d), d, r⟩
  have kin : K.In (hidT s₁.heap (scriptH K a vs ns)) := fun b o e => hidT_get (KX b o e) (by
    cases q : scriptH K a vs ns b with
    | none => rfl
    | some u =>
      obtain ⟨rfl, n, _⟩ := scriptH_some q
      rw [n] at e; cases e)
  have M : Mod K mg (hidT s₁.heap (scriptH K a vs ns)) := ⟨kin, nsK hns, ⟨mb, nsK hb, hbb⟩, let ⟨mc, h1, h2⟩ := hlim; ⟨mc, nsK h1, h2⟩⟩
  have e0 : Env0 P w K mg (hidT s₁.heap (scriptH K a vs ns)) callerA [] s₁ (scriptH K a vs ns) := ⟨rfl, M, fun b o e => of_hidT e, Nat.le_of_eq (hidT_size _ _), trivial, fun b z => absurd (show b ∈ ([] : List Addr) from z) (by simp), hok, .of_eq hg⟩
  refine codeAny_mono ((F _ kin (nsK hns)).run callerA [] s₁ _ ⟨[.ref a], []⟩ [.ref a] [.ref a] _ _ hr rfl e0 (hbind s₁ (.ref a)) (.cons rfl .nil) (hsp _ hS)) fun r s' h => ?_
  cases r with
  | error e => exact h.elim
  | ok fl =>
    cases fl with
    | next => exact h.elim
    | brk => exact h.elim
    | cont => exact h.elim
    | ret u =>
      obtain ⟨v, H', os, bare, un, hok', r', q⟩ := h
      cases (show v = V.bl true from q)
      cases (show u = Value.bool true from r')
      refine ⟨rfl, OldK.of_keep fun b o e => ?_, os, bare⟩
      have nof : b ∉ frs ([] : List Env) := fun z => absurd (show b ∈ ([] : List Addr) from z) (by simp)
      cases q : scriptH K a vs ns b with
      | none => exact un.keep b o e q nof (by simp)
      | some u =>
        obtain ⟨rfl, _, rfl⟩ := scriptH_some q
        obtain ⟨e2, _⟩ := hok' b _ (un.frzs b _ _ q)
        rw [ha] at e
        rw [← Option.some.inj e]
        exact e2
end
theorem walk_G {l : PySem.W.OpenLaw} {n k : Nat} {q : Program} {loose : List Str} {XP : (Str → Option Value) → Heap → Prop} {YP : World → Heap → Prop} {d : DefRec} {K : Params → PySem.W.Frag} {sp : PySem.W.Frag → Sp} {x : Str}
    (hn : l.most = some n) (hn2 : n ≤ sizeLine) (hdf : d.params.defaults = []) (hr : Room k callerA) (hY : ∀ (w : World) (h : Heap), YP w h → (K w.params).In h)
    (F : ∀ (w : World) (mg : Str → Option Value) (fa : Addr) (h : Heap), (K w.params).In h → h.Ns mainGlobals mg → mg d.name = some (.ref fa) →
      ∃ fd : FuncData, (∀ (s : Shared) (u : Value), BindsTo s fd ⟨[u], []⟩ [(x, u)]) ∧ ∀ base : Heap, (K w.params).In base → base.Ns mainGlobals mg → FnG l.prog w (K w.params) mg base k fa fd [x] (sp (K w.params)))
    (hsp : ∀ (K : PySem.W.Frag) (H : Hp) (a : Addr) (ns : List Int), ns.length ≤ n → SqL K H a (ns.map V.int) → sp K [.ref a] H (fun v _ => v = .bl true) fun _ _ _ => False) :
    PySem.W.WalkO q loose XP YP l.row.toRowW d [] (fun f vs => PySem.call f vs) := by
  refine Att.attach_call hn hdf fun w s₀ s₁ mg mb fa o pm cd doc a vs ns G Y ho hd hcd hmg hobj hints hlen hg => ?_
  have KX := hY w _ Y
  obtain ⟨fd, hb, hF⟩ := F w mg fa _ KX G.T.g hmg
  exact law_G KX G.T.g G.T.b G.T.builtins G.T.nolimit hg hobj hints (Nat.le_trans hlen hn2) hr hF hb fun H hS => hsp _ H a ns hlen hS
end TR
namespace Tw
open PySem PySem.Spec PyProof.Rows L2 TR
open TA (Plc zi)
/-! ### the text by places -/
def top (i : Nat) : Stmt := PySem.Challenge.pw_twoabove_k71_whole_ends_by_walking_all_o.main.body.getD i (.Pass ⟨0, 0, 0, 0⟩)
abbrev s_is_integer : Stmt := top 10
abbrev s_is_count : Stmt := top 11
abbrev s_is_list : Stmt := top 12
abbrev s_are_shelves : Stmt := top 16
abbrev s_want_shelves : Stmt := top 17
abbrev s_is_lot_of : Stmt := top 18
abbrev s_bits_of : Stmt := top 19
abbrev s_spots_of : Stmt := top 20
abbrev s_told_lot : Stmt := top 21
abbrev s_is_kind : Stmt := top 24
abbrev s_are_kinds : Stmt := top 25
abbrev s_plain_kinds : Stmt := top 26
abbrev s_init : Stmt := inClass (top 27) 0
abbrev s_want_store : Stmt := top 28
abbrev s_is_board_of : Stmt := top 31
abbrev s_want_board : Stmt := top 32
abbrev s_want_counts : Stmt := top 35
abbrev s_want_above : Stmt := top 36
abbrev s_want_end : Stmt := top 37
abbrev s_want_ending : Stmt := top 38
abbrev s_least_number : Stmt := top 39
abbrev s_places_of : Stmt := top 40
abbrev s_pieces_of : Stmt := top 41
abbrev s_placed : Stmt := top 42
abbrev s_moved_on : Stmt := top 43
abbrev s_dealing_of : Stmt := top 44
abbrev s_is_place : Stmt := top 45
abbrev s_are_places : Stmt := top 46
abbrev s_is_dealing_of : Stmt := top 47
abbrev s_is_crowd_of : Stmt := top 48
abbrev s_way_of : Stmt := top 49
abbrev s_can_end : Stmt := top 50
abbrev s_dealing : Stmt := top 51
abbrev s_is_dealing : Stmt := top 52
abbrev s_crowd : Stmt := top 53
abbrev s_is_crowd : Stmt := top 54
abbrev s_told_way : Stmt := top 55
abbrev s__law_pot : Stmt := top 57
abbrev s__law_draw : Stmt := top 58
abbrev s__law_pick : Stmt := top 59
abbrev s__law_kinds : Stmt := top 60
abbrev s__law_store : Stmt := top 61
abbrev s__law_after : Stmt := top 62
abbrev s__law_played : Stmt := top 63
abbrev s__law_ends : Stmt := top 64
abbrev s__law_places : Stmt := top 65
abbrev s__law_is_dealing : Stmt := top 66
abbrev s__law_is_crowd : Stmt := top 67
abbrev s__law_more : Stmt := top 68
abbrev s__law_one_right : Stmt := top 69
abbrev s__law_right : Stmt := top 70
abbrev s_law : Stmt := top 71
/-! ### what the top has written -/
/-- a def of the top, as it stands -/
structure Def (K : PySem.W.Frag) (mg : Str → Option Value) (x : Str) (st : Stmt) (ps : List Str) where
  f : Addr
  fd : FuncData
  F : Fun K x x st f fd
  b : Binds K fd ps []
  m : mg x = some (.ref f)
/-- the class Store -/
structure StoreTxt (K : PySem.W.Frag) (mg : Str → Option Value) where
  C : Addr
  f : Addr
  fd : FuncData
  F : Fun K "__init__" "Store.__init__" s_init f fd
  b : Binds K fd ["self", "shelves", "deliveries", "sales"] []
  mgC : mg "Store" = some (.ref C)
  cl : Cls K C
  M : Mk K C f
  n1 : NoAttr K C "own_shelves"
  n2 : NoAttr K C "own_deliveries"
  n3 : NoAttr K C "own_sales"
  n4 : NoAttr K C "own_kept"
  i1 : PySem.W.findIn K (.ref C) "__class__" = some (some (.builtin "object.__class__"))
  i2 : PySem.W.specialIn K (.builtin "object.__class__") "__get__" = some (some (.builtin "getset_descriptor.__get__"))
  i3 : PySem.W.takesIn K (.builtin "object.__class__") = some true
  i4 : PySem.W.mroIn K C (.type "object") = some true
/-- can_end's four parameters by name, in the law's sequence -/
abbrev kbG {α : Type} (us ws : List α) : List α := match us, ws with
  | [], [w, c, b, s] => [s, b, c, w]
  | _, _ => []
structure Txt (K : PySem.W.Frag) (mg : Str → Option Value) where
  st : StoreTxt K mg
  d_is_integer : Def K mg "is_integer" s_is_integer ["value"]
  d_is_count : Def K mg "is_count" s_is_count ["value"]
  d_is_list : Def K mg "is_list" s_is_list ["value"]
  d_are_shelves : Def K mg "are_shelves" s_are_shelves ["value"]
  d_want_shelves : Def K mg "want_shelves" s_want_shelves ["value"]
  d_is_lot_of : Def K mg "is_lot_of" s_is_lot_of ["shelves", "value"]
  d_bits_of : Def K mg "bits_of" s_bits_of ["lot"]
  d_spots_of : Def K mg "spots_of" s_spots_of ["bits"]
  d_told_lot : Def K mg "told_lot" s_told_lot ["bits"]
  d_is_kind : Def K mg "is_kind" s_is_kind ["shelves", "value"]
  d_are_kinds : Def K mg "are_kinds" s_are_kinds ["shelves", "value"]
  d_plain_kinds : Def K mg "plain_kinds" s_plain_kinds ["kinds"]
  d_want_store : Def K mg "want_store" s_want_store ["value"]
  d_is_board_of : Def K mg "is_board_of" s_is_board_of ["store", "value"]
  d_want_board : Def K mg "want_board" s_want_board ["store", "value"]
  d_want_counts : Def K mg "want_counts" s_want_counts ["store", "value"]
  d_want_above : Def K mg "want_above" s_want_above ["store", "board", "value"]
  d_want_end : Def K mg "want_end" s_want_end ["store", "board", "counts", "value"]
  d_want_ending : Def K mg "want_ending" s_want_ending ["store", "board", "counts", "wished"]
  d_least_number : Def K mg "least_number" s_least_number ["board", "kind"]
  d_places_of : Def K mg "places_of" s_places_of ["store", "board", "wished", "position"]
  d_pieces_of : Def K mg "pieces_of" s_pieces_of ["counts"]
  d_placed : Def K mg "placed" s_placed ["piece", "pieces", "open_places", "taken", "met"]
  d_moved_on : Def K mg "moved_on" s_moved_on ["place", "way", "taken", "piece"]
  d_dealing_of : Def K mg "dealing_of" s_dealing_of ["store", "board", "counts", "wished"]
  d_is_place : Def K mg "is_place" s_is_place ["value"]
  d_are_places : Def K mg "are_places" s_are_places ["value", "open_places", "many"]
  d_is_dealing_of : Def K mg "is_dealing_of" s_is_dealing_of ["store", "board", "counts", "wished", "value"]
  d_is_crowd_of : Def K mg "is_crowd_of" s_is_crowd_of ["store", "board", "counts", "wished", "value"]
  d_way_of : Def K mg "way_of" s_way_of ["store", "board", "counts", "wished"]
  d_can_end : Def K mg "can_end" s_can_end ["store", "board", "counts", "wished"]
  d_dealing : Def K mg "dealing" s_dealing ["store", "board", "counts", "wished"]
  d_is_dealing : Def K mg "is_dealing" s_is_dealing ["store", "board", "counts", "wished", "value"]
  d_crowd : Def K mg "crowd" s_crowd ["store", "board", "counts", "wished"]
  d_is_crowd : Def K mg "is_crowd" s_is_crowd ["store", "board", "counts", "wished", "value"]
  d_told_way : Def K mg "told_way" s_told_way ["store", "board", "counts", "wished"]
  d__law_pot : Def K mg "_law_pot" s__law_pot ["_law_script", "_law_k"]
  d__law_draw : Def K mg "_law_draw" s__law_draw ["_law_pot_here", "_law_many"]
  d__law_pick : Def K mg "_law_pick" s__law_pick ["_law_pot_here", "_law_some"]
  d__law_kinds : Def K mg "_law_kinds" s__law_kinds ["_law_pot_here", "_law_shelves", "_law_least", "_law_most"]
  d__law_store : Def K mg "_law_store" s__law_store ["_law_shelves", "_law_kinds_here"]
  d__law_after : Def K mg "_law_after" s__law_after ["_law_board", "_law_kind"]
  d__law_played : Def K mg "_law_played" s__law_played ["_law_kinds_here", "_law_board", "_law_history"]
  d__law_ends : Def K mg "_law_ends" s__law_ends ["_law_kinds_here", "_law_board", "_law_counts"]
  d__law_places : Def K mg "_law_places" s__law_places ["_law_kinds_here", "_law_board", "_law_wished", "_law_position"]
  d__law_is_dealing : Def K mg "_law_is_dealing" s__law_is_dealing ["_law_kinds_here", "_law_board", "_law_counts", "_law_wished", "_law_value"]
  d__law_is_crowd : Def K mg "_law_is_crowd" s__law_is_crowd ["_law_kinds_here", "_law_board", "_law_counts", "_law_wished", "_law_lot"]
  d__law_more : Def K mg "_law_more" s__law_more ["_law_pot_here", "_law_board", "_law_many"]
  d__law_one_right : Def K mg "_law_one_right" s__law_one_right ["_law_store_here", "_law_kinds_here", "_law_board", "_law_counts", "_law_wished", "_law_due"]
  d__law_right : Def K mg "_law_right" s__law_right ["_law_pot_here"]
  d_law : Def K mg "law" s_law ["_law_script"]
  kb_can_end : KBinds K d_can_end.fd ["store", "board", "counts", "wished"] ["wished", "counts", "board", "store"] kbG kbG
  b_len : mg "len" = none
  b_isinstance : mg "isinstance" = none
  b_all : mg "all" = none
  b_sum : mg "sum" = none
  b_min : mg "min" = none
  b_max : mg "max" = none
  b_abs : mg "abs" = none
  b_divmod : mg "divmod" = none
  b_repr : mg "repr" = none
  b_sorted : mg "sorted" = none
  b_int : mg "int" = none
  b_bool : mg "bool" = none
  b_list : mg "list" = none
  b_tuple : mg "tuple" = none
  b_set : mg "set" = none
  b_range : mg "range" = none
  b_enumerate : mg "enumerate" = none
  b_zip : mg "zip" = none
  t_LEAST_SHELVES : Tok
  c_LEAST_SHELVES : mg "LEAST_SHELVES" = some (.int 2 t_LEAST_SHELVES)
  t_MOST_SHELVES : Tok
  c_MOST_SHELVES : mg "MOST_SHELVES" = some (.int 8 t_MOST_SHELVES)
  t_MOST_KINDS : Tok
  c_MOST_KINDS : mg "MOST_KINDS" = some (.int 8 t_MOST_KINDS)
  t_MOST_PIECES : Tok
  c_MOST_PIECES : mg "MOST_PIECES" = some (.int 60 t_MOST_PIECES)
  t_MOST_OF_KIND : Tok
  c_MOST_OF_KIND : mg "MOST_OF_KIND" = some (.int 20 t_MOST_OF_KIND)
theorem bt_len : bootBuiltins "len" = some (.builtin "len") := by decide +kernel
theorem bt_isinstance : bootBuiltins "isinstance" = some (.builtin "isinstance") := by decide +kernel
theorem bt_all : bootBuiltins "all" = some (.builtin "all") := by decide +kernel
theorem bt_sum : bootBuiltins "sum" = some (.builtin "sum") := by decide +kernel
theorem bt_min : bootBuiltins "min" = some (.builtin "min") := by decide +kernel
theorem bt_max : bootBuiltins "max" = some (.builtin "max") := by decide +kernel
theorem bt_abs : bootBuiltins "abs" = some (.builtin "abs") := by decide +kernel
theorem bt_divmod : bootBuiltins "divmod" = some (.builtin "divmod") := by decide +kernel
theorem bt_repr : bootBuiltins "repr" = some (.builtin "repr") := by decide +kernel
theorem bt_sorted : bootBuiltins "sorted" = some (.builtin "sorted") := by decide +kernel
theorem bt_int : bootBuiltins "int" = some (.type "int") := by decide +kernel
theorem bt_bool : bootBuiltins "bool" = some (.type "bool") := by decide +kernel
theorem bt_list : bootBuiltins "list" = some (.type "list") := by decide +kernel
theorem bt_tuple : bootBuiltins "tuple" = some (.type "tuple") := by decide +kernel
theorem bt_set : bootBuiltins "set" = some (.type "set") := by decide +kernel
theorem bt_range : bootBuiltins "range" = some (.type "range") := by decide +kernel
theorem bt_enumerate : bootBuiltins "enumerate" = some (.type "enumerate") := by decide +kernel
theorem bt_zip : bootBuiltins "zip" = some (.type "zip") := by decide +kernel
theorem hu65 {A : Around} {k : Nat} (hr : Room k A) : A.units + 65 < cLine := by
  have := hr.un
  omega
/-! ### heaps -/
abbrev nl (xs : List Nat) : List V := (zi xs).map V.int
theorem nl_length (xs : List Nat) : (nl xs).length = xs.length := by simp [nl]
theorem nl_get {xs : List Nat} {i n : Nat} (h : xs[i]? = some n) : (nl xs)[i]? = some (vn n) := by
  simp [nl, h]
theorem nl_of {xs : List Nat} {i : Nat} {v : V} (h : (nl xs)[i]? = some v) : ∃ n, xs[i]? = some n ∧ v = vn n := by
  unfold nl zi at h
  rw [List.getElem?_map, List.getElem?_map] at h
  cases e : xs[i]? with
  | none => rw [e] at h; cases h
  | some n => rw [e] at h; exact ⟨n, rfl, (Option.some.inj h).symm⟩
theorem nl_append (a b : List Nat) : nl (a ++ b) = nl a ++ nl b := by simp [nl]
theorem nl_set (a : List Nat) (i n : Nat) : (nl a).set i (vn n) = nl (a.set i n) := by simp [nl, List.map_set]
theorem zi_mem {xs : List Nat} {i : Int} (h : i ∈ zi xs) : ∃ n, n ∈ xs ∧ i = (n : Int) := by
  obtain ⟨n, h1, h2⟩ := List.mem_map.mp h
  exact ⟨n, h1, h2.symm⟩
theorem mem_zi {xs : List Nat} {n : Nat} : (n : Int) ∈ zi xs ↔ n ∈ xs := by
  constructor
  · intro h
    obtain ⟨m, h1, h2⟩ := zi_mem h
    have : n = m := by omega
    rw [this]; exact h1
  · intro h
    exact List.mem_map.mpr ⟨n, h, rfl⟩
theorem zi_sum : ∀ xs : List Nat, (zi xs).sum = ((xs.sum : Nat) : Int)
  | [] => rfl
  | x :: r => by
    have := zi_sum r
    show ((x : Int) :: zi r).sum = _
    rw [List.sum_cons, this, List.sum_cons]; omega
theorem zi_length (xs : List Nat) : (zi xs).length = xs.length := List.length_map ..
/-- a list, a tuple of counts -/
def IsN (H : Hp) (p : Addr) (xs : List Nat) : Prop := H p = some (.lst (nl xs))
def IsNT (H : Hp) (p : Addr) (xs : List Nat) : Prop := H p = some (.tup (nl xs))
def IsQ (H : Hp) (p : Addr) (q : Plc) : Prop := H p = some (.tup (vp q))
/-- a list of objects -/
def IsOf {α : Type} (R : Hp → Addr → α → Prop) (H : Hp) (p : Addr) (as : List α) : Prop := ∃ ps : List Addr, H p = some (.lst (ps.map V.ref)) ∧ Paired (R H) ps as
abbrev IsRows := IsOf IsN
abbrev IsPl := IsOf IsQ
abbrev IsPls := IsOf IsPl
/-- what stays where all that was tracked stays -/
structure Mono {α : Type} (R : Hp → Addr → α → Prop) : Prop where
  m : ∀ {H H' : Hp} {p : Addr} {a : α}, Same H H' → R H p a → R H' p a
theorem mN : Mono IsN := ⟨fun s h => s _ _ h⟩
theorem mNT : Mono IsNT := ⟨fun s h => s _ _ h⟩
theorem mQ : Mono IsQ := ⟨fun s h => s _ _ h⟩
theorem paired_mono {α β : Type} {F G : α → β → Prop} (h : ∀ a b, F a b → G a b) {as : List α} {bs : List β} (p : Paired F as bs) : Paired G as bs := Paired.mapP p h
theorem mOf {α : Type} {R : Hp → Addr → α → Prop} (m : Mono R) : Mono (IsOf R) := ⟨fun s ⟨ps, h1, h2⟩ => ⟨ps, s _ _ h1, paired_mono (fun _ _ => m.m s) h2⟩⟩
theorem mRows : Mono IsRows := mOf mN
theorem mPl : Mono IsPl := mOf mQ
theorem mPls : Mono IsPls := mOf mPl
theorem paired_at {α β : Type} {F : α → β → Prop} : ∀ {as : List α} {bs : List β}, Paired F as bs → ∀ {i : Nat} {b : β}, bs[i]? = some b → ∃ a, as[i]? = some a ∧ F a b
  | _, _, .nil, i, b, h => by simp at h
  | _, _, .cons r t, 0, b, h => by
    have e := Option.some.inj h
    subst e
    exact ⟨_, rfl, r⟩
  | _, _, .cons r t, i + 1, b, h => paired_at t (i := i) (by simpa using h)
theorem paired_at' {α β : Type} {F : α → β → Prop} : ∀ {as : List α} {bs : List β}, Paired F as bs → ∀ {i : Nat} {a : α}, as[i]? = some a → ∃ b, bs[i]? = some b ∧ F a b
  | _, _, .nil, i, b, h => by simp at h
  | _, _, .cons r t, 0, b, h => by
    have e := Option.some.inj h
    subst e
    exact ⟨_, rfl, r⟩
  | _, _, .cons r t, i + 1, b, h => paired_at' t (i := i) (by simpa using h)
theorem paired_snoc {α β : Type} {F : α → β → Prop} : ∀ {as : List α} {bs : List β} {a : α} {b : β}, Paired F as bs → F a b → Paired F (as ++ [a]) (bs ++ [b])
  | _, _, _, _, .nil, h => .cons h .nil
  | _, _, _, _, .cons r t, h => .cons r (paired_snoc t h)
theorem paired_append {α β : Type} {F : α → β → Prop} : ∀ {as as' : List α} {bs bs' : List β}, Paired F as bs → Paired F as' bs' → Paired F (as ++ as') (bs ++ bs')
  | _, _, _, _, .nil, h => h
  | _, _, _, _, .cons r t, h => .cons r (paired_append t h)
theorem same_upd {H : Hp} {p : Addr} {o : HO} (h : H p = none) : Same H (upd H p o) := fun b x e => by
  rw [upd_ne (ne_of_none e h)]
  exact e
theorem refs_at {ps : List Addr} {i : Nat} {v : V} (h : (ps.map V.ref)[i]? = some v) : ∃ q, ps[i]? = some q ∧ v = V.ref q := by
  rw [List.getElem?_map] at h
  cases e : ps[i]? with
  | none => rw [e] at h; cases h
  | some q => rw [e] at h; exact ⟨q, rfl, (Option.some.inj h).symm⟩
theorem refs_get {ps : List Addr} {i : Nat} {q : Addr} (h : ps[i]? = some q) : (ps.map V.ref)[i]? = some (V.ref q) := by rw [List.getElem?_map, h]; rfl
/-- a store with n shelves, its delivery kinds the kinds' bits -/
def IsStore (C : Addr) (n : Nat) (H : Hp) (p : Addr) (kinds : List (List Nat)) : Prop := ∃ (dx d e k : Addr), H p = some (.ins C dx [("own_shelves", vn n), ("own_deliveries", .ref d), ("own_sales", .ref e), ("own_kept", .ref k)]) ∧ IsNT H d (kinds.map TA.bitsOf)
theorem mStore {C : Addr} {n : Nat} : Mono (IsStore C n) := ⟨fun s ⟨dx, d, e, k, h1, h2⟩ => ⟨dx, d, e, k, s _ _ h1, s _ _ h2⟩⟩
end Tw
namespace Tw
open PySem PySem.Spec PyProof.Rows L2 TR
open TA (Plc zi)
section
variable {P : Program} {w : World} {K : PySem.W.Frag} {mg : Str → Option Value} {base : Heap}
theorem q_bl {b c : Bool} {Q : V → Hp → Prop} {H : Hp} (e : b = c) (k : Q (.bl c) H) : Q (.bl b) H := by
  subst e; exact k
theorem q_int {b c : Int} {Q : V → Hp → Prop} {H : Hp} (e : b = c) (k : Q (.int c) H) : Q (.int b) H := by
  subst e; exact k
theorem q_eq {v u : V} {Q : V → Hp → Prop} {H : Hp} (e : v = u) (k : Q u H) : Q v H := by
  subst e; exact k
theorem b_bl {b c : Bool} (e : b = c) : V.bl b = V.bl c := congrArg V.bl e
theorem iteP {p A B : Prop} [Decidable p] (hp : p) (h : A) : if decide p = true then A else B := by
  rw [decide_eq_true hp]; exact iteT h
theorem iteN {p A B : Prop} [Decidable p] (hp : ¬ p) (h : B) : if decide p = true then A else B := by
  rw [decide_eq_false hp]; exact iteF h
theorem iteNN {p A B : Prop} [Decidable p] (hp : ¬ p) (h : A) : if (!decide p) = true then A else B := by
  rw [decide_eq_false hp]; exact iteT h
theorem iteB {b : Bool} {A B : Prop} (e : b = true) (h : A) : if b = true then A else B := by
  subst e; exact iteT h
theorem iteBF {b : Bool} {A B : Prop} (e : b = false) (h : B) : if b = true then A else B := by
  subst e; exact iteF h
/-! ### basics -/
theorem sc_is_integer : FnScope ["value"] ["value"] (defScope s_is_integer) := ⟨rfl, rfl, rfl, by decide +kernel, rfl, by decide +kernel, by decide +kernel⟩
def sp_is_integer : Sp := fun vs H Q _ => ∃ i : Int, vs = [.int i] ∧ Q (.bl true) H
theorem ok_is_integer (T : Txt K mg) : FnOk P w K mg base CX0 1 T.d_is_integer.f T.d_is_integer.fd ["value"] sp_is_integer := by
  refine T.d_is_integer.F.ok sc_is_integer (fun vs H Q E h => ?_) (fun cdv A outer s H vs Q E hr h => ?_)
  · obtain ⟨i, rfl, _⟩ := h
    rfl
  · obtain ⟨i, rfl, k⟩ := h
    refine ⟨_, (pss_one (ps_ret (pe_and (pe_callB call_isi (by rfl) T.b_isinstance bt_isinstance (pa_cons (pv 0) (pa_cons (pe_bltn (v := .ty "int") (by rfl) T.b_int bt_int rfl) pa_nil))) (pe_one (pe_not (pe_callB call_isi (by rfl) T.b_isinstance bt_isinstance (pa_cons (pv 0) (pa_cons (pe_bltn (v := .ty "bool") (by rfl) T.b_bool bt_bool rfl) pa_nil)))))))), ?_⟩
    refine ⟨_, rfl, _, _, _, _, true, rfl, .ty _, .base (.int _), kit_ty (by decide +kernel), true, rfl, iteT ?_⟩
    exact ⟨_, rfl, _, _, _, _, false, rfl, .ty _, .base (.int _), kit_ty (by decide +kernel), false, rfl, k⟩
theorem sc_is_count : FnScope ["value"] ["value"] (defScope s_is_count) := ⟨rfl, rfl, rfl, by decide +kernel, rfl, by decide +kernel, by decide +kernel⟩
def sp_is_count : Sp := fun vs H Q _ => ∃ n : Nat, vs = [vn n] ∧ Q (.bl true) H
theorem ok_is_count (T : Txt K mg) : FnOk P w K mg base CX0 2 T.d_is_count.f T.d_is_count.fd ["value"] sp_is_count := by
  refine T.d_is_count.F.ok sc_is_count (fun vs H Q E h => ?_) (fun cdv A outer s H vs Q E hr h => ?_)
  · obtain ⟨i, rfl, _⟩ := h
    rfl
  · obtain ⟨n, rfl, k⟩ := h
    refine ⟨_, (pss_one (ps_ret (pe_and (pe_call (ok_is_integer T) (hr.mono (by decide)) (by rfl) T.d_is_integer.m T.d_is_integer.F.kp T.d_is_integer.b .nil pass0 (pa_cons (pv 0) pa_nil)) (pe_one (pe_cmpR op_ge (pv 0) pe_int (nomark _)))))), ?_⟩
    refine ⟨_, rfl, _, rfl, true, rfl, iteT ?_⟩
    refine ⟨_, rfl, _, _, rfl, rfl, ?_⟩
    exact q_bl (Q := Q) (decide_eq_true (by omega)) k
theorem sc_is_list : FnScope ["value"] ["value"] (defScope s_is_list) := ⟨rfl, rfl, rfl, by decide +kernel, rfl, by decide +kernel, by decide +kernel⟩
/-- a list or a tuple -/
def IsSeq (H : Hp) (p : Addr) (xs : List V) : Prop := H p = some (.lst xs) ∨ H p = some (.tup xs)
theorem mSeq : Mono IsSeq := ⟨fun s h => h.elim (fun h => .inl (s _ _ h)) fun h => .inr (s _ _ h)⟩
theorem IsSeq.or {H : Hp} {p : Addr} {xs : List V} (h : IsSeq H p xs) : SqL K H p xs ∨ SqT K H p xs := h.elim (fun h => .inl (SqL.of h)) fun h => .inr (SqT.of h)
def sp_is_list : Sp := fun vs H Q _ => ∃ (a : Addr) (xs : List V), vs = [.ref a] ∧ IsSeq H a xs ∧ ∀ H', Same H H' → Q (.bl true) H'
theorem kit_lt (t : String) (h : t = "list" ∨ t = "tuple") : PySem.W.kitAny K (.type t) [.type "list", .type "tuple"] = some true := by
  rcases h with rfl | rfl
  · exact kitAny_cons (b := true) (kit_ty (by decide +kernel)) (fun z => nomatch z) fun _ => rfl
  · exact kitAny_cons (b := false) (kit_ty (by decide +kernel)) (fun _ => kitAny_cons (b := true) (kit_ty (by decide +kernel)) (fun z => nomatch z) fun _ => rfl) fun z => nomatch z
theorem ok_is_list (T : Txt K mg) : FnOk P w K mg base CX0 1 T.d_is_list.f T.d_is_list.fd ["value"] sp_is_list := by
  refine T.d_is_list.F.ok sc_is_list (fun vs H Q E h => ?_) (fun cdv A outer s H vs Q E hr h => ?_)
  · obtain ⟨a, xs, rfl, _⟩ := h
    rfl
  · obtain ⟨a, xs, rfl, hs, k⟩ := h
    refine ⟨_, (pss_one (ps_ret (pe_callB call_isiT (by rfl) T.b_isinstance bt_isinstance (pa_cons (pv 0) (pa_cons (pe_tup (pa_cons (pe_bltn (v := .ty "list") (by rfl) T.b_list bt_list rfl) (pa_cons (pe_bltn (v := .ty "tuple") (by rfl) T.b_tuple bt_tuple rfl) pa_nil))) pa_nil))))), ?_⟩
    refine ⟨_, rfl, (by show 2 ≤ sizeLine; decide), fun p hp => ?_⟩
    have hk := k _ (same_upd (o := .tup [.ty "list", .ty "tuple"]) hp)
    rcases hs with hs | hs
    · exact ⟨_, p, _, .type "list", _, true, rfl, upd_same, .cons (.ty _) (.cons (.ty _) .nil), .base (.lst (xs := xs) (by rw [upd_ne (ne_of_none hs hp)]; exact hs)), kit_lt _ (.inl rfl), hk⟩
    · exact ⟨_, p, _, .type "tuple", _, true, rfl, upd_same, .cons (.ty _) (.cons (.ty _) .nil), .base (.tup (xs := xs) (by rw [upd_ne (ne_of_none hs hp)]; exact hs)), kit_lt _ (.inr rfl), hk⟩
/-! ### lots -/
theorem sc_are_shelves : FnScope ["value"] ["value"] (defScope s_are_shelves) := ⟨rfl, rfl, rfl, by decide +kernel, rfl, by decide +kernel, by decide +kernel⟩
def sp_are_shelves : Sp := fun vs H Q _ => ∃ n : Nat, vs = [vn n] ∧ 2 ≤ n ∧ n ≤ 8 ∧ Q (.bl true) H
theorem ok_are_shelves (T : Txt K mg) : FnOk P w K mg base CX0 3 T.d_are_shelves.f T.d_are_shelves.fd ["value"] sp_are_shelves := by
  refine T.d_are_shelves.F.ok sc_are_shelves (fun vs H Q E h => ?_) (fun cdv A outer s H vs Q E hr h => ?_)
  · obtain ⟨i, rfl, _⟩ := h
    rfl
  · obtain ⟨n, rfl, h2, h8, k⟩ := h
    refine ⟨_, (pss_one (ps_ret (pe_and (pe_call (ok_is_count T) (hr.mono (by decide)) (by rfl) T.d_is_count.m T.d_is_count.F.kp T.d_is_count.b .nil pass0 (pa_cons (pv 0) pa_nil)) (pe_one (pe_chain op_le op_le (pe_glob (v := .int 2) (by rfl) T.c_LEAST_SHELVES ⟨_, rfl⟩) (pv 0) (pe_glob (v := .int 8) (by rfl) T.c_MOST_SHELVES ⟨_, rfl⟩)))))), ?_⟩
    refine ⟨_, rfl, n, rfl, true, rfl, iteT ?_⟩
    refine ⟨_, rfl, _, _, rfl, rfl, true, b_bl (decide_eq_true (by omega)), iteT ?_⟩
    exact ⟨_, _, rfl, rfl, q_bl (Q := Q) (decide_eq_true (by omega)) k⟩
theorem sc_want_shelves : FnScope ["value"] ["value"] (defScope s_want_shelves) := ⟨rfl, rfl, rfl, by decide +kernel, rfl, by decide +kernel, by decide +kernel⟩
def sp_want_shelves : Sp := fun vs H Q _ => ∃ n : Nat, vs = [vn n] ∧ 2 ≤ n ∧ n ≤ 8 ∧ Q .non H
theorem ok_want_shelves (T : Txt K mg) : FnOk P w K mg base CX0 4 T.d_want_shelves.f T.d_want_shelves.fd ["value"] sp_want_shelves := by
  refine T.d_want_shelves.F.ok sc_want_shelves (fun vs H Q E h => ?_) (fun cdv A outer s H vs Q E hr h => ?_)
  · obtain ⟨i, rfl, _⟩ := h
    rfl
  · obtain ⟨n, rfl, h2, h8, k⟩ := h
    refine ⟨_, (pss_one (ps_if (pt_not (pt_val (pe_call (ok_are_shelves T) (hr.mono (by decide)) (by rfl) T.d_are_shelves.m T.d_are_shelves.F.kp T.d_are_shelves.b .nil pass0 (pa_cons (pv 0) pa_nil)))) (pss_one ps_never) pss_nil)), ?_⟩
    exact ⟨_, rfl, n, rfl, h2, h8, true, rfl, iteF k⟩
end
end Tw
namespace Tw
open PySem PySem.Spec PyProof.Rows L2 TR
open TA (Plc zi)
theorem pg_tupK {X : Cx} {K : PySem.W.Frag} {es : List Expr} {k : Nat} {t : TGs} {n : Nat} {pos : Pos} (hK : X.K = K) (hc : X.calm = true) (h : PGs X es t)
    (hn : (assignEach es X.env).length = n := by rfl) (hst : (assignEach es X.env).findIdx? (·.1) = none := by rfl) : PG X (.Tuple es k pos) (gTup K n t) := by
  subst hK
  exact pg_tup hc h hn hst
section
variable {X : Cx} {K : PySem.W.Frag} (hK : X.K = K)
include hK
theorem ix_tupK : IxR X (rIxT K) := by subst hK; exact ix_tup
theorem ix_listK : IxR X (rIxL K) := by subst hK; exact ix_list
theorem call_len_seqK : CallR X (.builtin "len") (fun xs H Q => ∃ p ys, xs = [.ref p] ∧ (SqL K H p ys ∨ SqT K H p ys) ∧ Q (.int ys.length) H) := by subst hK; exact call_len_seq
theorem call_isiK' : CallR X (.builtin "isinstance") (rIsi K) := by subst hK; exact call_isi
theorem op_inDK (hu : X.A.units + 65 < cLine) : OpR X (compareOp .In) (rInD K) := by subst hK; exact op_inD hu
theorem op_notInDK (hu : X.A.units + 65 < cLine) : OpR X (compareOp .NotIn) (rNotInD K) := by subst hK; exact op_notInD hu
theorem pe_revLK {e : Expr} {te : TE} {k : Nat} {p1 p2 p3 pos : Pos} (he : PE X e te) : PE X (.Subscript e (.Slice none none (some (.UnaryOp .USub (.Constant (.int 1) k p1) p2)) p3) pos) (tRevL K te) := by subst hK; exact pe_revL he
theorem sl_listK : L2.SlR X (rSlL K) := by subst hK; exact sl_list
theorem call_tuple_ofK : CallR X (.type "tuple") (fun xs H Q => ∃ p ys, xs = [.ref p] ∧ ((SqL K H p ys ∧ ∀ l, H l = none → Q (.ref l) (upd H l (.tup ys))) ∨ (SqT K H p ys ∧ Q (.ref p) H))) := by subst hK; exact call_tuple_of
end
/-! ### comprehensions: what is made, turn by turn -/
/-- a comprehension's list at D over the heap H1: behind i turns it holds out i, by R -/
structure Lc {β : Type} (H1 : Hp) (D : Addr) (n : Nat) (out : Nat → List β) (R : V → β → Hp → Prop) : Prop where
  hD : H1 D = none
  h0 : out 0 = []
  len : ∀ i, (out i).length ≤ i
  small : n ≤ sizeLine
  st : ∀ y b H H', R y b H → (∀ c o, c ≠ D → H c = some o → H' c = some o) → R y b H'
/-- what holds behind i turns -/
structure LcP {β : Type} (H1 : Hp) (D : Addr) (out : Nat → List β) (R : V → β → Hp → Prop) (i : Nat) (H : Hp) : Prop where
  same : Same H1 H
  at_ : ∃ acc, H D = some (.lst acc) ∧ Paired (fun y b => R y b H) acc (out i)
section
variable {β : Type} {H1 : Hp} {D : Addr} {n : Nat} {out : Nat → List β} {R : V → β → Hp → Prop}
theorem Lc.put (L : Lc H1 D n out R) {i : Nat} (hi : i < n) {H H4 : Hp} (p : LcP H1 D out R i H) (s4 : Same H H4) {y : V} {b : β} (e : out (i + 1) = out i ++ [b]) (r : R y b H4) :
    ∃ acc, H4 D = some (.lst acc) ∧ acc.length < sizeLine ∧ LcP H1 D out R (i + 1) (upd H4 D (.lst (acc ++ [y]))) := by
  obtain ⟨s, acc, h1, h2⟩ := p
  have k4 : ∀ c o, c ≠ D → H4 c = some o → upd H4 D (.lst (acc ++ [y])) c = some o := fun c o ne e => by rw [upd_ne ne]; exact e
  refine ⟨acc, s4 _ _ h1, ?_, fun c o e => k4 c o (ne_of_none e L.hD) (s4 c o (s c o e)), _, upd_same, ?_⟩
  · have := h2.length
    have := L.len i
    have := L.small
    omega
  · rw [e]
    exact paired_snoc (Paired.mapP h2 fun y b r => L.st y b _ _ (L.st y b _ _ r fun c o _ e => s4 c o e) k4) (L.st _ _ _ _ r k4)
theorem Lc.skip (L : Lc H1 D n out R) {i : Nat} {H H3 : Hp} (p : LcP H1 D out R i H) (s3 : Same H H3) (e : out (i + 1) = out i) : LcP H1 D out R (i + 1) H3 := by
  obtain ⟨s, acc, h1, h2⟩ := p
  exact ⟨s.trans s3, acc, s3 _ _ h1, by rw [e]; exact Paired.mapP h2 fun y b r => L.st y b _ _ r fun c o _ e => s3 c o e⟩
theorem LcP.no {i : Nat} {H : Hp} (p : LcP H1 D out R i H) : ∃ o, H D = some o := let ⟨acc, h, _⟩ := p.at_; ⟨_, h⟩
theorem lc_gen {J : It} {G : Hp → Prop} {Y : Nat → Hp → V → Hp → Prop} (L : Lc H1 D n out R) (wk : Walk J n G Y) {g : TG} {tt : TT} {te : TE} {vs : List Nat} {σ : L2.St} {Qd : Hp → Prop} (hG : ∀ H, Same H1 H → G H)
    (hs : ∀ i x H H', i < n → LcP H1 D out R i H → Y i H x H' → g x (wipe σ vs) H' fun σ2 H2 => wipe σ2 vs = wipe σ vs ∧ tt σ2 H2 fun b H3 =>
      if b = true then te σ2 H3 fun y H4 => ∃ acc, H4 D = some (.lst acc) ∧ acc.length < sizeLine ∧ LcP H1 D out R (i + 1) (upd H4 D (.lst (acc ++ [y]))) else LcP H1 D out R (i + 1) H3)
    (hd : ∀ H' ys, Same H1 H' → H' D = some (.lst ys) → Paired (fun y b => R y b H') ys (out n) → Qd H') :
    ∃ W : Nat → Nat → Hp → Prop, (∃ m, W 0 m (upd H1 D (.lst []))) ∧ ∀ i m H, W i m H →
      (J.stop i H ∧ Qd H) ∨ (J.go i H ∧ ∃ Nx : Hp → Prop, (∀ H', Nx H' → ∃ m', m' < m ∧ W (i + 1) m' H') ∧ ∀ x H', J.yld i H x H' → g x (wipe σ vs) H' fun σ2 H2 => wipe σ2 vs = wipe σ vs ∧ tt σ2 H2 fun b H3 =>
        if b = true then te σ2 H3 fun y H4 => ∃ acc, H4 D = some (.lst acc) ∧ acc.length < sizeLine ∧ Nx (upd H4 D (.lst (acc ++ [y]))) else Nx H3) :=
  lc_it wk (fun i H => LcP H1 D out R i H) ⟨same_upd L.hD, [], upd_same, by rw [L.h0]; exact .nil⟩ (fun i H _ h => hG H h.same) hs fun H p => let ⟨s, acc, h1, h2⟩ := p; hd H acc s h1 h2
end
theorem paired_bl : ∀ {ys : List V} {bs : List Bool}, Paired (fun y b => y = V.bl b) ys bs → ys = bs.map V.bl
  | _, _, .nil => rfl
  | _, _, .cons h t => by rw [h, paired_bl t]; rfl
theorem paired_vn : ∀ {ys : List V} {ns : List Nat}, Paired (fun y n => y = vn n) ys ns → ys = nl ns
  | _, _, .nil => rfl
  | _, _, .cons h t => by rw [h, paired_vn t]; rfl
theorem all_true (n : Nat) : (List.replicate n true).all id = true := by
  rw [List.all_eq_true]
  intro x hx
  rw [List.eq_of_mem_replicate hx]; rfl
theorem take_snoc {α β : Type} {l : List α} {f : α → β} {i : Nat} {x : α} (h : l[i]? = some x) : (l.take (i + 1)).map f = (l.take i).map f ++ [f x] := by
  rw [List.take_add_one, h, List.map_append]; rfl
theorem take_snoc' {α : Type} {l : List α} {i : Nat} {x : α} (h : l[i]? = some x) : l.take (i + 1) = l.take i ++ [x] := by
  rw [List.take_add_one, h]; rfl
theorem map_zi1 : ∀ {ns : List Int} {xs : List Nat}, (∀ k ∈ ns, k ∈ zi xs) → ∃ L : List Nat, ns = zi L
  | [], _, _ => ⟨[], rfl⟩
  | k :: r, xs, h => by
    obtain ⟨n, _, rfl⟩ := zi_mem (h k List.mem_cons_self)
    obtain ⟨L, rfl⟩ := map_zi1 (ns := r) (xs := xs) fun j hj => h j (List.mem_cons_of_mem _ hj)
    exact ⟨n :: L, rfl⟩
/-- a sorted set of counts -/
theorem set_of {ns : List Int} {xs : List Nat} (hs : ns.Pairwise (· < ·)) (hm : ∀ k : Int, k ∈ ns ↔ decide (k ∈ zi xs) = true) : ∃ L : List Nat, ns = zi L ∧ L.Pairwise (· < ·) ∧ ∀ x, x ∈ L ↔ x ∈ xs := by
  obtain ⟨L, rfl⟩ := map_zi1 (ns := ns) (xs := xs) fun k hk => of_decide_eq_true ((hm k).mp hk)
  refine ⟨L, rfl, (List.pairwise_map.mp hs).imp fun h => by omega, fun x => ?_⟩
  have := hm (x : Int)
  rw [decide_eq_true_eq, mem_zi, mem_zi] at this
  exact this
theorem inc_length {L xs : List Nat} (hL : L.Pairwise (· < ·)) (hx : xs.Nodup) (hm : ∀ x, x ∈ L ↔ x ∈ xs) : L.length = xs.length :=
  ((List.perm_ext_iff_of_nodup (hL.imp fun h => Nat.ne_of_lt h) hx).mpr hm).length_eq
theorem filter_put {α : Type} {f : α → Bool} {l : List α} {x : α} (h : f x = true) : (l ++ [x]).filter f = l.filter f ++ [x] := by
  rw [List.filter_append, List.filter_cons_of_pos h]; rfl
theorem filter_skip {α : Type} {f : α → Bool} {l : List α} {x : α} (h : f x = false) : (l ++ [x]).filter f = l.filter f := by
  rw [List.filter_append, List.filter_cons_of_neg (by rw [h]; exact Bool.false_ne_true)]; exact List.append_nil _
theorem v_int {a b : Int} (h : a = b) : V.int a = V.int b := by rw [h]
section
variable {P : Program} {w : World} {K : PySem.W.Frag} {mg : Str → Option Value} {base : Heap}
theorem sc_is_lot_of : FnScope ["shelves", "value", "shelf"] ["shelves", "value"] (defScope s_is_lot_of) := ⟨rfl, rfl, rfl, by decide +kernel, rfl, by decide +kernel, by decide +kernel⟩
def sp_is_lot_of : Sp := fun vs H Q _ => ∃ (n : Nat) (a : Addr) (xs : List Nat), vs = [vn n, .ref a] ∧ IsNT H a xs ∧ (∀ x ∈ xs, x < n) ∧ xs.Nodup ∧ xs.length < 64 ∧ ∀ H', Same H H' → Q (.bl true) H'
theorem ok_is_lot_of (T : Txt K mg) : FnOk P w K mg base CX0 3 T.d_is_lot_of.f T.d_is_lot_of.fd ["shelves", "value"] sp_is_lot_of := by
  refine T.d_is_lot_of.F.ok sc_is_lot_of (fun vs H Q E h => ?_) (fun cdv A outer s H vs Q E hr h => ?_)
  · obtain ⟨n, a, xs, rfl, _⟩ := h
    rfl
  · obtain ⟨n, a, xs, rfl, hx, hlt, hnd, h64, k⟩ := h
    refine ⟨_, (pss_cons (ps_if (PW.pt (pw_or (pt_not (pt_val (pe_call (ok_is_list T) (hr.mono (by decide)) (by rfl) T.d_is_list.m T.d_is_list.F.kp T.d_is_list.b .nil pass0 (pa_cons (pv 1) pa_nil)))) (pw_or1 (pt_not (pt_val (pe_callB (cr_all rfl) (by rfl) T.b_all bt_all (pa_cons (pe_lc (own := [("shelf", 2)]) rfl sc_is_lot_of.nd (pi_tup (pv 1)) (blkOk_by (own := [("shelf", 2)]) (N := ["shelves", "value", "shelf"]) (sc := defScope s_is_lot_of) (by decide +kernel)) (fun _ _ _ _ _ => (pg_name (i := 2) sc_is_lot_of.nd rfl (Or.inl rfl))) (fun _ _ _ _ _ => pts_nil) (fun _ _ _ _ _ => (pe_and (pe_call (ok_is_count T) (hr.mono (by decide)) (by rfl) T.d_is_count.m T.d_is_count.F.kp T.d_is_count.b .nil pass0 (pa_cons (pv 2) pa_nil)) (pe_one (pe_cmpR op_lt (pv 2) (pv 0) (nomark _)))))) pa_nil))))))) (pss_one (ps_ret pe_bl)) pss_nil)
    (pss_one (ps_ret (pe_cmpR op_eq (pe_callB call_len_seq (by rfl) T.b_len bt_len (pa_cons (pe_callB (cr_sortedSet rfl) (by rfl) T.b_sorted bt_sorted (pa_cons (pe_callTy (cr_setI rfl) (by rfl) T.b_set bt_set (pa_cons (pv 1) pa_nil)) pa_nil)) pa_nil)) (pe_callB call_len_seq (by rfl) T.b_len bt_len (pa_cons (pv 1) pa_nil)) (nomark _))))), ?_⟩
    refine ⟨_, rfl, a, nl xs, rfl, .inr hx, fun H1 s1 => ⟨true, rfl, iteF ?_⟩⟩
    refine ⟨_, rfl, a, rfl, ⟨_, SqT.of (s1 _ _ hx)⟩, fun D hD => ?_⟩
    have L : Lc H1 D (nl xs).length (fun i => List.replicate i true) (fun y b _ => y = V.bl b) := ⟨hD, rfl, fun i => by simp, by rw [nl_length]; exact small64 h64, fun _ _ _ _ h _ => h⟩
    refine lc_gen L walk_tup (fun H2 s2 => SqT.of (s2 _ _ (s1 _ _ hx))) ?_ ?_
    · rintro i x H2 H3 hi p ⟨rfl, hx'⟩
      obtain ⟨m, hm, rfl⟩ := nl_of hx'
      have hmn : m < n := hlt m (List.mem_of_getElem? hm)
      refine ⟨rfl, _, rfl, m, rfl, true, rfl, ?_⟩
      exact ⟨_, rfl, _, rfl, _, _, rfl, rfl, L.put hi p (Same.refl _) (List.replicate_succ' ..) (b_bl (decide_eq_true (by omega)))⟩
    · intro H2 ys s2 hd hp
      rw [paired_bl hp] at hd
      refine ⟨D, _, rfl, SqL.of hd, true, b_bl (all_true _), ?_⟩
      have s12 := s1.trans s2
      refine ⟨_, rfl, a, zi xs, rfl, .inr (SqT.of (s12 _ _ hx)), by rw [zi_length]; exact h64, fun p c hc hp' => ?_⟩
      have s3 : Same H2 (upd H2 p (SetO w p (fun j => decide (j ∈ zi xs)) c)) := same_upd hp'
      refine ⟨p, _, c, rfl, upd_same, by rw [zi_length] at hc; omega, fun ns q hns hm hl hq => ?_⟩
      have s4 := s3.trans (same_upd (o := .lst (ns.map V.int)) hq)
      obtain ⟨L', rfl, hinc, hmem⟩ := set_of hns hm
      refine ⟨q, nl L', rfl, .inl (SqL.of upd_same), _, rfl, a, nl xs, rfl, .inr (SqT.of (s4 _ _ (s12 _ _ hx))), rfl, ?_⟩
      refine q_bl (Q := Q) (decide_eq_true (v_int ?_)) (k _ (s12.trans s4))
      rw [nl_length, nl_length, inc_length hinc hnd hmem]
theorem sc_bits_of : FnScope ["lot", "found", "shelf"] ["lot"] (defScope s_bits_of) := ⟨rfl, rfl, rfl, by decide +kernel, rfl, by decide +kernel, by decide +kernel⟩
def sp_bits_of : Sp := fun vs H Q _ => ∃ (a : Addr) (xs : List Nat), vs = [.ref a] ∧ IsSeq H a (nl xs) ∧ (∀ x ∈ xs, x < 8) ∧ Q (vn (TA.bitsOf xs)) H
theorem or_step (xs : List Nat) (i x : Nat) (h : xs[i]? = some x) : TA.orTo 0 (xs.take (i + 1)) = TA.orTo 0 (xs.take i) ||| 2 ^ x := by
  unfold TA.orTo
  rw [take_snoc' h, List.foldl_append]; rfl
theorem bitOr_nat (a b : Nat) : Builtin.bitOr (a : Int) (b : Int) = ((a ||| b : Nat) : Int) := by
  rw [bitOr_nn (Int.natCast_nonneg _) (Int.natCast_nonneg _), Int.toNat_natCast, Int.toNat_natCast]
theorem ok_bits_of (T : Txt K mg) : FnOk P w K mg base CX0 1 T.d_bits_of.f T.d_bits_of.fd ["lot"] sp_bits_of := by
  refine T.d_bits_of.F.ok sc_bits_of (fun vs H Q E h => ?_) (fun cdv A outer s H vs Q E hr h => ?_)
  · obtain ⟨a, xs, rfl, _⟩ := h
    rfl
  · obtain ⟨a, xs, rfl, hx, h8, k⟩ := h
    refine ⟨_, (pss_cons (ps_set (i := 1) sc_bits_of.nd rfl (Or.inl rfl) pe_int)
    (pss_cons (ps_for PassesOwn.never rfl (pi_seq (pv 0)) (pg_name (i := 2) sc_bits_of.nd rfl (Or.inl rfl)) (pss_one (ps_set (i := 1) sc_bits_of.nd rfl (Or.inl rfl) (pe_op op_or (pv 1) (pe_op op_shl pe_int (pv 2))))))
    (pss_one (ps_ret (pv 1))))), ?_⟩
    have turn : ∀ i x (σ : L2.St) H', i < (nl xs).length → (∃ v : Option V, σ = [some (.ref a), some (vn (TA.orTo 0 (xs.take i))), v] ∧ H' = H) → (nl xs)[i]? = some x →
        gName 2 x σ H' fun σ2 H2 => (tAsg (tOp (rI0 fun i j => .int (Builtin.bitOr i j)) (tVar 1) (tOp (rI CPow fun i j => .int (i * 2 ^ j.toNat)) (tC (.int 1)) (tVar 2))) (gName 1))
          { nx := fun σ H' => ∃ v : Option V, σ = [some (.ref a), some (vn (TA.orTo 0 (xs.take (i + 1)))), v] ∧ H' = H, rt := Q, ct := fun σ H' => ∃ v : Option V, σ = [some (.ref a), some (vn (TA.orTo 0 (xs.take (i + 1)))), v] ∧ H' = H } σ2 H2 := by
      rintro i x σ H' hi ⟨v, rfl, rfl⟩ hx'
      obtain ⟨m, hm, rfl⟩ := nl_of hx'
      have hm8 : m < 8 := h8 m (List.mem_of_getElem? hm)
      refine ⟨_, rfl, _, rfl, _, _, rfl, rfl, ⟨by omega, by omega, by decide⟩, _, _, rfl, rfl, some (vn m), ?_, rfl⟩
      have e : Builtin.bitOr ((TA.orTo 0 (xs.take i) : Nat) : Int) (1 * 2 ^ ((m : Int).toNat)) = ((TA.orTo 0 (xs.take (i + 1)) : Nat) : Int) := by
        have e2 : (1 * 2 ^ ((m : Int).toNat) : Int) = ((2 ^ m : Nat) : Int) := by
          rw [Int.toNat_natCast, Int.one_mul]
          exact (Int.natCast_pow 2 m).symm
        rw [e2, bitOr_nat, or_step xs i m hm]
      show [some (V.ref a), some (V.int (Builtin.bitOr _ _)), some (vn m)] = _
      rw [e]
    have fin : ∀ (σ : L2.St) H', (∃ v : Option V, σ = [some (.ref a), some (vn (TA.orTo 0 (xs.take (nl xs).length))), v] ∧ H' = H) → (tRet (tVar 1)) { nx := fun _ H' => Q .non H', rt := Q } σ H' := by
      rintro σ H' ⟨v, rfl, rfl⟩
      refine ⟨_, rfl, ?_⟩
      have : xs.take (nl xs).length = xs := by rw [nl_length, List.take_length]
      rw [this]
      exact k
    have h0 : ∃ v : Option V, ([some (V.ref a), some (vn 0), none] : L2.St) = [some (.ref a), some (vn (TA.orTo 0 (xs.take 0))), v] ∧ H = H := ⟨none, rfl, rfl⟩
    refine ⟨_, rfl, a, nl xs, rfl, ?_⟩
    rcases hx with hx | hx
    · exact .inl ⟨SqL.of hx, for_it walk_list (fun i σ H' => ∃ v : Option V, σ = [some (.ref a), some (vn (TA.orTo 0 (xs.take i))), v] ∧ H' = H) h0 (fun i σ H' _ ⟨_, _, e⟩ => by rw [e]; exact SqL.of hx) (fun i x σ H' H'' hi p y => by
        obtain ⟨rfl, hy⟩ := y
        exact turn i x σ _ hi p hy) fin⟩
    · exact .inr ⟨SqT.of hx, for_it walk_tup (fun i σ H' => ∃ v : Option V, σ = [some (.ref a), some (vn (TA.orTo 0 (xs.take i))), v] ∧ H' = H) h0 (fun i σ H' _ ⟨_, _, e⟩ => by rw [e]; exact SqT.of hx) (fun i x σ H' H'' hi p y => by
        obtain ⟨rfl, hy⟩ := y
        exact turn i x σ _ hi p hy) fin⟩
theorem sc_spots_of : FnScope ["bits", "shelf"] ["bits"] (defScope s_spots_of) := ⟨rfl, rfl, rfl, by decide +kernel, rfl, by decide +kernel, by decide +kernel⟩
def sp_spots_of : Sp := fun vs H Q _ => ∃ m : Nat, vs = [vn m] ∧ ∀ H' p, Same H H' → H p = none → IsNT H' p (TA.spots m) → Q (.ref p) H'
theorem bitAnd_nat (a b : Nat) : Builtin.bitAnd (a : Int) (b : Int) = ((a &&& b : Nat) : Int) := rfl
theorem ok_spots_of (T : Txt K mg) : FnOk P w K mg base CX0 1 T.d_spots_of.f T.d_spots_of.fd ["bits"] sp_spots_of := by
  refine T.d_spots_of.F.ok sc_spots_of (fun vs H Q E h => ?_) (fun cdv A outer s H vs Q E hr h => ?_)
  · obtain ⟨m, rfl, _⟩ := h
    rfl
  · obtain ⟨m, rfl, k⟩ := h
    refine ⟨_, (pss_one (ps_ret (pe_callTy call_tuple_of (by rfl) T.b_tuple bt_tuple (pa_cons (pe_lc (own := [("shelf", 1)]) rfl sc_spots_of.nd (pi_range1 (by rfl) T.b_range (pa_cons (pe_glob (v := .int 8) (by rfl) T.c_MOST_SHELVES ⟨_, rfl⟩) pa_nil)) (blkOk_by (own := [("shelf", 1)]) (N := ["bits", "shelf"]) (sc := defScope s_spots_of) (by decide +kernel)) (fun _ _ _ _ _ => (pg_name (i := 1) sc_spots_of.nd rfl (Or.inl rfl))) (fun _ _ _ _ _ => (pts_one (pt_cmpR op_eq (pe_op op_and (pe_op op_shr (pv 0) (pv 1)) pe_int) pe_int (nomark _)))) (fun _ _ _ _ _ => (pv 1))) pa_nil)))), ?_⟩
    refine ⟨8, rfl, by decide, by decide, fun D hD => ?_⟩
    have L : Lc H D 8 (fun i => (List.range i).filter fun s => decide (m / 2 ^ s % 2 = 1)) (fun y b _ => y = vn b) := ⟨hD, rfl, fun i => Nat.le_trans (List.length_filter_le _ _) (by simp), by decide, fun _ _ _ _ h _ => h⟩
    refine lc_gen L (walk_range (lo := 0) (n := 8)) (fun _ _ => trivial) ?_ ?_
    · rintro i x H2 H3 hi p ⟨rfl, hx⟩
      have hx : x = vn i := hx.trans (congrArg V.int (Int.zero_add _))
      subst hx
      refine ⟨rfl, _, rfl, _, rfl, _, _, rfl, rfl, (by omega), _, _, rfl, rfl, rfl, _, rfl, ?_⟩
      have e2 : Builtin.bitAnd ((m : Int) / 2 ^ ((i : Int).toNat)) 1 = ((m / 2 ^ i % 2 : Nat) : Int) := by
        have e3 : ((m : Int) / 2 ^ ((i : Int).toNat)) = ((m / 2 ^ i : Nat) : Int) := by
          rw [Int.toNat_natCast]; simp
        rw [e3]
        show (((m / 2 ^ i) &&& 1 : Nat) : Int) = _
        rw [Nat.and_one_is_mod]
      have e4 : decide (V.int (Builtin.bitAnd ((m : Int) / 2 ^ ((i : Int).toNat)) 1) = V.int 1) = decide (m / 2 ^ i % 2 = 1) := by
        rw [e2]
        by_cases c : m / 2 ^ i % 2 = 1
        · rw [c]; rfl
        · rw [decide_eq_false c]
          refine decide_eq_false fun z => c ?_
          injection z with z
          omega
      show if decide (V.int (Builtin.bitAnd ((m : Int) / 2 ^ ((i : Int).toNat)) 1) = V.int 1) = true then _ else _
      rw [e4]
      by_cases c : m / 2 ^ i % 2 = 1
      · refine iteP c ⟨_, rfl, L.put hi p (Same.refl _) ?_ rfl⟩
        show (List.range (i + 1)).filter _ = _
        rw [List.range_succ]; exact filter_put (decide_eq_true c)
      · refine iteN c (L.skip p (Same.refl _) ?_)
        show (List.range (i + 1)).filter _ = _
        rw [List.range_succ]; exact filter_skip (decide_eq_false c)
    · intro H2 ys s2 hd hp
      rw [paired_vn hp] at hd
      refine ⟨D, nl (TA.spots m), rfl, .inl ⟨SqL.of hd, fun l hl => ?_⟩⟩
      exact k _ l (s2.trans (same_upd hl)) (s2.free hl) upd_same
theorem sc_told_lot : FnScope ["bits"] ["bits"] (defScope s_told_lot) := ⟨rfl, rfl, rfl, by decide +kernel, rfl, by decide +kernel, by decide +kernel⟩
def sp_told_lot : Sp := fun vs H Q _ => ∃ m : Nat, vs = [vn m] ∧ ∀ H' p, Same H H' → H p = none → IsN H' p (TA.spots m) → Q (.ref p) H'
theorem ok_told_lot (T : Txt K mg) : FnOk P w K mg base CX0 2 T.d_told_lot.f T.d_told_lot.fd ["bits"] sp_told_lot := by
  refine T.d_told_lot.F.ok sc_told_lot (fun vs H Q E h => ?_) (fun cdv A outer s H vs Q E hr h => ?_)
  · obtain ⟨m, rfl, _⟩ := h
    rfl
  · obtain ⟨m, rfl, k⟩ := h
    refine ⟨_, (pss_one (ps_ret (pe_callTy call_list_of (by rfl) T.b_list bt_list (pa_cons (pe_call (ok_spots_of T) (hr.mono (by decide)) (by rfl) T.d_spots_of.m T.d_spots_of.F.kp T.d_spots_of.b .nil pass0 (pa_cons (pv 0) pa_nil)) pa_nil)))), ?_⟩
    refine ⟨_, rfl, m, rfl, fun H1 q s1 hq h1 => ?_⟩
    refine ⟨q, nl (TA.spots m), rfl, .inr (SqT.of h1), fun l hl => ?_⟩
    exact k _ l (s1.trans (same_upd hl)) (s1.free hl) upd_same
end
end Tw
namespace Tw
open PySem PySem.Spec PyProof.Rows L2 TR
open TA (Plc zi)
section
variable {P : Program} {w : World} {K : PySem.W.Frag} {mg : Str → Option Value} {base : Heap}
/-! ### comprehensions that make objects -/
def cut (H : Hp) (D : Addr) : Hp := fun c => if c = D then none else H c
theorem cut_ne {H : Hp} {D c : Addr} (h : c ≠ D) : cut H D c = H c := if_neg h
theorem cut_same {H : Hp} {D : Addr} : Same (cut H D) H := fun c o e => by
  unfold cut at e
  split at e
  · cases e
  · exact e
/-- the object at a reference, told without D -/
def RefTo {β : Type} (Rel : Hp → Addr → β → Prop) (D : Addr) (y : V) (b : β) (H : Hp) : Prop := ∃ p, y = V.ref p ∧ Rel (cut H D) p b
theorem Lc.refs {β : Type} {Rel : Hp → Addr → β → Prop} (m : Mono Rel) {H1 : Hp} {D : Addr} {n : Nat} {out : Nat → List β} (hD : H1 D = none) (h0 : out 0 = []) (len : ∀ i, (out i).length ≤ i) (small : n ≤ sizeLine) : Lc H1 D n out (RefTo Rel D) :=
  ⟨hD, h0, len, small, fun y b H H' ⟨p, e, h⟩ hk => ⟨p, e, m.m (fun c o e => by
    by_cases z : c = D
    · rw [z] at e; rw [show cut H D D = none from if_pos rfl] at e; cases e
    · rw [cut_ne z] at e ⊢; exact hk c o z e) h⟩⟩
theorem paired_refs {β : Type} {Rel : Hp → Addr → β → Prop} (m : Mono Rel) {D : Addr} {H : Hp} : ∀ {ys : List V} {bs : List β}, Paired (fun y b => RefTo Rel D y b H) ys bs → ∃ ps : List Addr, ys = ps.map V.ref ∧ Paired (Rel H) ps bs
  | _, _, .nil => ⟨[], rfl, .nil⟩
  | _, _, .cons ⟨p, e, h⟩ t => by
    obtain ⟨ps, e2, h2⟩ := paired_refs m t
    exact ⟨p :: ps, by rw [e, e2]; rfl, .cons (m.m cut_same h) h2⟩
theorem ne_at {H : Hp} {p D : Addr} (hp : H p = none) (hD : ∃ o, H D = some o) : p ≠ D := fun e => by
  obtain ⟨o, h⟩ := hD
  rw [← e, hp] at h; cases h
theorem IsN.cut {H : Hp} {p D : Addr} {xs : List Nat} (h : IsN H p xs) (ne : p ≠ D) : IsN (cut H D) p xs := (cut_ne ne).trans h
theorem IsNT.cut {H : Hp} {p D : Addr} {xs : List Nat} (h : IsNT H p xs) (ne : p ≠ D) : IsNT (cut H D) p xs := (cut_ne ne).trans h
/-- a row's place, by F -/
def RowF (F : Addr → List Nat → Prop) (p : Addr) (r : List Int) : Prop := ∃ ns : List Nat, r = zi ns ∧ F p ns
theorem rows_of {F : Addr → List Nat → Prop} : ∀ {ps : List Addr} {rows : List (List Nat)}, Paired F ps rows → Rows (RowF F) (ps.map V.ref) (rows.map zi)
  | _, _, .nil => .nil
  | _, _, .cons h t => .cons ⟨_, rfl, _, rfl, h⟩ (rows_of t)
theorem of_rows {F : Addr → List Nat → Prop} : ∀ {ys : List V} {rows : List (List Nat)}, Rows (RowF F) ys (rows.map zi) → ∃ ps : List Addr, ys = ps.map V.ref ∧ Paired F ps rows
  | [], [], _ => ⟨[], rfl, .nil⟩
  | [], _ :: _, h => nomatch h
  | _ :: _, [], h => nomatch h
  | y :: ys, r :: rows, .cons ⟨p, e, ns, e3, h⟩ t => by
    obtain ⟨ps, e2, h2⟩ := of_rows t
    have := TA.zi_inj e3
    subst this
    exact ⟨p :: ps, by rw [e, e2]; rfl, .cons h h2⟩
theorem rowF_lst {F : Addr → List Nat → Prop} {H : Hp} (h : ∀ p ns, F p ns → IsN H p ns) (p : Addr) (r : List Int) (hr : RowF F p r) : H p = some (.lst (r.map V.int)) := by
  obtain ⟨ns, rfl, hF⟩ := hr
  exact h p ns hF
theorem subset_length {L M : List Nat} (hL : L.Pairwise (· < ·)) (h : ∀ x ∈ L, x ∈ M) : L.length ≤ M.length :=
  List.Nodup.length_le_of_subset (hL.imp fun h => Nat.ne_of_lt h) h
/-- a kind as it is handed in -/
structure KindIn (n : Nat) (k : List Nat) : Prop where
  lt : ∀ x ∈ k, x < n
  nd : k.Nodup
  len : k.length < 64
  ne : k ≠ []
theorem sc_is_kind : FnScope ["shelves", "value"] ["shelves", "value"] (defScope s_is_kind) := ⟨rfl, rfl, rfl, by decide +kernel, rfl, by decide +kernel, by decide +kernel⟩
def sp_is_kind : Sp := fun vs H Q _ => ∃ (n : Nat) (a : Addr) (xs : List Nat), vs = [vn n, .ref a] ∧ IsNT H a xs ∧ KindIn n xs ∧ ∀ H', Same H H' → Q (.bl true) H'
theorem ok_is_kind (T : Txt K mg) : FnOk P w K mg base CX0 4 T.d_is_kind.f T.d_is_kind.fd ["shelves", "value"] sp_is_kind := by
  refine T.d_is_kind.F.ok sc_is_kind (fun vs H Q E h => ?_) (fun cdv A outer s H vs Q E hr h => ?_)
  · obtain ⟨n, a, xs, rfl, _⟩ := h
    rfl
  · obtain ⟨n, a, xs, rfl, hx, hk, k⟩ := h
    refine ⟨_, (pss_one (ps_ret (pe_and (pe_call (ok_is_lot_of T) (hr.mono (by decide)) (by rfl) T.d_is_lot_of.m T.d_is_lot_of.F.kp T.d_is_lot_of.b .nil pass0 (pa_cons (pv 0) (pa_cons (pv 1) pa_nil))) (pe_one (pe_cmpR op_gt (pe_callB call_len_seq (by rfl) T.b_len bt_len (pa_cons (pv 1) pa_nil)) pe_int (nomark _)))))), ?_⟩
    refine ⟨_, rfl, _, rfl, n, a, xs, rfl, hx, hk.lt, hk.nd, hk.len, fun H1 s1 => ⟨true, rfl, iteT ?_⟩⟩
    refine ⟨_, rfl, a, nl xs, rfl, .inr (SqT.of (s1 _ _ hx)), _, _, rfl, rfl, q_bl (Q := Q) (decide_eq_true ?_) (k _ s1)⟩
    have := List.length_pos_iff.mpr hk.ne
    rw [nl_length]; omega
theorem sc_are_kinds : FnScope ["shelves", "value", "one"] ["shelves", "value"] (defScope s_are_kinds) := ⟨rfl, rfl, rfl, by decide +kernel, rfl, by decide +kernel, by decide +kernel⟩
def sp_are_kinds : Sp := fun vs H Q _ => ∃ (n : Nat) (a : Addr) (kinds : List (List Nat)), vs = [vn n, .ref a] ∧ IsOf IsNT H a kinds ∧ kinds.length ≤ 8 ∧ (∀ k ∈ kinds, KindIn n k) ∧ ∀ H', Same H H' → Q (.bl true) H'
theorem ok_are_kinds (T : Txt K mg) : FnOk P w K mg base CX0 5 T.d_are_kinds.f T.d_are_kinds.fd ["shelves", "value"] sp_are_kinds := by
  refine T.d_are_kinds.F.ok sc_are_kinds (fun vs H Q E h => ?_) (fun cdv A outer s H vs Q E hr h => ?_)
  · obtain ⟨n, a, xs, rfl, _⟩ := h
    rfl
  · obtain ⟨n, a, kinds, rfl, ⟨ps, ha, hps⟩, h8, hk, k⟩ := h
    have hl : ps.length = kinds.length := hps.length
    refine ⟨_, (pss_one (ps_ret (pe_and (pe_call (ok_is_list T) (hr.mono (by decide)) (by rfl) T.d_is_list.m T.d_is_list.F.kp T.d_is_list.b .nil pass0 (pa_cons (pv 1) pa_nil)) (pe_and (pe_cmpR op_le (pe_callB call_len_seq (by rfl) T.b_len bt_len (pa_cons (pv 1) pa_nil)) (pe_glob (v := .int 8) (by rfl) T.c_MOST_KINDS ⟨_, rfl⟩) (nomark _)) (pe_one (pe_callB (cr_all rfl) (by rfl) T.b_all bt_all (pa_cons (pe_lc (own := [("one", 2)]) rfl sc_are_kinds.nd (pi_list (pv 1)) (blkOk_by (own := [("one", 2)]) (N := ["shelves", "value", "one"]) (sc := defScope s_are_kinds) (by decide +kernel)) (fun _ _ _ _ _ => (pg_name (i := 2) sc_are_kinds.nd rfl (Or.inl rfl))) (fun _ _ _ _ _ => pts_nil) (fun _ _ _ _ _ => (pe_call (ok_is_kind T) (hr.mono (by decide)) (by rfl) T.d_is_kind.m T.d_is_kind.F.kp T.d_is_kind.b .nil pass0 (pa_cons (pv 0) (pa_cons (pv 2) pa_nil))))) pa_nil))))))), ?_⟩
    refine ⟨_, rfl, a, _, rfl, .inl ha, fun H1 s1 => ⟨true, rfl, iteT ?_⟩⟩
    refine ⟨_, rfl, a, _, rfl, .inl (SqL.of (s1 _ _ ha)), _, _, rfl, rfl, true, b_bl (decide_eq_true (by rw [List.length_map, hl]; omega)), iteT ?_⟩
    refine ⟨_, rfl, a, rfl, ⟨_, SqL.of (s1 _ _ ha)⟩, fun D hD => ?_⟩
    have L : Lc H1 D (ps.map V.ref).length (fun i => List.replicate i true) (fun y b _ => y = V.bl b) := ⟨hD, rfl, fun i => by simp, by rw [List.length_map, hl]; exact Nat.le_trans h8 (by decide), fun _ _ _ _ h _ => h⟩
    refine lc_gen L walk_list (fun H2 s2 => SqL.of (s2 _ _ (s1 _ _ ha))) ?_ ?_
    · rintro i x H2 H3 hi p ⟨rfl, hx'⟩
      obtain ⟨q, hq, rfl⟩ := refs_at hx'
      obtain ⟨kd, hkd, hqk⟩ := paired_at' hps hq
      refine ⟨rfl, ?_⟩
      refine ⟨_, rfl, _, rfl, n, q, kd, rfl, (s1.trans p.same) _ _ hqk, hk kd (List.mem_of_getElem? hkd), fun H4 s4 => ?_⟩
      exact L.put hi p s4 (List.replicate_succ' ..) rfl
    · intro H2 ys s2 hd hp
      rw [paired_bl hp] at hd
      exact ⟨D, _, rfl, SqL.of hd, q_bl (Q := Q) (all_true _) (k _ (s1.trans s2))⟩
theorem sc_plain_kinds : FnScope ["kinds", "lot", "bits"] ["kinds"] (defScope s_plain_kinds) := ⟨rfl, rfl, rfl, by decide +kernel, rfl, by decide +kernel, by decide +kernel⟩
def sp_plain_kinds : Sp := fun vs H Q _ => ∃ (a : Addr) (ms : List Nat) (rows : List (List Nat)), vs = [.ref a] ∧ IsN H a ms ∧ ms.length < 64 ∧ (∀ L : List Nat, L.Pairwise (· < ·) → (∀ x, x ∈ L ↔ x ∈ ms) → TA.sortRows ((L.map TA.spots).map zi) = rows.map zi) ∧ (∀ r ∈ rows, ∀ x ∈ r, x < 8) ∧
  ∀ H' p, Same H H' → H p = none → IsNT H' p (rows.map TA.bitsOf) → Q (.ref p) H'
theorem ok_plain_kinds (T : Txt K mg) : FnOk P w K mg base CX0 3 T.d_plain_kinds.f T.d_plain_kinds.fd ["kinds"] sp_plain_kinds := by
  refine T.d_plain_kinds.F.ok sc_plain_kinds (fun vs H Q E h => ?_) (fun cdv A outer s H vs Q E hr h => ?_)
  · obtain ⟨n, a, xs, rfl, _⟩ := h
    rfl
  · obtain ⟨a, ms, rows, rfl, ha, h64, hs, h8, k⟩ := h
    refine ⟨_, (pss_one (ps_ret (pe_callTy call_tuple_of (by rfl) T.b_tuple bt_tuple (pa_cons (pe_lc (own := [("lot", 1)]) rfl sc_plain_kinds.nd (pi_list (pe_callB (cr_sortedR hr.units) (by rfl) T.b_sorted bt_sorted (pa_cons (pe_lc (own := [("bits", 2)]) rfl sc_plain_kinds.nd (pi_list (pe_callB (cr_sortedSet rfl) (by rfl) T.b_sorted bt_sorted (pa_cons (pe_callTy (cr_setI rfl) (by rfl) T.b_set bt_set (pa_cons (pv 0) pa_nil)) pa_nil))) (blkOk_by (own := [("bits", 2)]) (N := ["kinds", "lot", "bits"]) (sc := defScope s_plain_kinds) (by decide +kernel)) (fun _ _ _ _ _ => (pg_name (i := 2) sc_plain_kinds.nd rfl (Or.inl rfl))) (fun _ _ _ _ _ => pts_nil) (fun _ _ _ _ _ => (pe_call (ok_told_lot T) (hr.mono (by decide)) (by rfl) T.d_told_lot.m T.d_told_lot.F.kp T.d_told_lot.b .nil pass0 (pa_cons (pv 2) pa_nil)))) pa_nil))) (blkOk_by (own := [("lot", 1)]) (N := ["kinds", "lot", "bits"]) (sc := defScope s_plain_kinds) (by decide +kernel)) (fun _ _ _ _ _ => (pg_name (i := 1) sc_plain_kinds.nd rfl (Or.inl rfl))) (fun _ _ _ _ _ => pts_nil) (fun _ _ _ _ _ => (pe_call (ok_bits_of T) (hr.mono (by decide)) (by rfl) T.d_bits_of.m T.d_bits_of.F.kp T.d_bits_of.b .nil pass0 (pa_cons (pv 1) pa_nil)))) pa_nil)))), ?_⟩
    refine ⟨_, rfl, a, zi ms, rfl, .inl (SqL.of ha), by rw [zi_length]; exact h64, fun p c hc hp => ?_⟩
    have s1 : Same H (upd H p (SetO w p (fun j => decide (j ∈ zi ms)) c)) := same_upd hp
    refine ⟨p, _, c, rfl, upd_same, by rw [zi_length] at hc; omega, fun ns q hns hm hl hq => ?_⟩
    obtain ⟨L', rfl, hinc, hmem⟩ := set_of hns hm
    have s2 := s1.trans (same_upd (o := .lst (nl L')) hq)
    refine ⟨q, rfl, ⟨_, SqL.of upd_same⟩, fun D hD => ?_⟩
    have hl8 := subset_length hinc fun x hx => (hmem x).mp hx
    have L : Lc (upd (upd H p (SetO w p (fun j => decide (j ∈ zi ms)) c)) q (.lst (nl L'))) D (nl L').length (fun i => (L'.take i).map TA.spots) (RefTo IsN D) :=
      Lc.refs mN hD rfl (fun i => by rw [List.length_map, List.length_take]; exact Nat.min_le_left _ _) (by rw [nl_length]; exact small64 (by omega))
    refine lc_gen L walk_list (fun H2 s2 => SqL.of (s2 _ _ upd_same)) ?_ ?_
    · rintro i x H2 H3 hi pi ⟨rfl, hx'⟩
      obtain ⟨m, hm, rfl⟩ := nl_of hx'
      refine ⟨rfl, ?_⟩
      refine ⟨_, rfl, m, rfl, fun H4 r s4 hr4 h4 => ?_⟩
      exact L.put hi pi s4 (take_snoc hm) ⟨r, rfl, h4.cut (ne_at hr4 pi.no)⟩
    · intro H2 ys s3 hd hp2
      obtain ⟨ps, rfl, hps⟩ := paired_refs mN hp2
      rw [show L'.take (nl L').length = L' by rw [nl_length, List.take_length]] at hps
      have hsr : TA.sortRows ((L'.map TA.spots).map zi) = rows.map zi := hs L' hinc hmem
      refine ⟨D, _, _, _, rfl, SqL.of hd, rows_of hps, rowF_lst fun _ _ h => h, fun ys2 r hys hr2 => ?_⟩
      rw [show ((L'.map TA.spots).map zi).mergeSort (fun p q => decide (p ≤ q)) = rows.map zi from hsr] at hys
      obtain ⟨ps2, rfl, hps2⟩ := of_rows hys
      have s4 := (s2.trans s3).trans (same_upd (o := .lst (ps2.map V.ref)) hr2)
      refine ⟨r, rfl, ⟨_, SqL.of upd_same⟩, fun D2 hD2 => ?_⟩
      have hlr : rows.length = L'.length := by
        have := congrArg List.length hsr
        rw [(TA.sortRows_perm _).length_eq] at this
        simpa using this.symm
      have L2 : Lc (upd H2 r (.lst (ps2.map V.ref))) D2 (ps2.map V.ref).length (fun i => (rows.take i).map TA.bitsOf) (fun y b _ => y = vn b) :=
        ⟨hD2, rfl, (fun i => by rw [List.length_map, List.length_take]; exact Nat.min_le_left _ _), (by rw [List.length_map, hps2.length, hlr]; exact small64 (by omega)), fun _ _ _ _ h _ => h⟩
      have hps3 := paired_mono (fun a b h => mN.m (same_upd (o := .lst (ps2.map V.ref)) hr2) h) hps2
      refine lc_gen L2 walk_list (fun H3 s3 => SqL.of (s3 _ _ upd_same)) ?_ ?_
      · rintro i x H4 H5 hi pi ⟨rfl, hx'⟩
        obtain ⟨q2, hq2, rfl⟩ := refs_at hx'
        obtain ⟨row, hrow, hqr⟩ := paired_at' hps3 hq2
        refine ⟨rfl, ?_⟩
        refine ⟨_, rfl, q2, row, rfl, .inl (pi.same _ _ hqr), h8 row (List.mem_of_getElem? hrow), ?_⟩
        exact L2.put hi pi (Same.refl _) (take_snoc hrow) rfl
      · intro H4 ys3 s5 hd3 hp3
        rw [paired_vn hp3] at hd3
        rw [show rows.take (ps2.map V.ref).length = rows by rw [List.length_map, hps2.length, List.take_length]] at hd3
        refine ⟨D2, nl (rows.map TA.bitsOf), rfl, .inl ⟨SqL.of hd3, fun l hl => ?_⟩⟩
        have s6 := s4.trans s5
        exact k _ l (s6.trans (same_upd hl)) (s6.free hl) upd_same
end
end Tw
namespace Tw
open PySem PySem.Spec PyProof.Rows L2 TR
open TA (Plc zi)
section
variable {P : Program} {w : World} {K : PySem.W.Frag} {mg : Str → Option Value} {base : Heap}
/-- all but x stays -/
def Keep (x : Addr) (H H' : Hp) : Prop := ∀ c o, c ≠ x → H c = some o → H' c = some o
theorem Keep.same {x : Addr} {H H' H2 : Hp} (k : Keep x H H') (s : Same H' H2) : Keep x H H2 := fun c o n e => s c o (k c o n e)
theorem Keep.upd {x : Addr} {H H' : Hp} {o : HO} (k : Keep x H H') : Keep x H (upd H' x o) := fun c u n e => by
  rw [upd_ne n]; exact k c u n e
theorem kinds_keep {x a : Addr} {H H' : Hp} {C dx : Addr} {fs : List (Str × V)} {ps : List Addr} {kin : List (List Nat)} (hx : H x = some (.ins C dx fs)) (k : Keep x H H') (h : H a = some (.lst (ps.map V.ref)) ∧ Paired (IsNT H) ps kin) : H' a = some (.lst (ps.map V.ref)) ∧ Paired (IsNT H') ps kin :=
  ⟨k _ _ (fun e => by rw [e, hx] at h; exact nomatch h.1) h.1, paired_mono (fun p b h => k _ _ (fun e => by have h : H p = some (.tup (nl b)) := h; rw [e, hx] at h; cases h) h) h.2⟩
theorem sc_init : FnScope ["self", "shelves", "deliveries", "sales", "kind"] ["self", "shelves", "deliveries", "sales"] (defScope s_init) := ⟨rfl, rfl, rfl, by decide +kernel, rfl, by decide +kernel, by decide +kernel⟩
def sp_init (C : Addr) : Sp := fun vs H Q _ => ∃ (x dx a e : Addr) (n : Nat) (kin rows : List (List Nat)), vs = [.ref x, vn n, .ref a, .ref e] ∧ H x = some (.ins C dx []) ∧ 2 ≤ n ∧ n ≤ 8 ∧ IsOf IsNT H a kin ∧ kin.length ≤ 8 ∧ (∀ k ∈ kin, KindIn n k) ∧ H e = some (.lst []) ∧
  (∀ L : List Nat, L.Pairwise (· < ·) → (∀ x, x ∈ L ↔ x ∈ kin.map TA.bitsOf) → TA.sortRows ((L.map TA.spots).map zi) = rows.map zi) ∧ (∀ r ∈ rows, ∀ x ∈ r, x < 8) ∧
  ∀ H' d e k, H' x = some (.ins C dx [("own_shelves", vn n), ("own_deliveries", .ref d), ("own_sales", .ref e), ("own_kept", .ref k)]) → IsNT H' d (rows.map TA.bitsOf) → Keep x H H' → Q .non H'
theorem ok_init (T : Txt K mg) : FnOk P w K mg base CX0 6 T.st.f T.st.fd ["self", "shelves", "deliveries", "sales"] (sp_init T.st.C) := by
  refine T.st.F.ok sc_init (fun vs H Q E h => ?_) (fun cdv A outer s H vs Q E hr h => ?_)
  · obtain ⟨x, dx, a, e, n, kin, rows, rfl, _⟩ := h
    rfl
  · obtain ⟨x, dx, a, e, n, kin, rows, rfl, hx, hn2, hn8, ⟨kp, hk1⟩, hkl, kk, he, ks, k8, k⟩ := h
    refine ⟨_, (pss_cons (ps_expr (pe_call (ok_want_shelves T) (hr.mono (by decide)) (by rfl) T.d_want_shelves.m T.d_want_shelves.F.kp T.d_want_shelves.b .nil pass0 (pa_cons (pv 1) pa_nil)))
    (pss_cons (ps_if (pt_not (pt_val (pe_call (ok_are_kinds T) (hr.mono (by decide)) (by rfl) T.d_are_kinds.m T.d_are_kinds.F.kp T.d_are_kinds.b .nil pass0 (pa_cons (pv 1) (pa_cons (pv 2) pa_nil))))) (pss_one ps_never) pss_nil)
    (pss_cons (ps_if (pt_not (pt_val (pe_call (ok_are_kinds T) (hr.mono (by decide)) (by rfl) T.d_are_kinds.m T.d_are_kinds.F.kp T.d_are_kinds.b .nil pass0 (pa_cons (pv 1) (pa_cons (pv 3) pa_nil))))) (pss_one ps_never) pss_nil)
    (pss_cons (ps_fld (pv 0) (pv 1) rfl)
    (pss_cons (ps_fld (pv 0) (pe_call (ok_plain_kinds T) (hr.mono (by decide)) (by rfl) T.d_plain_kinds.m T.d_plain_kinds.F.kp T.d_plain_kinds.b .nil pass0 (pa_cons (pe_lc (own := [("kind", 4)]) rfl sc_init.nd (pi_list (pv 2)) (blkOk_by (own := [("kind", 4)]) (N := ["self", "shelves", "deliveries", "sales", "kind"]) (sc := defScope s_init) (by decide +kernel)) (fun _ _ _ _ _ => (pg_name (i := 4) sc_init.nd rfl (Or.inl rfl))) (fun _ _ _ _ _ => pts_nil) (fun _ _ _ _ _ => (pe_call (ok_bits_of T) (hr.mono (by decide)) (by rfl) T.d_bits_of.m T.d_bits_of.F.kp T.d_bits_of.b .nil pass0 (pa_cons (pv 4) pa_nil)))) pa_nil)) rfl)
    (pss_cons (ps_fld (pv 0) (pe_call (ok_plain_kinds T) (hr.mono (by decide)) (by rfl) T.d_plain_kinds.m T.d_plain_kinds.F.kp T.d_plain_kinds.b .nil pass0 (pa_cons (pe_lc (own := [("kind", 4)]) rfl sc_init.nd (pi_list (pv 3)) (blkOk_by (own := [("kind", 4)]) (N := ["self", "shelves", "deliveries", "sales", "kind"]) (sc := defScope s_init) (by decide +kernel)) (fun _ _ _ _ _ => (pg_name (i := 4) sc_init.nd rfl (Or.inl rfl))) (fun _ _ _ _ _ => pts_nil) (fun _ _ _ _ _ => (pe_call (ok_bits_of T) (hr.mono (by decide)) (by rfl) T.d_bits_of.m T.d_bits_of.F.kp T.d_bits_of.b .nil pass0 (pa_cons (pv 4) pa_nil)))) pa_nil)) rfl)
    (pss_one (ps_fld (pv 0) pe_dnewK rfl)))))))), ?_⟩
    have ek1 : H e = some (.lst (([] : List Addr).map V.ref)) ∧ Paired (IsNT H) ([] : List Addr) ([] : List (List Nat)) := ⟨he, .nil⟩
    refine ⟨_, rfl, n, rfl, hn2, hn8, ?_⟩
    refine ⟨_, rfl, _, rfl, n, a, kin, rfl, ⟨kp, hk1⟩, hkl, kk, fun H1 s1 => ⟨true, rfl, iteF ?_⟩⟩
    refine ⟨_, rfl, _, rfl, n, e, [], rfl, mOf mNT |>.m s1 ⟨[], ek1⟩, (by decide), (fun _ h => nomatch h), fun H2 s2 => ⟨true, rfl, iteF ?_⟩⟩
    have s02 := s1.trans s2
    have hx2 := s02 _ _ hx
    refine ⟨_, rfl, _, rfl, x, T.st.C, dx, [], rfl, hx2, T.st.cl, T.st.n1, (by decide), ?_⟩
    have k3 : Keep x H (upd H2 x (.ins T.st.C dx [("own_shelves", vn n)])) := Keep.upd fun c o _ e => s02 c o e
    have hx3 : upd H2 x (.ins T.st.C dx [("own_shelves", vn n)]) x = some (.ins T.st.C dx [("own_shelves", vn n)]) := upd_same
    show tSeq _ _ _ _ (upd H2 x (.ins T.st.C dx [("own_shelves", vn n)]))
    generalize upd H2 x (.ins T.st.C dx [("own_shelves", vn n)]) = H3 at k3 hx3 ⊢
    have k1 := kinds_keep hx k3 hk1

    refine ⟨_, rfl, a, rfl, ⟨_, SqL.of k1.1⟩, fun D hD => ?_⟩
    have L : Lc H3 D (kp.map V.ref).length (fun i => (kin.take i).map TA.bitsOf) (fun y b _ => y = vn b) :=
      ⟨hD, rfl, (fun i => by rw [List.length_map, List.length_take]; exact Nat.min_le_left _ _), (by rw [List.length_map, k1.2.length]; exact small64 (by have := hkl; omega)), fun _ _ _ _ h _ => h⟩
    refine lc_gen L walk_list (fun H2 s2 => SqL.of (s2 _ _ k1.1)) (fun i x H4 H5 hi pi hx => ?_) (fun H4 ys s4 hd hp => ?_)
    · obtain ⟨rfl, hx'⟩ := hx
      obtain ⟨q2, hq2, rfl⟩ := refs_at hx'
      obtain ⟨row, hrow, hqr⟩ := paired_at' k1.2 hq2
      refine ⟨rfl, ?_⟩
      refine ⟨_, rfl, q2, row, rfl, .inr (pi.same _ _ hqr), (fun x hx => Nat.lt_of_lt_of_le ((kk row (List.mem_of_getElem? hrow)).lt x hx) hn8), ?_⟩
      exact L.put hi pi (Same.refl _) (take_snoc hrow) rfl
    rw [paired_vn hp] at hd
    rw [show kin.take (kp.map V.ref).length = kin by rw [List.length_map, k1.2.length, List.take_length]] at hd
    refine ⟨D, kin.map TA.bitsOf, rows, rfl, hd, (by rw [List.length_map]; have := hkl; omega), ks, k8, fun H5 d s5 hd0 hd5 => ?_⟩
    have s35 := s4.trans s5
    have hx5 := s35 _ _ hx3
    refine ⟨_, rfl, x, T.st.C, dx, _, rfl, hx5, T.st.cl, T.st.n2, (by show 1 < 1000; decide), ?_⟩
    have k6 : Keep x H (upd H5 x (.ins T.st.C dx [("own_shelves", vn n), ("own_deliveries", .ref d)])) := Keep.upd (k3.same s35)
    have hx6 : upd H5 x (.ins T.st.C dx [("own_shelves", vn n), ("own_deliveries", .ref d)]) x = some (.ins T.st.C dx [("own_shelves", vn n), ("own_deliveries", .ref d)]) := upd_same
    have hd6 : IsNT (upd H5 x (.ins T.st.C dx [("own_shelves", vn n), ("own_deliveries", .ref d)])) d (rows.map TA.bitsOf) := by
      unfold IsNT
      rw [upd_ne (fun z => by rw [z] at hd5; unfold IsNT at hd5; rw [hx5] at hd5; cases hd5)]; exact hd5
    show tSeq _ _ _ _ (upd H5 x (.ins T.st.C dx [("own_shelves", vn n), ("own_deliveries", .ref d)]))
    generalize upd H5 x (.ins T.st.C dx [("own_shelves", vn n), ("own_deliveries", .ref d)]) = H6 at k6 hx6 hd6 ⊢
    clear hd hp L hD s4 s5 s35 hd0 hd5 hx5
    have e1 := kinds_keep hx k6 ek1
    have es : ∀ L : List Nat, L.Pairwise (· < ·) → (∀ x, x ∈ L ↔ x ∈ ([] : List (List Nat)).map TA.bitsOf) → TA.sortRows ((L.map TA.spots).map zi) = ([] : List (List Nat)).map zi := fun L _ hm => by
      cases L with
      | nil => exact List.mergeSort_nil
      | cons x r => exact nomatch (hm x).mp List.mem_cons_self
    have e8 : ∀ r ∈ ([] : List (List Nat)), ∀ x ∈ r, x < 8 := fun _ h => nomatch h
    have ek : ∀ k ∈ ([] : List (List Nat)), KindIn n k := fun _ h => nomatch h

    refine ⟨_, rfl, e, rfl, ⟨_, SqL.of e1.1⟩, fun D hD => ?_⟩
    have L : Lc H6 D (([] : List Addr).map V.ref).length (fun i => (([] : List (List Nat)).take i).map TA.bitsOf) (fun y b _ => y = vn b) :=
      ⟨hD, rfl, (fun i => by rw [List.length_map, List.length_take]; exact Nat.min_le_left _ _), (by rw [List.length_map, e1.2.length]; exact small64 (by decide)), fun _ _ _ _ h _ => h⟩
    refine lc_gen L walk_list (fun H2 s2 => SqL.of (s2 _ _ e1.1)) (fun i x H4 H5 hi pi hx => ?_) (fun H7 ys s7 hd hp => ?_)
    · obtain ⟨rfl, hx'⟩ := hx
      obtain ⟨q2, hq2, rfl⟩ := refs_at hx'
      obtain ⟨row, hrow, hqr⟩ := paired_at' e1.2 hq2
      refine ⟨rfl, ?_⟩
      refine ⟨_, rfl, q2, row, rfl, .inr (pi.same _ _ hqr), (fun x hx => Nat.lt_of_lt_of_le ((ek row (List.mem_of_getElem? hrow)).lt x hx) hn8), ?_⟩
      exact L.put hi pi (Same.refl _) (take_snoc hrow) rfl
    rw [paired_vn hp] at hd
    rw [show ([] : List (List Nat)).take (([] : List Addr).map V.ref).length = ([] : List (List Nat)) by rw [List.length_map, e1.2.length, List.take_length]] at hd
    refine ⟨D, ([] : List (List Nat)).map TA.bitsOf, [], rfl, hd, (by decide), es, e8, fun H8 d2 s8 hd0 hd8 => ?_⟩
    have s68 := s7.trans s8
    have hx8 := s68 _ _ hx6
    refine ⟨_, rfl, x, T.st.C, dx, _, rfl, hx8, T.st.cl, T.st.n3, (by show 2 < 1000; decide), ?_⟩
    intro q hq
    have hq2 : ∀ {o : HO}, upd H8 x o x = some o := upd_same
    have ne : x ≠ q := fun z => by rw [← z, hq2] at hq; cases hq
    refine ⟨_, rfl, x, T.st.C, dx, [("own_shelves", vn n), ("own_deliveries", .ref d), ("own_sales", .ref d2)], rfl, ?hx9, T.st.cl, T.st.n4, ?hl, ?_⟩
    case hx9 => rw [upd_ne ne]; exact upd_same
    case hl => show 3 < 1000; decide
    refine k _ d d2 q upd_same ?_ (Keep.upd (Keep.same (Keep.upd (k6.same s68)) (same_upd hq)))
    have hd8' := s68 _ _ hd6
    have nx : d ≠ x := fun z => by rw [z, hx8] at hd8'; cases hd8'
    have nq : d ≠ q := fun z => by rw [← z, upd_ne nx, hd8'] at hq; cases hq
    unfold IsNT
    rw [upd_ne nx, upd_ne nq, upd_ne nx]
    exact hd8'
theorem kit_self {C : Addr} : PySem.W.kitOne K (.ref C) (.ref C) = some true := if_pos (by simp)
theorem sc_want_store : FnScope ["value"] ["value"] (defScope s_want_store) := ⟨rfl, rfl, rfl, by decide +kernel, rfl, by decide +kernel, by decide +kernel⟩
def sp_want_store (C : Addr) : Sp := fun vs H Q _ => ∃ (x dx : Addr) (fs : List (Str × V)), vs = [.ref x] ∧ H x = some (.ins C dx fs) ∧ Q (.ref x) H
theorem ok_want_store (T : Txt K mg) : FnOk P w K mg base CX0 1 T.d_want_store.f T.d_want_store.fd ["value"] (sp_want_store T.st.C) := by
  refine T.d_want_store.F.ok sc_want_store (fun vs H Q E h => ?_) (fun cdv A outer s H vs Q E hr h => ?_)
  · obtain ⟨x, dx, fs, rfl, _⟩ := h
    rfl
  · obtain ⟨x, dx, fs, rfl, hx, k⟩ := h
    refine ⟨_, (pss_cons (ps_if (pt_not (pt_val (pe_callB call_isi (by rfl) T.b_isinstance bt_isinstance (pa_cons (pv 0) (pa_cons (pe_glob (v := .ref T.st.C) (by rfl) T.st.mgC rfl) pa_nil))))) (pss_one ps_never) pss_nil)
    (pss_one (ps_ret (pv 0)))), ?_⟩
    refine ⟨_, rfl, _, _, _, _, true, rfl, .own _, .base (.ins hx T.st.cl T.st.i1 T.st.i2 T.st.i3 T.st.i4), kit_self, true, rfl, iteF ?_⟩
    exact ⟨_, rfl, k⟩
end
end Tw
namespace Tw
open PySem PySem.Spec PyProof.Rows L2 TR
open TA (Plc zi)
section
variable {P : Program} {w : World} {K : PySem.W.Frag} {mg : Str → Option Value} {base : Heap}
theorem nbl {b : Bool} (e : b = true) : V.bl (!b) = V.bl false := by subst e; rfl
theorem vn_inj {a b : Nat} (h : a = b) : vn a = vn b := by rw [h]
theorem sc_is_board_of : FnScope ["store", "value", "number"] ["store", "value"] (defScope s_is_board_of) := ⟨rfl, rfl, rfl, by decide +kernel, rfl, by decide +kernel, by decide +kernel⟩
def sp_is_board_of (C : Addr) : Sp := fun vs H Q _ => ∃ (st v : Addr) (n : Nat) (kinds : List (List Nat)) (xs : List Nat), vs = [.ref st, .ref v] ∧ IsStore C n H st kinds ∧ IsSeq H v (nl xs) ∧ xs.length = n ∧ n ≤ 8 ∧ (∀ x ∈ xs, x ≤ 60) ∧ ∀ H', Same H H' → Q (.bl true) H'
theorem ok_is_board_of (T : Txt K mg) : FnOk P w K mg base CX0 3 T.d_is_board_of.f T.d_is_board_of.fd ["store", "value"] (sp_is_board_of T.st.C) := by
  refine T.d_is_board_of.F.ok sc_is_board_of (fun vs H Q E h => ?_) (fun cdv A outer s H vs Q E hr h => ?_)
  · obtain ⟨st, v, n, kinds, xs, rfl, _⟩ := h
    rfl
  · obtain ⟨st, v, n, kinds, xs, rfl, ⟨dx, d, e, ke, h1, h2⟩, hv, hl, hn, h60, k⟩ := h
    refine ⟨_, (pss_cons (ps_if (PW.pt (pw_or (pt_not (pt_val (pe_call (ok_is_list T) (hr.mono (by decide)) (by rfl) T.d_is_list.m T.d_is_list.F.kp T.d_is_list.b .nil pass0 (pa_cons (pv 1) pa_nil)))) (pw_or1 (pt_cmpR op_ne (pe_callB call_len_seq (by rfl) T.b_len bt_len (pa_cons (pv 1) pa_nil)) (pe_fld (pv 0) rfl) (nomark _))))) (pss_one (ps_ret pe_bl)) pss_nil)
    (pss_one (ps_ret (pe_callB (cr_all rfl) (by rfl) T.b_all bt_all (pa_cons (pe_lc (own := [("number", 2)]) rfl sc_is_board_of.nd (pi_seq (pv 1)) (blkOk_by (own := [("number", 2)]) (N := ["store", "value", "number"]) (sc := defScope s_is_board_of) (by decide +kernel)) (fun _ _ _ _ _ => (pg_name (i := 2) sc_is_board_of.nd rfl (Or.inl rfl))) (fun _ _ _ _ _ => pts_nil) (fun _ _ _ _ _ => (pe_and (pe_call (ok_is_count T) (hr.mono (by decide)) (by rfl) T.d_is_count.m T.d_is_count.F.kp T.d_is_count.b .nil pass0 (pa_cons (pv 2) pa_nil)) (pe_one (pe_cmpR op_le (pv 2) (pe_glob (v := .int 60) (by rfl) T.c_MOST_PIECES ⟨_, rfl⟩) (nomark _)))))) pa_nil))))), ?_⟩
    refine ⟨_, rfl, v, _, rfl, hv, fun H1 s1 => ⟨true, rfl, ?_⟩⟩
    refine iteF ⟨_, rfl, v, nl xs, rfl, (mSeq.m s1 hv).or, _, rfl, st, _, dx, _, _, rfl, s1 _ _ h1, T.st.cl, T.st.n1, rfl, rfl, false, nbl (decide_eq_true (v_int (by rw [nl_length, hl]))), iteF ?_⟩
    refine ⟨_, rfl, v, nl xs, rfl, ?_⟩
    rcases mSeq.m s1 hv with h | h
    · refine .inl ?_
      refine ⟨SqL.of h, fun D hD => ?_⟩
      have L : Lc H1 D (nl xs).length (fun i => List.replicate i true) (fun y b _ => y = V.bl b) := ⟨hD, rfl, fun i => by simp, by rw [nl_length, hl]; exact Nat.le_trans hn (by decide), fun _ _ _ _ h _ => h⟩
      refine lc_gen L walk_list (fun H2 s2 => SqL.of (s2 _ _ h)) ?_ ?_
      · rintro i x H2 H3 hi p ⟨rfl, hx'⟩
        obtain ⟨m, hm, rfl⟩ := nl_of hx'
        have hm60 := h60 m (List.mem_of_getElem? hm)
        refine ⟨rfl, _, rfl, m, rfl, true, rfl, ?_⟩
        exact ⟨_, rfl, _, _, rfl, rfl, L.put hi p (Same.refl _) (List.replicate_succ' ..) (b_bl (decide_eq_true (by omega)))⟩
      · intro H2 ys s2 hd hp
        rw [paired_bl hp] at hd
        exact ⟨D, _, rfl, SqL.of hd, q_bl (Q := Q) (all_true _) (k _ (s1.trans s2))⟩
    · refine .inr ?_
      refine ⟨SqT.of h, fun D hD => ?_⟩
      have L : Lc H1 D (nl xs).length (fun i => List.replicate i true) (fun y b _ => y = V.bl b) := ⟨hD, rfl, fun i => by simp, by rw [nl_length, hl]; exact Nat.le_trans hn (by decide), fun _ _ _ _ h _ => h⟩
      refine lc_gen L walk_tup (fun H2 s2 => SqT.of (s2 _ _ h)) ?_ ?_
      · rintro i x H2 H3 hi p ⟨rfl, hx'⟩
        obtain ⟨m, hm, rfl⟩ := nl_of hx'
        have hm60 := h60 m (List.mem_of_getElem? hm)
        refine ⟨rfl, _, rfl, m, rfl, true, rfl, ?_⟩
        exact ⟨_, rfl, _, _, rfl, rfl, L.put hi p (Same.refl _) (List.replicate_succ' ..) (b_bl (decide_eq_true (by omega)))⟩
      · intro H2 ys s2 hd hp
        rw [paired_bl hp] at hd
        exact ⟨D, _, rfl, SqL.of hd, q_bl (Q := Q) (all_true _) (k _ (s1.trans s2))⟩
theorem sc_want_board : FnScope ["store", "value"] ["store", "value"] (defScope s_want_board) := ⟨rfl, rfl, rfl, by decide +kernel, rfl, by decide +kernel, by decide +kernel⟩
def sp_want_board (C : Addr) : Sp := fun vs H Q _ => ∃ (st v : Addr) (n : Nat) (kinds : List (List Nat)) (xs : List Nat), vs = [.ref st, .ref v] ∧ IsStore C n H st kinds ∧ IsSeq H v (nl xs) ∧ xs.length = n ∧ n ≤ 8 ∧ (∀ x ∈ xs, x ≤ 60) ∧ ∀ H' p, Same H H' → IsNT H' p xs → Q (.ref p) H'
theorem ok_want_board (T : Txt K mg) : FnOk P w K mg base CX0 4 T.d_want_board.f T.d_want_board.fd ["store", "value"] (sp_want_board T.st.C) := by
  refine T.d_want_board.F.ok sc_want_board (fun vs H Q E h => ?_) (fun cdv A outer s H vs Q E hr h => ?_)
  · obtain ⟨st, v, n, kinds, xs, rfl, _⟩ := h
    rfl
  · obtain ⟨st, v, n, kinds, xs, rfl, hst, hv, hl, hn, h60, k⟩ := h
    refine ⟨_, (pss_cons (ps_if (pt_not (pt_val (pe_call (ok_is_board_of T) (hr.mono (by decide)) (by rfl) T.d_is_board_of.m T.d_is_board_of.F.kp T.d_is_board_of.b .nil pass0 (pa_cons (pv 0) (pa_cons (pv 1) pa_nil))))) (pss_one ps_never) pss_nil)
    (pss_one (ps_ret (pe_callTy call_tuple_of (by rfl) T.b_tuple bt_tuple (pa_cons (pv 1) pa_nil))))), ?_⟩
    refine ⟨_, rfl, _, rfl, st, v, n, kinds, xs, rfl, hst, hv, hl, hn, h60, fun H1 s1 => ⟨true, rfl, iteF ?_⟩⟩
    refine ⟨_, rfl, v, nl xs, rfl, ?_⟩
    rcases mSeq.m s1 hv with h | h
    · exact .inl ⟨SqL.of h, fun l hl => k _ l (s1.trans (same_upd hl)) upd_same⟩
    · exact .inr ⟨SqT.of h, k _ v s1 h⟩
theorem sc_want_counts : FnScope ["store", "value", "number"] ["store", "value"] (defScope s_want_counts) := ⟨rfl, rfl, rfl, by decide +kernel, rfl, by decide +kernel, by decide +kernel⟩
def sp_want_counts (C : Addr) : Sp := fun vs H Q _ => ∃ (st v : Addr) (n : Nat) (kinds : List (List Nat)) (xs : List Nat), vs = [.ref st, .ref v] ∧ IsStore C n H st kinds ∧ IsN H v xs ∧ xs.length = kinds.length ∧ kinds.length ≤ 8 ∧ (∀ x ∈ xs, x ≤ 20) ∧ ∀ H' p, Same H H' → IsNT H' p xs → Q (.ref p) H'
theorem ok_want_counts (T : Txt K mg) : FnOk P w K mg base CX0 3 T.d_want_counts.f T.d_want_counts.fd ["store", "value"] (sp_want_counts T.st.C) := by
  refine T.d_want_counts.F.ok sc_want_counts (fun vs H Q E h => ?_) (fun cdv A outer s H vs Q E hr h => ?_)
  · obtain ⟨st, v, n, kinds, xs, rfl, _⟩ := h
    rfl
  · obtain ⟨st, v, n, kinds, xs, rfl, ⟨dx, d, e, ke, h1, h2⟩, hv, hl, hn, h20, k⟩ := h
    refine ⟨_, (pss_cons (ps_if (PW.pt (pw_or (pt_not (pt_val (pe_call (ok_is_list T) (hr.mono (by decide)) (by rfl) T.d_is_list.m T.d_is_list.F.kp T.d_is_list.b .nil pass0 (pa_cons (pv 1) pa_nil)))) (pw_or1 (pt_cmpR op_ne (pe_callB call_len_seq (by rfl) T.b_len bt_len (pa_cons (pv 1) pa_nil)) (pe_callB call_len_seq (by rfl) T.b_len bt_len (pa_cons (pe_fld (pv 0) rfl) pa_nil)) (nomark _))))) (pss_one ps_never) pss_nil)
    (pss_cons (ps_if (pt_not (pt_val (pe_callB (cr_all rfl) (by rfl) T.b_all bt_all (pa_cons (pe_lc (own := [("number", 2)]) rfl sc_want_counts.nd (pi_list (pv 1)) (blkOk_by (own := [("number", 2)]) (N := ["store", "value", "number"]) (sc := defScope s_want_counts) (by decide +kernel)) (fun _ _ _ _ _ => (pg_name (i := 2) sc_want_counts.nd rfl (Or.inl rfl))) (fun _ _ _ _ _ => pts_nil) (fun _ _ _ _ _ => (pe_and (pe_call (ok_is_count T) (hr.mono (by decide)) (by rfl) T.d_is_count.m T.d_is_count.F.kp T.d_is_count.b .nil pass0 (pa_cons (pv 2) pa_nil)) (pe_one (pe_cmpR op_le (pv 2) (pe_glob (v := .int 20) (by rfl) T.c_MOST_OF_KIND ⟨_, rfl⟩) (nomark _)))))) pa_nil)))) (pss_one ps_never) pss_nil)
    (pss_one (ps_ret (pe_callTy call_tuple_of (by rfl) T.b_tuple bt_tuple (pa_cons (pv 1) pa_nil)))))), ?_⟩
    refine ⟨_, rfl, v, _, rfl, .inl hv, fun H1 s1 => ⟨true, rfl, ?_⟩⟩
    refine iteF ⟨_, rfl, v, nl xs, rfl, .inl (SqL.of (s1 _ _ hv)), _, rfl, st, _, dx, _, _, rfl, s1 _ _ h1, T.st.cl, T.st.n2, rfl, d, nl (kinds.map TA.bitsOf), rfl, .inr (SqT.of (s1 _ _ h2)), rfl, false, nbl (decide_eq_true (v_int (by rw [nl_length, nl_length, List.length_map, hl]))), iteF ?_⟩
    refine ⟨_, rfl, v, rfl, ⟨_, SqL.of (s1 _ _ hv)⟩, fun D hD => ?_⟩
    have L : Lc H1 D (nl xs).length (fun i => List.replicate i true) (fun y b _ => y = V.bl b) := ⟨hD, rfl, fun i => by simp, by rw [nl_length, hl]; exact Nat.le_trans hn (by decide), fun _ _ _ _ h _ => h⟩
    refine lc_gen L walk_list (fun H2 s2 => SqL.of (s2 _ _ (s1 _ _ hv))) ?_ ?_
    · rintro i x H2 H3 hi p ⟨rfl, hx'⟩
      obtain ⟨m, hm, rfl⟩ := nl_of hx'
      have hm20 := h20 m (List.mem_of_getElem? hm)
      refine ⟨rfl, _, rfl, m, rfl, true, rfl, ?_⟩
      exact ⟨_, rfl, _, _, rfl, rfl, L.put hi p (Same.refl _) (List.replicate_succ' ..) (b_bl (decide_eq_true (by omega)))⟩
    · intro H2 ys s2 hd hp
      rw [paired_bl hp] at hd
      refine ⟨D, _, rfl, SqL.of hd, true, b_bl (all_true _), iteF ?_⟩
      have s12 := s1.trans s2
      exact ⟨_, rfl, v, nl xs, rfl, .inl ⟨SqL.of (s12 _ _ hv), fun l hl => k _ l (s12.trans (same_upd hl)) upd_same⟩⟩
end
end Tw
namespace Tw
open PySem PySem.Spec PyProof.Rows L2 TR
open TA (Plc zi)
section
variable {P : Program} {w : World} {K : PySem.W.Frag} {mg : Str → Option Value} {base : Heap}
theorem sc_want_above : FnScope ["store", "board", "value", "near", "far"] ["store", "board", "value"] (defScope s_want_above) := ⟨rfl, rfl, rfl, by decide +kernel, rfl, by decide +kernel, by decide +kernel⟩
def sp_want_above (C : Addr) : Sp := fun vs H Q _ => ∃ (st b v : Addr) (n : Nat) (kinds : List (List Nat)) (bs ws : List Nat), vs = [.ref st, .ref b, .ref v] ∧ IsStore C n H st kinds ∧ IsNT H b bs ∧ IsSeq H v (nl ws) ∧ bs.length = n ∧ ws.length = n ∧ n ≤ 8 ∧ (∀ x ∈ ws, x ≤ 60) ∧ (∀ s, TA.g bs s ≤ TA.g ws s) ∧
  ∀ H' p, Same H H' → IsNT H' p ws → Q (.ref p) H'
theorem ok_want_above (T : Txt K mg) : FnOk P w K mg base CX0 4 T.d_want_above.f T.d_want_above.fd ["store", "board", "value"] (sp_want_above T.st.C) := by
  refine T.d_want_above.F.ok sc_want_above (fun vs H Q E h => ?_) (fun cdv A outer s H vs Q E hr h => ?_)
  · obtain ⟨st, b, v, n, kinds, bs, ws, rfl, _⟩ := h
    rfl
  · obtain ⟨st, b, v, n, kinds, bs, ws, rfl, hst, hb, hv, hbl, hwl, hn, h60, hle, k⟩ := h
    refine ⟨_, (pss_cons (ps_if (PW.pt (pw_or (pt_not (pt_val (pe_call (ok_is_board_of T) (hr.mono (by decide)) (by rfl) T.d_is_board_of.m T.d_is_board_of.F.kp T.d_is_board_of.b .nil pass0 (pa_cons (pv 0) (pa_cons (pv 2) pa_nil))))) (pw_or1 (pt_not (pt_val (pe_callB (cr_all rfl) (by rfl) T.b_all bt_all (pa_cons (pe_lc (own := [("near", 3), ("far", 4)]) rfl sc_want_above.nd (pi_zipK (by rfl) T.b_zip (pa_cons (pv 1) (pa_cons (pv 2) pa_nil))) (blkOk_by (own := [("near", 3), ("far", 4)]) (N := ["store", "board", "value", "near", "far"]) (sc := defScope s_want_above) (by decide +kernel)) (fun _ _ _ _ _ => (pg_tupK (K := K) (n := 2) rfl rfl (pgs_cons (pg_name (i := 3) sc_want_above.nd rfl (Or.inl rfl) (Or.inr rfl)) (pgs_cons (pg_name (i := 4) sc_want_above.nd rfl (Or.inl rfl) (Or.inr rfl)) pgs_nil)))) (fun _ _ _ _ _ => pts_nil) (fun _ _ _ _ _ => (pe_cmpR op_le (pv 3) (pv 4) (nomark _)))) pa_nil))))))) (pss_one ps_never) pss_nil)
    (pss_one (ps_ret (pe_callTy call_tuple_of (by rfl) T.b_tuple bt_tuple (pa_cons (pv 2) pa_nil))))), ?_⟩
    refine ⟨_, rfl, _, rfl, st, v, n, kinds, ws, rfl, hst, hv, hwl, hn, h60, fun H1 s1 => ⟨true, rfl, iteF ?_⟩⟩
    refine ⟨_, rfl, _, rfl, b, v, nl bs, nl ws, rfl, ?_⟩
    rcases mSeq.m s1 hv with h | h
    · refine ⟨SqT.of (s1 _ _ hb), .inl ⟨SqL.of h, fun D hD => ?_⟩⟩
      have L : Lc H1 D n (fun i => List.replicate i true) (fun y b _ => y = V.bl b) := ⟨hD, rfl, fun i => by simp, Nat.le_trans hn (by decide), fun _ _ _ _ h _ => h⟩
      refine lc_gen L (walk_zipK (k := kdT K) (l := kdL K) (xs := nl bs) (ys := nl ws) (by rw [nl_length, hbl]) (by rw [nl_length, hwl])) (fun H2 s2 => ⟨SqT.of (s2 _ _ (s1 _ _ hb)), SqL.of (s2 _ _ h)⟩) ?_ ?_
      · rintro i x H2 H3 hi p ⟨t, u, v, rfl, ht, rfl, hu1, hv1⟩
        obtain ⟨m1, hm1, rfl⟩ := nl_of hu1
        obtain ⟨m2, hm2, rfl⟩ := nl_of hv1
        have hm := hle i
        rw [show TA.g bs i = m1 from TA.getD_some 0 hm1, show TA.g ws i = m2 from TA.getD_some 0 hm2] at hm
        refine ⟨t, _, rfl, SqT.of upd_same, rfl, _, _, rfl, _, _, rfl, rfl, rfl, ?_⟩
        exact ⟨_, rfl, _, rfl, _, _, rfl, rfl, L.put hi p (same_upd ht) (List.replicate_succ' ..) (b_bl (decide_eq_true (by omega)))⟩
      · intro H2 ys s2 hd hp
        rw [paired_bl hp] at hd
        refine ⟨D, _, rfl, SqL.of hd, true, b_bl (all_true _), iteF ?_⟩
        have s12 := s1.trans s2
        exact ⟨_, rfl, v, nl ws, rfl, .inl ⟨SqL.of (s2 _ _ h), fun l hl => k _ l (s12.trans (same_upd hl)) upd_same⟩⟩
    · refine ⟨SqT.of (s1 _ _ hb), .inr ⟨SqT.of h, fun D hD => ?_⟩⟩
      have L : Lc H1 D n (fun i => List.replicate i true) (fun y b _ => y = V.bl b) := ⟨hD, rfl, fun i => by simp, Nat.le_trans hn (by decide), fun _ _ _ _ h _ => h⟩
      refine lc_gen L (walk_zipK (k := kdT K) (l := kdT K) (xs := nl bs) (ys := nl ws) (by rw [nl_length, hbl]) (by rw [nl_length, hwl])) (fun H2 s2 => ⟨SqT.of (s2 _ _ (s1 _ _ hb)), SqT.of (s2 _ _ h)⟩) ?_ ?_
      · rintro i x H2 H3 hi p ⟨t, u, v, rfl, ht, rfl, hu1, hv1⟩
        obtain ⟨m1, hm1, rfl⟩ := nl_of hu1
        obtain ⟨m2, hm2, rfl⟩ := nl_of hv1
        have hm := hle i
        rw [show TA.g bs i = m1 from TA.getD_some 0 hm1, show TA.g ws i = m2 from TA.getD_some 0 hm2] at hm
        refine ⟨t, _, rfl, SqT.of upd_same, rfl, _, _, rfl, _, _, rfl, rfl, rfl, ?_⟩
        exact ⟨_, rfl, _, rfl, _, _, rfl, rfl, L.put hi p (same_upd ht) (List.replicate_succ' ..) (b_bl (decide_eq_true (by omega)))⟩
      · intro H2 ys s2 hd hp
        rw [paired_bl hp] at hd
        refine ⟨D, _, rfl, SqL.of hd, true, b_bl (all_true _), iteF ?_⟩
        have s12 := s1.trans s2
        exact ⟨_, rfl, v, nl ws, rfl, .inr ⟨SqT.of (s2 _ _ h), k _ v s12 (s2 _ _ h)⟩⟩
theorem sc_want_end : FnScope ["store", "board", "counts", "value", "told"] ["store", "board", "counts", "value"] (defScope s_want_end) := ⟨rfl, rfl, rfl, by decide +kernel, rfl, by decide +kernel, by decide +kernel⟩
def sp_want_end (C : Addr) : Sp := fun vs H Q _ => ∃ (st b c v : Addr) (n : Nat) (kinds : List (List Nat)) (bs cs ws : List Nat), vs = [.ref st, .ref b, .ref c, .ref v] ∧ IsStore C n H st kinds ∧ IsNT H b bs ∧ IsNT H c cs ∧ IsSeq H v (nl ws) ∧ bs.length = n ∧ ws.length = n ∧ n ≤ 8 ∧ (∀ x ∈ ws, x ≤ 60) ∧ (∀ s, TA.g bs s ≤ TA.g ws s) ∧ ws.sum = bs.sum + cs.sum ∧
  ∀ H' p, Same H H' → IsNT H' p ws → Q (.ref p) H'
theorem ok_want_end (T : Txt K mg) : FnOk P w K mg base CX0 5 T.d_want_end.f T.d_want_end.fd ["store", "board", "counts", "value"] (sp_want_end T.st.C) := by
  refine T.d_want_end.F.ok sc_want_end (fun vs H Q E h => ?_) (fun cdv A outer s H vs Q E hr h => ?_)
  · obtain ⟨st, b, c, v, n, kinds, bs, cs, ws, rfl, _⟩ := h
    rfl
  · obtain ⟨st, b, c, v, n, kinds, bs, cs, ws, rfl, hst, hb, hc, hv, hbl, hwl, hn, h60, hle, hsum, k⟩ := h
    refine ⟨_, (pss_cons (ps_set (i := 4) sc_want_end.nd rfl (Or.inl rfl) (pe_call (ok_want_above T) (hr.mono (by decide)) (by rfl) T.d_want_above.m T.d_want_above.F.kp T.d_want_above.b .nil pass0 (pa_cons (pv 0) (pa_cons (pv 1) (pa_cons (pv 3) pa_nil)))))
    (pss_cons (ps_if (pt_cmpR op_ne (pe_op op_sub (pe_callB (cr_sumT rfl) (by rfl) T.b_sum bt_sum (pa_cons (pv 4) pa_nil)) (pe_callB (cr_sumT rfl) (by rfl) T.b_sum bt_sum (pa_cons (pv 1) pa_nil))) (pe_callB (cr_sumT rfl) (by rfl) T.b_sum bt_sum (pa_cons (pv 2) pa_nil)) (nomark _)) (pss_one ps_never) pss_nil)
    (pss_one (ps_ret (pv 4))))), ?_⟩
    refine ⟨_, rfl, _, rfl, _, rfl, st, b, v, n, kinds, bs, ws, rfl, hst, hb, hv, hbl, hwl, hn, h60, hle, fun H1 p s1 hp => ?_⟩
    refine ⟨_, rfl, p, zi ws, rfl, SqT.of hp, ?_⟩
    refine ⟨_, rfl, b, zi bs, rfl, SqT.of (s1 _ _ hb), _, _, rfl, rfl, ?_⟩
    refine ⟨_, rfl, c, zi cs, rfl, SqT.of (s1 _ _ hc), rfl, false, nbl (decide_eq_true (v_int ?_)), iteF ?_⟩
    · rw [zi_sum, zi_sum, zi_sum]; omega
    · exact ⟨_, rfl, k _ p s1 hp⟩
theorem sc_want_ending : FnScope ["store", "board", "counts", "wished", "told", "some"] ["store", "board", "counts", "wished"] (defScope s_want_ending) := ⟨rfl, rfl, rfl, by decide +kernel, rfl, by decide +kernel, by decide +kernel⟩
def sp_want_ending (C : Addr) : Sp := fun vs H Q _ => ∃ (st b c v : Addr) (n : Nat) (kinds : List (List Nat)) (bs cs ws : List Nat), vs = [.ref st, .ref b, .ref c, .ref v] ∧ IsStore C n H st kinds ∧ IsN H b bs ∧ IsN H c cs ∧ IsSeq H v (nl ws) ∧ TA.Fit n kinds bs cs ws ∧
  ∀ H' p b' c' v', Same H H' → H' p = some (.tup [.ref b', .ref c', .ref v']) → IsNT H' b' bs → IsNT H' c' cs → IsNT H' v' ws → Q (.ref p) H'
theorem ok_want_ending (T : Txt K mg) : FnOk P w K mg base CX0 6 T.d_want_ending.f T.d_want_ending.fd ["store", "board", "counts", "wished"] (sp_want_ending T.st.C) := by
  refine T.d_want_ending.F.ok sc_want_ending (fun vs H Q E h => ?_) (fun cdv A outer s H vs Q E hr h => ?_)
  · obtain ⟨st, b, c, v, n, kinds, bs, cs, ws, rfl, _⟩ := h
    rfl
  · obtain ⟨st, b, c, v, n, kinds, bs, cs, ws, rfl, hst, hb, hc, hv, F, k⟩ := h
    have n8 : n ≤ 8 := Nat.le_trans F.n4 (by decide)
    have hw60 : ∀ x ∈ ws, x ≤ 60 := fun x hx => by
      obtain ⟨i, _, e⟩ := TA.mem_getD 0 hx
      have := F.wle i
      have e : TA.g ws i = x := e
      omega
    refine ⟨_, (pss_cons (ps_expr (pe_call (ok_want_store T) (hr.mono (by decide)) (by rfl) T.d_want_store.m T.d_want_store.F.kp T.d_want_store.b .nil pass0 (pa_cons (pv 0) pa_nil)))
    (pss_cons (ps_set (i := 4) sc_want_ending.nd rfl (Or.inl rfl) (pe_call (ok_want_board T) (hr.mono (by decide)) (by rfl) T.d_want_board.m T.d_want_board.F.kp T.d_want_board.b .nil pass0 (pa_cons (pv 0) (pa_cons (pv 1) pa_nil))))
    (pss_cons (ps_set (i := 5) sc_want_ending.nd rfl (Or.inl rfl) (pe_call (ok_want_counts T) (hr.mono (by decide)) (by rfl) T.d_want_counts.m T.d_want_counts.F.kp T.d_want_counts.b .nil pass0 (pa_cons (pv 0) (pa_cons (pv 2) pa_nil))))
    (pss_one (ps_ret (pe_tup (pa_cons (pv 4) (pa_cons (pv 5) (pa_cons (pe_call (ok_want_end T) (hr.mono (by decide)) (by rfl) T.d_want_end.m T.d_want_end.F.kp T.d_want_end.b .nil pass0 (pa_cons (pv 0) (pa_cons (pv 4) (pa_cons (pv 5) (pa_cons (pv 3) pa_nil))))) pa_nil))))))))), ?_⟩
    obtain ⟨dx, d, e, ke, hs1, hs2⟩ := id hst
    refine ⟨_, rfl, st, dx, _, rfl, hs1, ?_⟩
    refine ⟨_, rfl, _, rfl, st, b, n, kinds, bs, rfl, hst, .inl hb, F.bl, n8, (fun x hx => by have := F.b2 x hx; omega), fun H1 b' s1 hb' => ?_⟩
    refine ⟨_, rfl, _, rfl, st, c, n, kinds, cs, rfl, mStore.m s1 hst, s1 _ _ hc, F.cl, Nat.le_trans F.k3 (by decide), (fun x hx => by have := F.c2 x hx; omega), fun H2 c' s2 hc' => ?_⟩
    have s12 := s1.trans s2
    refine ⟨_, rfl, _, rfl, _, rfl, _, rfl, _, rfl, _, rfl, st, b', c', v, n, kinds, bs, cs, ws, rfl, mStore.m s12 hst, s2 _ _ hb', hc', mSeq.m s12 hv, F.bl, F.wl, n8, hw60, F.le, F.sum, fun H3 v' s3 hv' => ?_⟩
    refine ⟨by show 3 ≤ sizeLine; decide, fun p hp => ?_⟩
    have s4 : Same H3 (upd H3 p (.tup [.ref b', .ref c', .ref v'])) := same_upd hp
    exact k _ p b' c' v' ((s12.trans s3).trans s4) upd_same (s4 _ _ (s3 _ _ (s2 _ _ hb'))) (s4 _ _ (s3 _ _ hc')) (s4 _ _ hv')
end
end Tw
namespace Tw
open PySem PySem.Spec PyProof.Rows L2 TR
open TA (Plc zi)
theorem g_some {xs : List Nat} {i : Nat} (h : i < xs.length) : xs[i]? = some (TA.g xs i) := TA.some_getD 0 h
theorem at_nl {xs : List Nat} {i : Nat} (h : i < xs.length) : atI (nl xs) (i : Int) = some (vn (TA.g xs i)) := atI_nat (nl_get (g_some h))
theorem IsQ.cut {H : Hp} {p D : Addr} {q : Plc} (h : IsQ H p q) (ne : p ≠ D) : IsQ (cut H D) p q := (cut_ne ne).trans h
/-- what a list of places gets, more places -/
theorem IsQ.ne {H : Hp} {p D : Addr} {q : Plc} {xs : List V} (h : IsQ H p q) (hD : H D = some (.lst xs)) : p ≠ D := fun e => by
  have h : H p = some (.tup (vp q)) := h
  rw [e, hD] at h; cases h
theorem IsQ.upd {H : Hp} {p D : Addr} {q : Plc} {xs : List V} {o : HO} (h : IsQ H p q) (hD : H D = some (.lst xs)) : IsQ (upd H D o) p q := (upd_ne (h.ne hD)).trans h
theorem pl_ext {H : Hp} {p : Addr} {ps zs : List Addr} {as bs : List Plc} (h : H p = some (.lst (ps.map V.ref))) (h1 : Paired (IsQ H) ps as) (h2 : Paired (IsQ H) zs bs) : IsPl (upd H p (.lst (ps.map V.ref ++ zs.map V.ref))) p (as ++ bs) :=
  ⟨ps ++ zs, by rw [upd_same, List.map_append], paired_mono (fun _ _ r => IsQ.upd r h) (paired_append h1 h2)⟩
theorem IsPl.cut {H : Hp} {p D : Addr} {as : List Plc} {xs : List V} (h : IsPl H p as) (hD : H D = some (.lst xs)) (ne : p ≠ D) : IsPl (cut H D) p as :=
  let ⟨ps, h1, h2⟩ := h
  ⟨ps, (cut_ne ne).trans h1, paired_mono (fun _ _ r => IsQ.cut r (IsQ.ne r hD)) h2⟩
theorem min_if (a b : Nat) : (if ((b : Nat) : Int) < (a : Int) then (b : Int) else (a : Int)) = ((min a b : Nat) : Int) := by
  by_cases h : b < a
  · rw [if_pos (by omega), Nat.min_eq_right (by omega)]
  · rw [if_neg (by omega), Nat.min_eq_left (by omega)]
section
variable {P : Program} {w : World} {K : PySem.W.Frag} {mg : Str → Option Value} {base : Heap}
theorem sc_least_number : FnScope ["board", "kind", "shelf"] ["board", "kind"] (defScope s_least_number) := ⟨rfl, rfl, rfl, by decide +kernel, rfl, by decide +kernel, by decide +kernel⟩
def sp_least_number : Sp := fun vs H Q _ => ∃ (b : Addr) (bs kind : List Nat), vs = [.ref b, vn (TA.bitsOf kind)] ∧ IsNT H b bs ∧ (∀ s ∈ kind, s < bs.length) ∧ kind ≠ [] ∧ kind.Pairwise (· < ·) ∧ bs.length ≤ 8 ∧
  ∀ H', Same H H' → Q (vn (TA.minOn bs kind)) H'
theorem ok_least_number (T : Txt K mg) : FnOk P w K mg base CX0 2 T.d_least_number.f T.d_least_number.fd ["board", "kind"] sp_least_number := by
  refine T.d_least_number.F.ok sc_least_number (fun vs H Q E h => ?_) (fun cdv A outer s H vs Q E hr h => ?_)
  · obtain ⟨b, bs, kind, rfl, _⟩ := h
    rfl
  · obtain ⟨b, bs, kind, rfl, hb, hlt, hne, hinc, h8, k⟩ := h
    have hsp : TA.spots (TA.bitsOf kind) = kind := TA.spots_bits hinc fun s hs => Nat.lt_of_lt_of_le (hlt s hs) h8
    have hkl : kind.length ≤ 8 := Nat.le_trans (TA.kind_length hinc hlt) h8
    refine ⟨_, (pss_one (ps_ret (pe_callB (cr_min rfl) (by rfl) T.b_min bt_min (pa_cons (pe_lc (own := [("shelf", 2)]) rfl sc_least_number.nd (pi_tup (pe_call (ok_spots_of T) (hr.mono (by decide)) (by rfl) T.d_spots_of.m T.d_spots_of.F.kp T.d_spots_of.b .nil pass0 (pa_cons (pv 1) pa_nil))) (blkOk_by (own := [("shelf", 2)]) (N := ["board", "kind", "shelf"]) (sc := defScope s_least_number) (by decide +kernel)) (fun _ _ _ _ _ => (pg_name (i := 2) sc_least_number.nd rfl (Or.inl rfl))) (fun _ _ _ _ _ => pts_nil) (fun _ _ _ _ _ => (pe_ix (ix_tupK (K := K) rfl) (pv 0) (pv 2) (fun _ _ => rfl)))) pa_nil)))), ?_⟩
    refine ⟨_, rfl, _, rfl, fun H1 p s1 _ hp => ?_⟩
    rw [hsp] at hp
    refine ⟨p, rfl, ⟨_, SqT.of hp⟩, fun D hD => ?_⟩
    have L : Lc H1 D (nl kind).length (fun i => (kind.take i).map (TA.g bs)) (fun y b _ => y = vn b) := ⟨hD, rfl, (fun i => by rw [List.length_map, List.length_take]; exact Nat.min_le_left _ _), by rw [nl_length]; exact small64 (by omega), fun _ _ _ _ h _ => h⟩
    refine lc_gen L walk_tup (fun H2 s2 => SqT.of (s2 _ _ hp)) ?_ ?_
    · rintro i x H2 H3 hi pi ⟨rfl, hx'⟩
      obtain ⟨m, hm, rfl⟩ := nl_of hx'
      refine ⟨rfl, ?_⟩
      exact ⟨_, rfl, _, rfl, b, nl bs, _, _, rfl, rfl, SqT.of (s1.trans pi.same _ _ hb), at_nl (hlt m (List.mem_of_getElem? hm)), L.put hi pi (Same.refl _) (take_snoc hm) rfl⟩
    · intro H2 ys s2 hd hp2
      rw [paired_vn hp2] at hd
      rw [show kind.take (nl kind).length = kind by rw [nl_length, List.take_length]] at hd
      refine ⟨D, zi (kind.map (TA.g bs)), rfl, SqL.of hd, ?_, fun m hm hmin => ?_⟩
      · rw [zi_length, List.length_map]; exact List.length_pos_iff.mpr hne
      · obtain ⟨m', hm', rfl⟩ := zi_mem hm
        have e : m' = TA.minOn bs kind := TA.mn_eq hm' fun y hy => by
          have := hmin (y : Int) (mem_zi.mpr hy)
          omega
        rw [e]
        exact k _ (s1.trans s2)
theorem sc_pieces_of : FnScope ["counts", "found", "position", "many"] ["counts"] (defScope s_pieces_of) := ⟨rfl, rfl, rfl, by decide +kernel, rfl, by decide +kernel, by decide +kernel⟩
def sp_pieces_of : Sp := fun vs H Q _ => ∃ (c : Addr) (cs : List Nat), vs = [.ref c] ∧ IsNT H c cs ∧ cs.length ≤ 8 ∧ (∀ x ∈ cs, x ≤ 20) ∧ ∀ H' p, Same H H' → H p = none → IsN H' p (TA.piecesOf cs) → Q (.ref p) H'
theorem rep_flat (i n : Nat) : (List.replicate ((n : Int).toNat) [vn i]).flatten = nl (List.replicate n i) := by
  rw [Int.toNat_natCast]
  induction n with
  | zero => rfl
  | succ n ih =>
    rw [List.replicate_succ, List.flatten_cons, ih]; rfl
theorem piecesTo_len {cs : List Nat} (h : ∀ x ∈ cs, x ≤ 20) : ∀ i, i ≤ cs.length → (TA.piecesTo cs i).length ≤ 20 * i
  | 0, _ => Nat.le_refl _
  | i + 1, hi => by
    rw [TA.piecesTo_succ, List.length_append, List.length_replicate]
    exact Nat.le_trans (Nat.add_le_add (piecesTo_len h i (by omega)) (h _ (TA.getD_mem 0 (show i < cs.length by omega)))) (by omega)
theorem ok_pieces_of (T : Txt K mg) : FnOk P w K mg base CX0 1 T.d_pieces_of.f T.d_pieces_of.fd ["counts"] sp_pieces_of := by
  refine T.d_pieces_of.F.ok sc_pieces_of (fun vs H Q E h => ?_) (fun cdv A outer s H vs Q E hr h => ?_)
  · obtain ⟨c, cs, rfl, _⟩ := h
    rfl
  · obtain ⟨c, cs, rfl, hc, h8, h20, k⟩ := h
    refine ⟨_, (pss_cons (ps_set (i := 1) sc_pieces_of.nd rfl (Or.inl rfl) (pe_lst pa_nil))
    (pss_cons (ps_for PassesOwn.never rfl (pi_enumK (kdT _) (by rfl) T.b_enumerate (pa_cons (pv 0) pa_nil)) (pg_tupK (K := K) (n := 2) rfl rfl (pgs_cons (pg_name (i := 2) sc_pieces_of.nd rfl (Or.inl rfl)) (pgs_cons (pg_name (i := 3) sc_pieces_of.nd rfl (Or.inl rfl)) pgs_nil))) (pss_one (ps_expr (pe_bm PySem.F.plainAttrs_list PySem.F.slot_list_extend PySem.F.type_list_extend mt_extend (pv 1) (pa_cons (pe_op op_rep (pe_lst (pa_cons (pv 2) pa_nil)) (pv 3)) pa_nil)))))
    (pss_one (ps_ret (pv 1))))), ?_⟩
    refine ⟨by show 0 ≤ sizeLine; decide, fun f hf => ?_⟩
    refine ⟨_, rfl, c, nl cs, rfl, SqT.of (same_upd (o := .lst []) hf _ _ hc), ?_⟩
    refine for_it walk_enumK (fun i σ H' => ∃ a b : Option V, σ = [some (.ref c), some (.ref f), a, b] ∧ Same H H' ∧ IsN H' f (TA.piecesTo cs i)) ⟨none, none, rfl, same_upd hf, upd_same⟩ (fun i σ H' _ ⟨_, _, _, s1, _⟩ => SqT.of (s1 _ _ hc)) ?_ ?_
    · rintro i x σ H2 H3 hi ⟨a, b, rfl, s1, hfi⟩ ⟨t, u, v, rfl, ht, rfl, hu1, hv1⟩
      obtain ⟨m, hm, rfl⟩ := nl_of hv1
      obtain rfl := Option.some.inj hu1
      rw [nl_length] at hi
      have hm20 := h20 m (List.mem_of_getElem? hm)
      have em : TA.g cs i = m := TA.getD_some 0 hm
      have sz := piecesTo_len h20 i (by omega)
      refine ⟨t, _, rfl, SqT.of upd_same, rfl, _, _, rfl, _, _, rfl, rfl, ?_⟩
      have s2 := s1.trans (same_upd (o := .tup [vn i, vn m]) ht)
      have hf2 : IsN (upd H2 t (.tup [vn i, vn m])) f (TA.piecesTo cs i) := mN.m (same_upd ht) hfi
      refine ⟨_, rfl, .inl ⟨rfl, _, SqL.of hf2⟩, ?_⟩
      refine ⟨_, rfl, by show 1 ≤ sizeLine; decide, fun p hp => ?_⟩
      refine ⟨_, rfl, p, (m : Int), [vn i], rfl, rfl, upd_same, by omega, by omega, (by rw [Int.toNat_natCast]; show 1 * m ≤ sizeLine; exact Nat.le_trans (by omega : 1 * m ≤ 63) (by decide)), fun q hq => ?_⟩
      have hf3 := mN.m (same_upd (o := .lst [vn i]) hp) hf2
      have s3 := s2.trans (same_upd (o := .lst [vn i]) hp)
      rw [rep_flat]
      have hf4 := mN.m (same_upd (o := .lst (nl (List.replicate m i))) hq) hf3
      have s4 := s3.trans (same_upd (o := .lst (nl (List.replicate m i))) hq)
      refine ⟨f, q, _, _, rfl, rfl, hf4, upd_same, ?_, ?_⟩
      · rw [nl_length, nl_length, List.length_replicate]; exact Nat.le_trans (show _ ≤ 1000 by omega) (by decide)
      · refine ⟨_, _, rfl, fun b o e => ?_, ?_⟩
        · rw [upd_ne (ne_of_none e hf)]; exact s4 _ _ e
        · rw [TA.piecesTo_succ, em]
          show upd _ _ _ _ = _
          rw [upd_same, nl_append]
    · rintro σ H' ⟨a, b, rfl, s1, hfi⟩
      rw [nl_length] at hfi
      exact ⟨_, rfl, k _ f s1 hf hfi⟩
end
end Tw
namespace Tw
open PySem PySem.Spec PyProof.Rows L2 TR
open TA (Plc zi)
theorem same_cut {H H2 : Hp} {f : Addr} (s : Same H H2) (hf : H f = none) : Same H (cut H2 f) := fun c o e => by
  rw [cut_ne (ne_of_none e hf)]; exact s c o e
theorem cut_self {H : Hp} {f : Addr} : cut H f f = none := if_pos rfl
theorem lists_ne {H : Hp} {p f : Addr} {xs ys : List V} (h : H p = some (.tup xs)) (hf : H f = some (.lst ys)) : p ≠ f := fun e => by
  rw [e, hf] at h; cases h
theorem same_mut {B H : Hp} {f : Addr} {o : HO} (s : Same B H) (hf : B f = none) : Same B (upd H f o) := fun c u e => by
  rw [upd_ne (ne_of_none e hf)]; exact s c u e
def abAt (b w kind : List Nat) (s : Nat) : List Plc := (List.range' (TA.g b s) (min (TA.g w s) (TA.minOn w kind + 1) - TA.g b s)).map fun l => (s, l)
def ablePre (b w kind : List Nat) (i : Nat) : List Plc := (kind.take i).flatMap (abAt b w kind)
theorem ablePre_succ {b w kind : List Nat} {i s : Nat} (h : kind[i]? = some s) : ablePre b w kind (i + 1) = ablePre b w kind i ++ abAt b w kind s := by
  unfold ablePre
  rw [take_snoc' h, List.flatMap_append, List.flatMap_cons, List.flatMap_nil, List.append_nil]
theorem ablePre_all {b w kind : List Nat} : ablePre b w kind kind.length = TA.able kind b w := by
  unfold ablePre TA.able
  rw [List.take_length]; rfl
theorem ablePre_len {b w kind : List Nat} {i : Nat} : (ablePre b w kind i).length ≤ (TA.able kind b w).length := by
  have e : TA.able kind b w = ablePre b w kind i ++ (kind.drop i).flatMap (abAt b w kind) := by
    unfold ablePre TA.able
    rw [← List.flatMap_append, List.take_append_drop]; rfl
  rw [e, List.length_append]; omega
theorem range_put {lo i s : Nat} : (List.range' lo (i + 1)).map (fun l => (s, l)) = (List.range' lo i).map (fun l => (s, l)) ++ [((s, lo + i) : Plc)] := by
  rw [List.range'_1_concat, List.map_append]; rfl
section
variable {P : Program} {w : World} {K : PySem.W.Frag} {mg : Str → Option Value} {base : Heap}
theorem sc_places_of : FnScope ["store", "board", "wished", "position", "kind", "found", "least", "shelf", "level"] ["store", "board", "wished", "position"] (defScope s_places_of) := ⟨rfl, rfl, rfl, by decide +kernel, rfl, by decide +kernel, by decide +kernel⟩
def sp_places_of (C : Addr) : Sp := fun vs H Q _ => ∃ (st b v : Addr) (n : Nat) (kinds : List (List Nat)) (bs cs ws : List Nat) (p : Nat), vs = [.ref st, .ref b, .ref v, vn p] ∧ IsStore C n H st kinds ∧ IsNT H b bs ∧ IsNT H v ws ∧ TA.Fit n kinds bs cs ws ∧ p < kinds.length ∧
  ∀ H' q, Same H H' → H q = none → IsPl H' q (TA.able (TA.gk kinds p) bs ws) → Q (.ref q) H'
theorem ok_places_of (T : Txt K mg) : FnOk P w K mg base CX0 3 T.d_places_of.f T.d_places_of.fd ["store", "board", "wished", "position"] (sp_places_of T.st.C) := by
  refine T.d_places_of.F.ok sc_places_of (fun vs H Q E h => ?_) (fun cdv A outer s H vs Q E hr h => ?_)
  · obtain ⟨st, b, v, n, kinds, bs, cs, ws, p, rfl, _⟩ := h
    rfl
  · obtain ⟨st, b, v, n, kinds, bs, cs, ws, p, rfl, ⟨dx, d, e, ke, h1, h2⟩, hb, hv, F, hp, k⟩ := h
    have hkm := TA.getD_mem [] hp
    have hne := F.ne _ hkm
    have hlt := F.lt _ hkm
    have hinc := F.inc _ hkm
    have hal := F.able_length hp
    have hge : (kinds.map TA.bitsOf)[p]? = some (TA.bitsOf (TA.gk kinds p)) := by
      rw [List.getElem?_map, TA.some_getD [] hp]; rfl
    generalize hkd : TA.gk kinds p = kind at *
    have hkd' : kinds.getD p [] = kind := hkd
    rw [hkd'] at hne hlt hinc
    have hsp : TA.spots (TA.bitsOf kind) = kind := TA.spots_bits hinc fun s hs => by have := hlt s hs; have := F.n4; omega
    have hkl : kind.length ≤ 4 := Nat.le_trans (TA.kind_length hinc hlt) F.n4
    refine ⟨_, (pss_cons (ps_par (i := 4) (j := 5) rfl sc_places_of.nd rfl rfl (by decide) rfl rfl (pa_cons (pe_ix ix_tup (pe_fld (pv 0) rfl) (pv 3) (fun _ _ => rfl)) (pa_cons (pe_lst pa_nil) pa_nil)) (by rfl))
    (pss_cons (ps_set (i := 6) sc_places_of.nd rfl (Or.inl rfl) (pe_call (ok_least_number T) (hr.mono (by decide)) (by rfl) T.d_least_number.m T.d_least_number.F.kp T.d_least_number.b .nil pass0 (pa_cons (pv 2) (pa_cons (pv 4) pa_nil))))
    (pss_cons (ps_for PassesOwn.never rfl (pi_tup (pe_call (ok_spots_of T) (hr.mono (by decide)) (by rfl) T.d_spots_of.m T.d_spots_of.F.kp T.d_spots_of.b .nil pass0 (pa_cons (pv 4) pa_nil))) (pg_name (i := 7) sc_places_of.nd rfl (Or.inr rfl)) (pss_one (ps_expr (pe_bm PySem.F.plainAttrs_list PySem.F.slot_list_extend PySem.F.type_list_extend mt_extend (pv 5) (pa_cons (pe_lc (own := [("level", 8)]) rfl sc_places_of.nd (pi_range2 (by rfl) T.b_range (pa_cons (pe_ix ix_tup (pv 1) (pv 7) (fun _ _ => rfl)) (pa_cons (pe_callB (call_min2 rfl) (by rfl) T.b_min bt_min (pa_cons (pe_ix ix_tup (pv 2) (pv 7) (fun _ _ => rfl)) (pa_cons (pe_op op_add (pv 6) pe_int) pa_nil))) pa_nil))) (blkOk_by (own := [("level", 8)]) (N := ["store", "board", "wished", "position", "kind", "found", "least", "shelf", "level"]) (sc := defScope s_places_of) (by decide +kernel)) (fun _ _ _ _ _ => (pg_name (i := 8) sc_places_of.nd rfl (Or.inl rfl))) (fun _ _ _ _ _ => pts_nil) (fun _ _ _ _ _ => (pe_tup (pa_cons (pv 7) (pa_cons (pv 8) pa_nil))))) pa_nil)))))
    (pss_one (ps_ret (pv 5)))))), ?_⟩
    refine ⟨_, rfl, st, _, dx, _, _, rfl, h1, T.st.cl, T.st.n2, rfl, _, rfl, d, nl (kinds.map TA.bitsOf), _, _, rfl, rfl, SqT.of h2, atI_nat (nl_get hge), ?_⟩
    refine ⟨by show 0 ≤ sizeLine; decide, fun f hf => ⟨_, _, rfl, ?_⟩⟩
    have s1 : Same H (upd H f (.lst [])) := same_upd hf
    refine ⟨_, rfl, _, rfl, v, ws, kind, rfl, s1 _ _ hv, (fun s hs => by rw [F.wl]; exact hlt s hs), hne, hinc, (by rw [F.wl]; have := F.n4; omega), fun H2 s2 => ?_⟩
    refine ⟨_, rfl, _, rfl, fun H3 q s3 hq hq3 => ?_⟩
    rw [hsp] at hq3
    refine ⟨q, rfl, ⟨_, SqT.of hq3⟩, ?_⟩
    have hf3 : H3 f = some (.lst []) := s3 _ _ (s2 _ _ upd_same)
    have sB : Same H (cut H3 f) := same_cut ((s1.trans s2).trans s3) hf
    have hBq : IsNT (cut H3 f) q kind := IsNT.cut hq3 (lists_ne hq3 hf3)
    have hBb : IsNT (cut H3 f) b bs := sB _ _ hb
    have hBv : IsNT (cut H3 f) v ws := sB _ _ hv
    have hBf : cut H3 f f = none := cut_self
    have sB3 : Same (cut H3 f) H3 := cut_same
    generalize cut H3 f = B at *
    refine for_it walk_tup (fun i σ H' => ∃ a : Option V, σ = [some (.ref st), some (.ref b), some (.ref v), some (vn p), some (vn (TA.bitsOf kind)), some (.ref f), some (vn (TA.minOn ws kind)), a, none] ∧ Same B H' ∧ IsPl H' f (ablePre bs ws kind i))
      ⟨none, rfl, sB3, [], hf3, .nil⟩ (fun i σ H' _ ⟨_, _, s4, _⟩ => SqT.of (s4 _ _ hBq)) ?_ ?_
    · rintro i x σ H4 H5 hi ⟨a, rfl, s4, ps, hps, hpq⟩ ⟨rfl, hx⟩
      obtain ⟨s', hs', rfl⟩ := nl_of hx
      have hsk := List.mem_of_getElem? hs'
      have hsn := hlt s' hsk
      refine ⟨_, rfl, .inl ⟨rfl, _, SqL.of hps⟩, ?_⟩
      have wl := F.wle s'
      have bl := F.le s'
      refine ⟨_, rfl, _, rfl, b, nl bs, _, _, rfl, rfl, SqT.of (s4 _ _ hBb), at_nl (by rw [F.bl]; exact hsn), ?_⟩
      refine ⟨_, rfl, _, rfl, v, nl ws, _, _, rfl, rfl, SqT.of (s4 _ _ hBv), at_nl (by rw [F.wl]; exact hsn), ?_⟩
      refine ⟨_, rfl, _, _, rfl, rfl, _, _, rfl, ?_⟩
      refine ⟨(TA.g bs s' : Int), ((min (TA.g ws s') (TA.minOn ws kind + 1) : Nat) : Int), congrArg (fun z => [V.int (TA.g bs s' : Int), V.int z]) (min_if (TA.g ws s') (TA.minOn ws kind + 1)), by omega, fun D hD => ?_⟩
      have L : Lc H5 D (((min (TA.g ws s') (TA.minOn ws kind + 1) : Nat) : Int) - (TA.g bs s' : Int)).toNat (fun j => (List.range' (TA.g bs s') j).map fun l => (s', l)) (RefTo IsQ D) :=
        Lc.refs mQ hD rfl (fun j => by simp) (Nat.le_trans (show _ ≤ 63 by omega) (by decide))
      refine lc_gen L walk_range (fun _ _ => trivial) ?_ ?_
      · rintro j y H6 H7 hj pj ⟨rfl, hy⟩
        have hy : y = vn (TA.g bs s' + j) := hy
        subst hy
        refine ⟨rfl, _, rfl, _, rfl, by show 2 ≤ sizeLine; decide, fun t ht => ?_⟩
        exact L.put hj pj (same_upd ht) range_put ⟨t, rfl, IsQ.cut (q := (s', TA.g bs s' + j)) upd_same (ne_at ht pj.no)⟩
      · intro H6 ys s6 hd hpy
        obtain ⟨zs, rfl, hzs⟩ := paired_refs mQ hpy
        have en : (((min (TA.g ws s') (TA.minOn ws kind + 1) : Nat) : Int) - (TA.g bs s' : Int)).toNat = min (TA.g ws s') (TA.minOn ws kind + 1) - TA.g bs s' := Int.toNat_sub ..
        rw [en] at hzs
        have hps6 : H6 f = some (.lst (ps.map V.ref)) := s6 _ _ hps
        have hE := ablePre_succ (b := bs) (w := ws) hs'
        refine ⟨f, D, _, _, rfl, rfl, hps6, hd, ?_, ?_⟩
        · have l1 := hpq.length
          have l2 := hzs.length
          have l3 := ablePre_len (b := bs) (w := ws) (kind := kind) (i := i + 1)
          rw [hE, List.length_append, ← l1] at l3
          have l4 : zs.length = (abAt bs ws kind s').length := l2
          rw [List.length_map, List.length_map]
          exact Nat.le_trans (show _ ≤ 63 by omega) (by decide)
        · refine ⟨_, rfl, same_mut (s4.trans s6) hBf, ?_⟩
          rw [hE]
          exact pl_ext hps6 (paired_mono (fun _ _ h => mQ.m s6 h) hpq) hzs
    · rintro σ H' ⟨a, rfl, s4, hpl⟩
      rw [nl_length, ablePre_all] at hpl
      exact ⟨_, rfl, k _ f (sB.trans s4) hf hpl⟩
end
end Tw
namespace Tw
open PySem PySem.Spec PyProof.Rows L2 TR
open TA (Plc zi Tk look put)
theorem pbl {b : Bool} (e : b = false) : V.bl (!b) = V.bl true := by subst e; rfl
/-! ### the dicts -/
def kvT (t : Tk) : List (List L2.Key × V) := t.map fun e => (keyOf e.1, vn e.2)
def IsTk (H : Hp) (p : Addr) (t : Tk) : Prop := H p = some (.dT (kvT t))
theorem mTk : Mono IsTk := ⟨fun s h => s _ _ h⟩
theorem key_dec (a q : Plc) : decide (keyOf a = keyOf q) = decide (a = q) := by
  by_cases h : a = q
  · rw [h, decide_eq_true rfl, decide_eq_true rfl]
  · rw [decide_eq_false h, decide_eq_false fun e => h (keyOf_inj e)]
theorem val_kvT (t : Tk) (q : Plc) : valV (kvT t) (keyOf q) = (look t q).map vn := by
  unfold valV kvT look
  rw [List.find?_map, Option.map_map, Option.map_map]
  have e : ((fun kv : List L2.Key × V => decide (kv.1 = keyOf q)) ∘ fun e : Plc × Nat => (keyOf e.1, vn e.2)) = fun e : Plc × Nat => decide (e.1 = q) := funext fun e => key_dec e.1 q
  rw [e]; rfl
theorem put_kvT (t : Tk) (q : Plc) (v : Nat) : putK (kvT t) (keyOf q) (vn v) = kvT (put t q v) := by
  unfold putK put kvT
  rw [List.any_map]
  have e : ((fun kv : List L2.Key × V => decide (kv.1 = keyOf q)) ∘ fun e : Plc × Nat => (keyOf e.1, vn e.2)) = fun e : Plc × Nat => decide (e.1 = q) := funext fun e => key_dec e.1 q
  rw [e]
  by_cases h : (t.any fun e => decide (e.1 = q)) = true
  · rw [if_pos h, if_pos h, List.map_map, List.map_map]
    refine List.map_congr_left fun e _ => ?_
    show (if keyOf e.1 = keyOf q then (keyOf e.1, vn v) else (keyOf e.1, vn e.2)) = (keyOf (if e.1 = q then (e.1, v) else e).1, vn (if e.1 = q then (e.1, v) else e).2)
    by_cases c : e.1 = q
    · rw [if_pos (by rw [c]), if_pos c]
    · rw [if_neg fun z => c (keyOf_inj z), if_neg c]
  · rw [if_neg h, if_neg h, List.map_append]; rfl
theorem kvT_len (t : Tk) : (kvT t).length = t.length := List.length_map ..
theorem putK_new {κ : Type} [DecidableEq κ] {kvs : List (κ × V)} {k : κ} {v : V} (h : valV kvs k = none) : putK kvs k v = kvs ++ [(k, v)] := by
  unfold putK
  rw [valV_any, h]; rfl
/-- owned's items -/
def OwAt (H : Hp) (kv : L2.Key × V) (e : Plc × Nat) : Prop := ∃ a, kv = (Sum.inl (e.2 : Int), V.ref a) ∧ IsQ H a e.1
theorem ow_get {H : Hp} : ∀ {kvs : List (L2.Key × V)} {l : Tk}, Paired (OwAt H) kvs l → (l.map (·.2)).Nodup → ∀ {q : Plc} {v : Nat}, (q, v) ∈ l → ∃ a, valV kvs (Sum.inl (v : Int)) = some (V.ref a) ∧ IsQ H a q
  | _, _, .nil, _, q, v, h => by simp at h
  | _, e :: l, .cons ⟨a, e1, ha⟩ t, nd, q, v, h => by
    rw [List.map_cons, List.nodup_cons] at nd
    rcases List.mem_cons.mp h with h | h
    · refine ⟨a, ?_, ?_⟩
      · rw [valV_pos (by rw [e1, ← h]), e1]
      · rw [← h] at ha; exact ha
    · have ne : ¬ e.2 = v := fun z => nd.1 (by rw [z]; exact List.mem_map.mpr ⟨_, h, rfl⟩)
      obtain ⟨a2, h1, h2⟩ := ow_get t nd.2 h
      refine ⟨a2, ?_, h2⟩
      rw [valV_neg (by rw [e1]; intro z; injection z with z; exact ne (by omega))]; exact h1
theorem ow_no {H : Hp} : ∀ {kvs : List (L2.Key × V)} {l : Tk}, Paired (OwAt H) kvs l → ∀ {v : Nat}, v ∉ l.map (·.2) → valV kvs (Sum.inl (v : Int)) = none
  | _, _, .nil, v, _ => rfl
  | _, e :: l, .cons ⟨a, e1, ha⟩ t, v, h => by
    rw [List.map_cons, List.mem_cons, not_or] at h
    rw [valV_neg (by rw [e1]; intro z; injection z with z; exact h.1 (by omega))]
    exact ow_no t h.2
theorem IsQ.updN {H : Hp} {p D : Addr} {q : Plc} {o : HO} (h : IsQ H p q) (hD : ∀ xs, H D ≠ some (.tup xs)) : IsQ (L2.upd H D o) p q :=
  (L2.upd_ne fun e => hD (vp q) (by rw [← e]; exact h)).trans h
theorem len_mv {A : Nat → List Plc} {pcs : List Nat} {m : Nat} {t way T pre : Tk} {here : Plc} {par : Nat} (I : TA.MvInv A pcs m t way T here pre par) : T.length ≤ m + 1 := by
  have h : (T.filter fun e => decide (e.1 ≠ here)).length = m := by
    have := I.vals.length_eq
    rw [List.length_map, List.length_range] at this
    exact this
  by_cases c : here ∈ T.map (·.1)
  · obtain ⟨e, he, hk⟩ := List.mem_map.mp c
    have := (TA.cut_perm (q := here) (v := e.2) I.nd (by rw [← hk]; exact he)).length_eq
    rw [List.length_cons, h] at this
    omega
  · rw [TA.filter_key c] at h
    omega
theorem match_len {A : Nat → List Plc} {pcs : List Nat} {m : Nat} {t : Tk} (M : TA.Match A pcs m t) : t.length = m := by
  have := M.vals.length_eq
  rw [List.length_map, List.length_range] at this
  exact this
section
variable {P : Program} {w : World} {K : PySem.W.Frag} {mg : Str → Option Value} {base : Heap}
theorem sc_moved_on : FnScope ["place", "way", "taken", "piece", "owned", "spot", "here", "mover"] ["place", "way", "taken", "piece"] (defScope s_moved_on) := ⟨rfl, rfl, rfl, by decide +kernel, rfl, by decide +kernel, by decide +kernel⟩
def sp_moved_on : Sp := fun vs H Q _ => ∃ (pl wy tk : Addr) (A : Nat → List Plc) (pcs : List Nat) (m : Nat) (t pre : Tk) (here : Plc) (par : Nat), vs = [.ref pl, .ref wy, .ref tk, vn m] ∧ wy ≠ tk ∧ IsQ H pl here ∧ IsTk H wy (pre ++ [(here, par)]) ∧ IsTk H tk t ∧
  TA.Match A pcs m t ∧ TA.WayOk A pcs m t (pre ++ [(here, par)]) ∧ here ∉ t.map (·.1) ∧ m ≤ 60 ∧ ∀ H' t', Same (cut H tk) H' → IsTk H' tk t' → TA.Match A pcs (m + 1) t' → Q .non H'
theorem ok_moved_on (T : Txt K mg) : FnOk P w K mg base CX0 1 T.d_moved_on.f T.d_moved_on.fd ["place", "way", "taken", "piece"] sp_moved_on := by
  refine T.d_moved_on.F.ok sc_moved_on (fun vs H Q E h => ?_) (fun cdv A outer s H vs Q E hr h => ?_)
  · obtain ⟨pl, wy, tk, A, pcs, m, t, pre, here, par, rfl, _⟩ := h
    rfl
  · obtain ⟨pl, wy, tk, A, pcs, m, t, pre, here, par, rfl, hne, hpl, hwy, htk, M, W, hh, h60, k⟩ := h
    have hu := hu_of hr
    refine ⟨_, (pss_cons (ps_set (i := 4) sc_moved_on.nd rfl (Or.inl rfl) pe_dnewK)
    (pss_cons (ps_lock (ps_for PassesOwn.never rfl (pi_keys (pv 2)) (pg_name (i := 5) sc_moved_on.nd rfl (Or.inl rfl)) (pss_one (ps_dput hu (pv 4) (pe_dget hu (pv 2) (pv 5) (fun _ _ => rfl)) (pv 5) rfl))))
    (pss_cons (ps_set (i := 6) sc_moved_on.nd rfl (Or.inl rfl) (pv 0))
    (pss_cons (ps_while PassesOwn.never (pt_cmpR op_ne (pe_dget hu (pv 1) (pv 6) (fun _ _ => rfl)) (pv 3) (nomark _)) (pss_cons (ps_set (i := 7) sc_moved_on.nd rfl (Or.inl rfl) (pe_dget hu (pv 1) (pv 6) (fun _ _ => rfl)))
    (pss_cons (ps_dput hu (pv 2) (pv 6) (pv 7) rfl)
    (pss_one (ps_set (i := 6) sc_moved_on.nd rfl (Or.inl rfl) (pe_dget hu (pv 4) (pv 7) (fun _ _ => rfl)))))))
    (pss_one (ps_dput hu (pv 2) (pv 6) (pv 3) rfl)))))), ?_⟩
    have htl := match_len M
    have vnd : (t.map (·.2)).Nodup := M.vals.nodup_iff.mpr List.nodup_range
    have hBpl : IsQ (cut H tk) pl here := IsQ.cut hpl fun e => by
      have h1 : H pl = some (.tup (vp here)) := hpl
      rw [e, (show H tk = _ from htk)] at h1; cases h1
    have hBwy : IsTk (cut H tk) wy (pre ++ [(here, par)]) := (cut_ne hne).trans hwy
    have hBtk : cut H tk tk = none := cut_self
    have hBs : Same (cut H tk) H := cut_same
    generalize hB : cut H tk = B at *
    intro ow how
    have hBow : B ow = none := hBs.free how
    have htk1 : IsTk (upd H ow (.dK [])) tk t := mTk.m (same_upd how) htk
    refine ⟨tk, _, htk1, True.intro, fun od => ?_⟩
    refine ⟨_, rfl, tk, od, rfl, .inr ⟨kvT t, upd_same, ?_⟩⟩
    have htw : tk ≠ ow := fun e => by have z : H tk = _ := htk; rw [e, how] at z; cases z
    refine for_it walk_keysT (fun i σ H' => ∃ x : Option V, σ = [some (.ref pl), some (.ref wy), some (.ref tk), some (vn m), some (.ref ow), x, none, none] ∧ Same B H' ∧ H' tk = some (.frz od (.dT (kvT t))) ∧ ∃ kvs, H' ow = some (.dK kvs) ∧ Paired (OwAt H') kvs (t.take i))
      ⟨none, rfl, same_mut (hBs.trans (same_upd how)) hBtk, upd_same, [], by rw [upd_ne (Ne.symm htw)]; exact upd_same, .nil⟩ (fun i σ H' _ ⟨_, _, _, h, _⟩ => h) ?_ ?_
    · rintro i x σ H2 H3 hi ⟨x0, rfl, s2, hz, kvs, hkv, hpk⟩ ⟨rfl, key, v, q, hkq, rfl, hq⟩
      rw [kvT_len] at hi
      have hti : t[i]? = some t[i] := List.getElem?_eq_getElem hi
      unfold kvT at hkq
      rw [List.getElem?_map, hti] at hkq
      obtain ⟨rfl, rfl⟩ := Prod.mk.inj (Option.some.inj hkq)
      generalize t[i] = e at hti hkq hq
      have hem : e ∈ t := List.mem_of_getElem? hti
      have hlk : valV (kvT t) (keyOf e.1) = some (vn e.2) := by rw [val_kvT, TA.look_some M.nd hem]; rfl
      refine ⟨_, rfl, _, rfl, _, rfl, _, rfl, tk, _, rfl, .inr ⟨kvT t, keyOf e.1, q, .inr ⟨od, hz⟩, rfl, hq, hlk.symm⟩, ?_⟩
      have hno : valV kvs (Sum.inl (e.2 : Int)) = none := ow_no hpk fun hm => by
        obtain ⟨e', he', ev⟩ := List.mem_map.mp hm
        obtain ⟨j, hj, ej⟩ := List.getElem_of_mem he'
        rw [List.length_take] at hj
        have h1 : t[j]? = some e' := by
          rw [List.getElem_take] at ej
          rw [← ej]; exact List.getElem?_eq_getElem (by omega)
        have hj2 : (t.map (·.2))[j]'(by rw [List.length_map]; omega) = e.2 := by
          rw [List.getElem_map]
          rw [List.getElem?_eq_getElem (by omega)] at h1
          rw [Option.some.inj h1]; exact ev
        have hi2 : (t.map (·.2))[i]'(by rw [List.length_map]; omega) = e.2 := by
          rw [List.getElem_map]
          rw [List.getElem?_eq_getElem hi] at hti
          rw [Option.some.inj hti]
        exact List.pairwise_iff_getElem.mp vnd j i (by rw [List.length_map]; omega) (by rw [List.length_map]; omega) (by omega) (hj2.trans hi2.symm)
      refine ⟨ow, _, rfl, DPut.k (k := Sum.inl (e.2 : Int)) hkv ?_, ?_⟩
      · have := hpk.length
        rw [List.length_take] at this
        exact Nat.lt_of_le_of_lt (show _ ≤ 63 by omega) (by decide)
      · rw [putK_new hno]
        have hnt : ∀ xs, H3 ow ≠ some (.tup xs) := fun xs z => by rw [hkv] at z; cases z
        refine ⟨_, rfl, same_mut s2 hBow, by rw [upd_ne htw]; exact hz, _, upd_same, ?_⟩
        rw [take_snoc' hti]
        exact paired_snoc (paired_mono (fun a b ⟨r, e1, e2⟩ => ⟨r, e1, e2.updN hnt⟩) hpk) ⟨q, rfl, IsQ.updN hq hnt⟩
    · rintro σ H' ⟨x, rfl, s2, hz, kvs, hkv, hpk⟩
      rw [kvT_len, List.take_length] at hpk
      refine ⟨hz, ?_⟩
      refine ⟨_, rfl, ?_⟩
      have hnt : ∀ xs, H' tk ≠ some (.tup xs) := fun xs z => by rw [hz] at z; cases z
      have s3 : Same B (upd H' tk (.dT (kvT t))) := same_mut s2 hBtk
      have hkv3 : upd H' tk (.dT (kvT t)) ow = some (.dK kvs) := by rw [upd_ne (Ne.symm htw)]; exact hkv
      have hpk3 : Paired (OwAt (upd H' tk (.dT (kvT t)))) kvs t := paired_mono (fun a b ⟨r, e1, e2⟩ => ⟨r, e1, e2.updN hnt⟩) hpk
      have htk3 : IsTk (upd H' tk (.dT (kvT t))) tk t := upd_same
      show tSeq _ _ _ _ (upd H' tk (.dT (kvT t)))
      generalize upd H' tk (.dT (kvT t)) = H3 at s3 hkv3 hpk3 htk3 ⊢
      refine ⟨fun n σ H' => ∃ (y : Option V) (a : Addr) (T pr : Tk) (hp : Plc) (pa : Nat), n = pr.length ∧ σ = [some (.ref pl), some (.ref wy), some (.ref tk), some (vn m), some (.ref ow), x, some (.ref a), y] ∧ Same B H' ∧ IsTk H' tk T ∧ IsQ H' a hp ∧ TA.MvInv A pcs m t (pre ++ [(here, par)]) T hp pr pa ∧ H' ow = some (.dK kvs) ∧ Paired (OwAt H') kvs t,
        ⟨_, none, pl, t, pre, here, par, rfl, rfl, s3, htk3, s3 _ _ hBpl, TA.mv_start M hh, hkv3, hpk3⟩, ?_⟩
      rintro n σ H4 ⟨y, a, TT, pr, hp, pa, rfl, rfl, s4, hT, hq, I, ho, hpo⟩
      obtain ⟨post, hsp⟩ := I.split
      have hwl : TA.look (pre ++ [(here, par)]) hp = some pa := TA.look_some W.nd (by rw [hsp]; simp)
      have hget : DGet H4 wy (.ref a) (some (vn pa)) := .inr ⟨_, keyOf hp, a, .inl (s4 _ _ hBwy), rfl, hq, by rw [val_kvT, hwl]; rfl⟩
      refine ⟨_, rfl, _, rfl, wy, _, rfl, hget, _, rfl, ?_⟩
      have hTl := len_mv I
      have hsz : ∀ v, DPut H4 tk (.ref a) (vn v) (L2.upd H4 tk (.dT (kvT (put TT hp v)))) := fun v => by
        have := DPut.t (k := keyOf hp) (v := vn v) hT hq (by rw [kvT_len]; exact Nat.lt_of_le_of_lt (show _ ≤ 63 by omega) (by decide))
        rw [put_kvT] at this
        exact this
      by_cases c : pa = m
      · refine ⟨rfl, false, nbl (decide_eq_true (vn_inj c)), iteF ?_⟩
        refine ⟨_, rfl, _, rfl, _, rfl, tk, _, rfl, hsz m, ?_⟩
        exact k _ _ (same_mut s4 hBtk) upd_same (TA.mv_end W I c)
      · have cv : ¬ vn pa = vn m := fun z => c (by injection z with z; omega)
        refine ⟨rfl, true, pbl (decide_eq_false cv), iteT ⟨_, fun _ _ h => h, ?_⟩⟩
        obtain ⟨_, ho'⟩ := W.par _ _ _ hsp
        rcases ho' with z | ⟨⟨q2, p2⟩, hq2, hq3⟩
        · exact absurd z c
        · obtain ⟨pr', pa', po', e1, I'⟩ := TA.mv_step M W I c hq3
          refine ⟨_, rfl, _, rfl, wy, _, rfl, hget, ?_⟩
          refine ⟨_, rfl, _, rfl, _, rfl, tk, _, rfl, hsz pa, ?_⟩
          have hnt4 : ∀ xs, H4 tk ≠ some (.tup xs) := fun xs z => by rw [(show H4 tk = _ from hT)] at z; cases z
          have hpo' : Paired (OwAt (L2.upd H4 tk (.dT (kvT (put TT hp pa))))) kvs t := paired_mono (fun a b ⟨r, e1, e2⟩ => ⟨r, e1, e2.updN hnt4⟩) hpo
          have how' : L2.upd H4 tk (.dT (kvT (put TT hp pa))) ow = some (.dK kvs) := by rw [upd_ne (Ne.symm htw)]; exact ho
          obtain ⟨a2, hv2, ha2⟩ := ow_get hpo' vnd hq3
          refine ⟨_, rfl, _, rfl, ow, _, rfl, .inl ⟨kvs, Sum.inl (pa : Int), .inl how', rfl, hv2.symm⟩, ?_⟩
          refine ⟨_, ?_, _, a2, _, pr', _, pa', rfl, rfl, same_mut s4 hBtk, upd_same, ha2, I', how', hpo'⟩
          rw [e1, List.length_append, List.length_cons]; omega
end
end Tw
namespace Tw
open PySem PySem.Spec PyProof.Rows L2 TR
open TA (Plc zi Tk look put)
def kvM (ks : List Plc) : List (List L2.Key × V) := ks.map fun q => (keyOf q, V.bl true)
def IsMet (H : Hp) (p : Addr) (ks : List Plc) : Prop := H p = some (.dT (kvM ks))
theorem met_in (ks : List Plc) (q : Plc) : (valV (kvM ks) (keyOf q)).isSome = decide (q ∈ ks) := by
  rw [← valV_any]
  unfold kvM
  rw [List.any_map]
  by_cases h : q ∈ ks
  · rw [decide_eq_true h, List.any_eq_true]
    exact ⟨q, h, decide_eq_true rfl⟩
  · rw [decide_eq_false h, List.any_eq_false]
    intro x hx z
    have := keyOf_inj (of_decide_eq_true z)
    rw [this] at hx
    exact h hx
theorem met_no {ks : List Plc} {q : Plc} (h : q ∉ ks) : valV (kvM ks) (keyOf q) = none := by
  have := met_in ks q
  rw [decide_eq_false h] at this
  cases e : valV (kvM ks) (keyOf q) with
  | none => rfl
  | some v => rw [e] at this; cases this
theorem kvM_snoc (ks : List Plc) (q : Plc) : kvM ks ++ [(keyOf q, V.bl true)] = kvM (ks ++ [q]) := by
  unfold kvM; rw [List.map_append]; rfl
theorem IsN.cutT {H : Hp} {p D : Addr} {xs : List Nat} {kv : List (List L2.Key × V)} (h : IsN H p xs) (hD : H D = some (.dT kv)) : IsN (Tw.cut H D) p xs := IsN.cut h fun e => by
  have z : H p = some (.lst (nl xs)) := h
  rw [e, hD] at z; cases z
theorem IsQ.cutT {H : Hp} {p D : Addr} {q : Plc} {kv : List (List L2.Key × V)} (h : IsQ H p q) (hD : H D = some (.dT kv)) : IsQ (Tw.cut H D) p q := IsQ.cut h fun e => by
  have z : H p = some (.tup (vp q)) := h
  rw [e, hD] at z; cases z
theorem of_cutT {α : Type} {Rel : Hp → Addr → α → Prop} {H : Hp} {D : Addr} {kv : List (List L2.Key × V)} (hD : H D = some (.dT kv)) (hr : ∀ {p a}, Rel H p a → Rel (cut H D) p a) {p : Addr} {as : List α} (h : IsOf Rel H p as) : IsOf Rel (cut H D) p as :=
  let ⟨ps, h1, h2⟩ := h
  ⟨ps, (cut_ne fun e => by rw [e, hD] at h1; cases h1).trans h1, paired_mono (fun _ _ r => hr r) h2⟩
theorem pls_cutT {H : Hp} {p D : Addr} {as : List (List Plc)} {kv : List (List L2.Key × V)} (hD : H D = some (.dT kv)) (h : IsPls H p as) : IsPls (cut H D) p as := of_cutT (Rel := IsPl) hD (fun h => of_cutT (Rel := IsQ) hD (fun h => h.cutT hD) h) h
theorem g_app {l : List Nat} {x j : Nat} (h : j < l.length) : TA.g (l ++ [x]) j = TA.g l j := by
  unfold TA.g
  rw [List.getD_eq_getElem?_getD, List.getElem?_append_left h, List.getD_eq_getElem?_getD]
/-- placed's objects, midway -/
structure PSt (B : Hp) (tk mt wy wt : Addr) (A : Nat → List Plc) (pcs : List Nat) (m : Nat) (t : Tk) (H : Hp) (way : Tk) (wait : List Nat) : Prop where
  same : Same B H
  tk : IsTk H tk t
  mt : IsMet H mt (way.map (·.1))
  wy : IsTk H wy way
  wt : IsN H wt wait
  S : TA.Srch A pcs m t wait way
section
variable {P : Program} {w : World} {K : PySem.W.Frag} {mg : Str → Option Value} {base : Heap}
theorem sc_placed : FnScope ["piece", "pieces", "open_places", "taken", "met", "way", "waiting", "spot", "here", "place"] ["piece", "pieces", "open_places", "taken", "met"] (defScope s_placed) := ⟨rfl, rfl, rfl, by decide +kernel, rfl, by decide +kernel, by decide +kernel⟩
def sp_placed : Sp := fun vs H Q _ => ∃ (pc op tk mt : Addr) (A : Nat → List Plc) (pcs : List Nat) (opens : List (List Plc)) (m : Nat) (t : Tk), vs = [vn m, .ref pc, .ref op, .ref tk, .ref mt] ∧ mt ≠ tk ∧ IsN H pc pcs ∧ IsPls H op opens ∧ IsTk H tk t ∧ IsMet H mt [] ∧
  TA.Match A pcs m t ∧ m < pcs.length ∧ pcs.length ≤ 60 ∧ (∀ i, i < pcs.length → opens[TA.g pcs i]? = some (A (TA.g pcs i))) ∧
  (∀ H' t', Same (cut (cut H tk) mt) H' → IsTk H' tk t' → TA.Match A pcs (m + 1) t' → Q (.bl true) H') ∧
  ∀ H' way wait, Same (cut (cut H tk) mt) H' → IsTk H' tk t → IsMet H' mt (way.map (·.1)) → TA.Srch A pcs m t wait way → (∀ x ∈ wait, ∀ q ∈ A (TA.g pcs x), q ∈ way.map (·.1)) → Q (.bl false) H'
theorem ok_placed (T : Txt K mg) : FnOk P w K mg base CX0 2 T.d_placed.f T.d_placed.fd ["piece", "pieces", "open_places", "taken", "met"] sp_placed := by
  refine T.d_placed.F.ok sc_placed (fun vs H Q E h => ?_) (fun cdv A outer s H vs Q E hr h => ?_)
  · obtain ⟨pc, op, tk, mt, A, pcs, opens, m, t, rfl, _⟩ := h
    rfl
  · obtain ⟨pc, op, tk, mt, A, pcs, opens, m, t, rfl, hne, hpc, hop, htk, hmt, M, hm, h60, hop2, kT, kF⟩ := h
    have hu := hu_of hr
    refine ⟨_, (pss_cons (ps_par3 (i := 5) (j := 6) (l := 7) rfl sc_placed.nd rfl rfl rfl (by decide) (by decide) (by decide) rfl rfl rfl (pa_cons pe_dnewT (pa_cons (pe_lst (pa_cons (pv 0) pa_nil)) (pa_cons pe_int pa_nil))) (by rfl))
    (pss_cons (ps_while PassesOwn.never (pt_cmpR op_lt (pv 7) (pe_callB call_len_seq (by rfl) T.b_len bt_len (pa_cons (pv 6) pa_nil)) (nomark _)) (pss_cons (ps_set (i := 8) sc_placed.nd rfl (Or.inl rfl) (pe_ix ix_list (pv 6) (pv 7) (fun _ _ => rfl)))
    (pss_cons (ps_set (i := 7) sc_placed.nd rfl (Or.inl rfl) (pe_op op_add (pv 7) pe_int))
    (pss_one (ps_for PassesOwn.never rfl (pi_list (pe_ix ix_list (pv 2) (pe_ix ix_list (pv 1) (pv 8) (fun _ _ => rfl)) (fun _ _ => rfl))) (pg_name (i := 9) sc_placed.nd rfl (Or.inl rfl)) (pss_cons (ps_if (pt_cmp (pc_din hu (pv 9) (pv 4))) (pss_one ps_continue) pss_nil)
    (pss_cons (ps_dput hu (pv 4) (pv 9) pe_bl rfl)
    (pss_cons (ps_dput hu (pv 5) (pv 9) (pv 8) rfl)
    (pss_cons (ps_if (pt_cmp (pc_dnotin hu (pv 9) (pv 3))) (pss_cons (ps_expr (pe_call (ok_moved_on T) (hr.mono (by decide)) (by rfl) T.d_moved_on.m T.d_moved_on.F.kp T.d_moved_on.b .nil pass0 (pa_cons (pv 9) (pa_cons (pv 5) (pa_cons (pv 3) (pa_cons (pv 0) pa_nil))))))
    (pss_one (ps_ret pe_bl))) pss_nil)
    (pss_one (ps_expr (pe_bm PySem.F.plainAttrs_list PySem.F.slot_list_append PySem.F.type_list_append mt_append (pv 6) (pa_cons (pe_dget hu (pv 3) (pv 9) (fun _ _ => rfl)) pa_nil)))))))))))))
    (pss_one (ps_ret pe_bl)))), ?_⟩
    have htl := match_len M
    have hmt' : cut H tk mt = some (.dT (kvM [])) := (cut_ne hne).trans hmt
    have hBpc : IsN (cut (cut H tk) mt) pc pcs := IsN.cutT (IsN.cutT hpc htk) hmt'
    have hBop : IsPls (cut (cut H tk) mt) op opens := pls_cutT hmt' (pls_cutT htk hop)
    have hBtk : cut (cut H tk) mt tk = none := (cut_ne (Ne.symm hne)).trans cut_self
    have hBmt : cut (cut H tk) mt mt = none := cut_self
    have hBs : Same (cut (cut H tk) mt) H := cut_same.trans cut_same
    generalize cut (cut H tk) mt = B at *
    intro wy hwy
    have htk1 : IsTk (upd H wy (.dT [])) tk t := mTk.m (same_upd hwy) htk
    have hmt1 : IsMet (upd H wy (.dT [])) mt [] := same_upd hwy _ _ hmt
    have hwy1 : IsTk (upd H wy (.dT [])) wy [] := upd_same
    have s1 : Same B (upd H wy (.dT [])) := hBs.trans (same_upd hwy)
    have hBwy : B wy = none := hBs.free hwy
    have n1 : tk ≠ wy := fun e => by have z : H tk = _ := htk; rw [e, hwy] at z; cases z
    have n2 : mt ≠ wy := fun e => by have z : H mt = _ := hmt; rw [e, hwy] at z; cases z
    generalize upd H wy (.dT []) = H1 at *
    refine ⟨_, rfl, by show 1 ≤ sizeLine; decide, fun wt hwt => ?_⟩
    refine ⟨_, _, _, rfl, ?_⟩
    have n3 : tk ≠ wt := fun e => by have z : H1 tk = _ := htk1; rw [e, hwt] at z; cases z
    have n4 : mt ≠ wt := fun e => by have z : H1 mt = _ := hmt1; rw [e, hwt] at z; cases z
    have n5 : wy ≠ wt := fun e => by have z : H1 wy = _ := hwy1; rw [e, hwt] at z; cases z
    have hBwt : B wt = none := s1.free hwt
    have z2 : Same H1 (upd H1 wt (.lst [vn m])) := same_upd hwt
    refine ⟨fun n σ H' => ∃ (x8 x9 : Option V) (spot : Nat) (wait : List Nat) (way : Tk), n = t.length + 1 - spot ∧ σ = [some (vn m), some (.ref pc), some (.ref op), some (.ref tk), some (.ref mt), some (.ref wy), some (.ref wt), some (vn spot), x8, x9] ∧ PSt B tk mt wy wt A pcs m t H' way wait ∧ spot ≤ wait.length ∧ ∀ j, j < spot → ∀ q ∈ A (TA.g pcs (TA.g wait j)), q ∈ way.map (·.1),
      ⟨_, none, none, 0, [m], [], rfl, rfl, ⟨s1.trans z2, mTk.m z2 htk1, z2 _ _ hmt1, mTk.m z2 hwy1, upd_same, .start⟩, by simp, fun j h => by omega⟩, ?_⟩
    rintro n σ H2 ⟨x8, x9, spot, wait, way, rfl, rfl, S, hsp, hdone⟩
    have hlen := S.S.length
    refine ⟨_, rfl, _, rfl, wt, nl wait, rfl, .inl (SqL.of S.wt), _, _, rfl, rfl, ?_⟩
    by_cases c : spot < wait.length
    · refine ⟨true, b_bl (decide_eq_true (by rw [nl_length]; omega)), iteT ⟨_, fun _ _ h => h, ?_⟩⟩
      refine ⟨_, rfl, _, rfl, wt, nl wait, _, _, rfl, rfl, SqL.of S.wt, at_nl c, ?_⟩
      refine ⟨_, rfl, _, _, rfl, rfl, ?_⟩
      have hx := (S.S.nd M).2 _ (TA.getD_mem 0 c)
      have hrel : TA.g wait spot < pcs.length := by have : TA.g wait spot < m + 1 := hx; omega
      have hwg : wait[spot]? = some (TA.g wait spot) := g_some c
      generalize TA.g wait spot = hre at hrel hwg ⊢
      obtain ⟨ps, ho1, ho2⟩ := hBop
      obtain ⟨la, hla, qs, hq1, hq2⟩ := paired_at ho2 (hop2 hre hrel)
      have hlq : (qs.map V.ref).length = (A (TA.g pcs hre)).length := by rw [List.length_map]; exact hq2.length
      refine ⟨_, rfl, _, rfl, _, rfl, pc, nl pcs, _, _, rfl, rfl, SqL.of (S.same _ _ hBpc), at_nl hrel, op, _, _, _, rfl, rfl, SqL.of (S.same _ _ ho1), atI_nat (refs_get hla), la, rfl, ⟨_, SqL.of (S.same _ _ hq1)⟩, ?_⟩
      refine for_it walk_list (fun i σ H' => ∃ (x9 : Option V) (wait' : List Nat) (way' : Tk), σ = [some (vn m), some (.ref pc), some (.ref op), some (.ref tk), some (.ref mt), some (.ref wy), some (.ref wt), some (vn (spot + 1)), some (vn hre), x9] ∧ PSt B tk mt wy wt A pcs m t H' way' wait' ∧
          wait'[spot]? = some hre ∧ (∀ j, j < spot → ∀ q ∈ A (TA.g pcs (TA.g wait' j)), q ∈ way'.map (·.1)) ∧ ∀ q ∈ (A (TA.g pcs hre)).take i, q ∈ way'.map (·.1))
        ⟨x9, wait, way, rfl, S, hwg, hdone, fun q h => by simp at h⟩ (fun i σ H' _ ⟨_, _, _, _, S', _⟩ => SqL.of (S'.same _ _ hq1)) ?_ ?_
      · rintro i x σ H3 H4 hi ⟨y9, wait', way', rfl, S', hwg', hd1, hd2⟩ ⟨rfl, hx⟩
        obtain ⟨q0, hq0, rfl⟩ := refs_at hx
        obtain ⟨q, hq, hqq⟩ := paired_at' hq2 hq0
        have hqA : q ∈ A (TA.g pcs hre) := List.mem_of_getElem? hq
        have hq4 := S'.same _ _ hqq
        have hl' := S'.S.length
        have hxm : hre ∈ wait' := List.mem_of_getElem? hwg'
        have hwl := (List.getElem?_eq_some_iff.mp hwg').1
        refine ⟨_, rfl, _, rfl, mt, _, rfl, DGet.t (k := keyOf q) S'.mt hq4, _, rfl, ?_⟩
        rw [met_in]
        by_cases cm : q ∈ way'.map (·.1)
        · refine iteP cm ?_
          refine ⟨_, wait', way', rfl, S', hwg', hd1, fun q' h => ?_⟩
          rw [take_snoc' hq] at h
          rcases List.mem_append.mp h with h | h
          · exact hd2 q' h
          · have : q' = q := by simpa using h
            rw [this]; exact cm
        · refine iteN cm ?_
          have sz : way'.length ≤ 60 := by omega
          have kl : (kvM (way'.map (·.1))).length < sizeLine := by
            unfold kvM
            rw [List.length_map, List.length_map]
            exact Nat.lt_of_le_of_lt (show _ ≤ 63 by omega) (by decide)
          refine ⟨_, rfl, _, rfl, mt, _, rfl, DPut.t (k := keyOf q) S'.mt hq4 kl, ?_⟩
          rw [putK_new (met_no cm), kvM_snoc]
          have nt4 : ∀ {D : Addr} {kv : List (List L2.Key × V)}, H4 D = some (.dT kv) → ∀ xs, H4 D ≠ some (.tup xs) := fun h xs z => by rw [h] at z; cases z
          have hq5 : IsQ (upd H4 mt (.dT (kvM (way'.map (·.1) ++ [q])))) q0 q := IsQ.updN hq4 (nt4 S'.mt)
          have s5 : Same B (upd H4 mt (.dT (kvM (way'.map (·.1) ++ [q])))) := same_mut S'.same hBmt
          have hmt5 : IsMet (upd H4 mt (.dT (kvM (way'.map (·.1) ++ [q])))) mt (way'.map (·.1) ++ [q]) := upd_same
          have htk5 : IsTk (upd H4 mt (.dT (kvM (way'.map (·.1) ++ [q])))) tk t := (upd_ne (Ne.symm hne)).trans S'.tk
          have hwy5 : IsTk (upd H4 mt (.dT (kvM (way'.map (·.1) ++ [q])))) wy way' := (upd_ne (Ne.symm n2)).trans S'.wy
          have hwt5 : IsN (upd H4 mt (.dT (kvM (way'.map (·.1) ++ [q])))) wt wait' := (upd_ne (Ne.symm n4)).trans S'.wt
          show tSeq _ _ _ _ (upd H4 mt (.dT (kvM (way'.map (·.1) ++ [q]))))
          generalize upd H4 mt (.dT (kvM (way'.map (·.1) ++ [q]))) = H5 at hq5 s5 hmt5 htk5 hwy5 hwt5 ⊢
          refine ⟨_, rfl, _, rfl, _, rfl, wy, _, rfl, DPut.t (k := keyOf q) hwy5 hq5 (by rw [kvT_len]; exact Nat.lt_of_le_of_lt (show _ ≤ 63 by omega) (by decide)), ?_⟩
          rw [put_kvT, TA.put_new cm]
          have nt5 : ∀ xs, H5 wy ≠ some (.tup xs) := fun xs z => by rw [(show H5 wy = _ from hwy5)] at z; cases z
          have hq6 : IsQ (upd H5 wy (.dT (kvT (way' ++ [(q, hre)])))) q0 q := IsQ.updN hq5 nt5
          have s6 : Same B (upd H5 wy (.dT (kvT (way' ++ [(q, hre)])))) := same_mut s5 hBwy
          have hmt6 : IsMet (upd H5 wy (.dT (kvT (way' ++ [(q, hre)])))) mt (way'.map (·.1) ++ [q]) := (upd_ne n2).trans hmt5
          have htk6 : IsTk (upd H5 wy (.dT (kvT (way' ++ [(q, hre)])))) tk t := (upd_ne n1).trans htk5
          have hwy6 : IsTk (upd H5 wy (.dT (kvT (way' ++ [(q, hre)])))) wy (way' ++ [(q, hre)]) := upd_same
          have hwt6 : IsN (upd H5 wy (.dT (kvT (way' ++ [(q, hre)])))) wt wait' := (upd_ne (Ne.symm n5)).trans hwt5
          show tSeq _ _ _ _ (upd H5 wy (.dT (kvT (way' ++ [(q, hre)]))))
          generalize upd H5 wy (.dT (kvT (way' ++ [(q, hre)]))) = H6 at hq6 s6 hmt6 htk6 hwy6 hwt6 ⊢
          refine ⟨_, rfl, _, rfl, tk, _, rfl, DGet.t (k := keyOf q) htk6 hq6, ?_⟩
          rw [val_kvT]
          cases hlk : look t q with
          | none =>
            have hnk := TA.look_none.mp hlk
            refine ⟨true, rfl, iteT ?_⟩
            refine ⟨_, rfl, _, rfl, _, rfl, _, rfl, q0, wy, tk, A, pcs, m, t, way', q, hre, rfl, Ne.symm n1, hq6, hwy6, htk6, M, S'.S.wok.snoc cm hqA (S'.S.from hxm), hnk, by omega, fun H7 t' s7 ht7 M' => ?_⟩
            exact kT H7 t' ((same_cut s6 hBtk).trans s7) ht7 M'
          | some v =>
            refine ⟨false, rfl, iteF ?_⟩
            refine ⟨_, rfl, .inl ⟨rfl, _, SqL.of hwt6⟩, _, rfl, _, rfl, tk, vn v, rfl, (by have := DGet.t (k := keyOf q) htk6 hq6; rw [val_kvT, hlk] at this; exact this), wt, _, _, rfl, rfl, hwt6, ?_, ?_⟩
            · rw [nl_length]; exact Nat.lt_of_le_of_lt (show _ ≤ 63 by omega) (by decide)
            · have hqt : q ∈ t.map (·.1) := Classical.byContradiction fun z => by rw [TA.look_none.mpr z] at hlk; cases hlk
              have S2 := S'.S.more hxm cm hqA hqt
              rw [TA.lk_of hlk] at S2
              have hk : ∀ {x : Plc}, x ∈ way'.map (·.1) → x ∈ (way' ++ [(q, hre)]).map (·.1) := fun h => by rw [List.map_append]; exact List.mem_append_left _ h
              refine ⟨_, wait' ++ [v], way' ++ [(q, hre)], rfl, ⟨same_mut s6 hBwt, (upd_ne n3).trans htk6, ?_, (upd_ne n5).trans hwy6, ?_, S2⟩, ?_, fun j hj q' hq' => ?_, fun q' h => ?_⟩
              · refine (upd_ne n4).trans ?_
                rw [List.map_append]; exact hmt6
              · refine upd_same.trans ?_
                rw [nl_append]; rfl
              · rw [List.getElem?_append_left hwl]; exact hwg'
              · rw [g_app (by omega)] at hq'
                exact hk (hd1 j hj q' hq')
              · rw [take_snoc' hq] at h
                rcases List.mem_append.mp h with h | h
                · exact hk (hd2 q' h)
                · have : q' = q := by simpa using h
                  rw [this, List.map_append]; exact List.mem_append_right _ (by simp)
      · rintro σ H3 ⟨y9, wait', way', rfl, S', hwg', hd1, hd2⟩
        rw [hlq, List.take_length] at hd2
        have hwl := (List.getElem?_eq_some_iff.mp hwg').1
        refine ⟨_, ?_, _, y9, spot + 1, wait', way', rfl, rfl, S', hwl, fun j hj q hq => ?_⟩
        · omega
        · by_cases e : j = spot
          · rw [e, show TA.g wait' spot = hre from TA.getD_some 0 hwg'] at hq
            exact hd2 q hq
          · exact hd1 j (by omega) q hq
    · refine ⟨false, b_bl (decide_eq_false (by rw [nl_length]; omega)), iteF ?_⟩
      refine kF H2 way wait S.same S.tk S.mt S.S fun x hx q hq => ?_
      obtain ⟨j, hj, rfl⟩ := TA.mem_getD 0 hx
      exact hdone j (by omega) q hq
end
end Tw
namespace Tw
open PySem PySem.Spec PyProof.Rows L2 TR
open TA (Plc zi Tk look put)
/-- the objects at ps left out -/
def cutL (H : Hp) (ps : List Addr) : Hp := fun c => if c ∈ ps then none else H c
theorem cutL_ne {H : Hp} {ps : List Addr} {c : Addr} (h : c ∉ ps) : cutL H ps c = H c := if_neg h
theorem cutL_same {H : Hp} {ps : List Addr} : Same (cutL H ps) H := fun c o e => by
  unfold cutL at e
  split at e
  · cases e
  · exact e
theorem cutL_in {H : Hp} {ps : List Addr} {c : Addr} (h : c ∈ ps) : cutL H ps c = none := if_pos h
/-- what dealing_of asks of its arguments -/
structure DArgs (C : Addr) (H : Hp) (st b c v : Addr) (n : Nat) (kinds : List (List Nat)) (bs cs ws : List Nat) : Prop where
  st : IsStore C n H st kinds
  b : IsNT H b bs
  c : IsNT H c cs
  v : IsNT H v ws
  F : TA.Fit n kinds bs cs ws
theorem paired_of {α β : Type} {F : α → β → Prop} : ∀ {as : List α} {bs : List β}, as.length = bs.length → (∀ (i : Nat) (a : α) (b : β), as[i]? = some a → bs[i]? = some b → F a b) → Paired F as bs
  | [], [], _, _ => .nil
  | [], _ :: _, h, _ => by simp at h
  | _ :: _, [], h, _ => by simp at h
  | a :: as, b :: bs, h, hf => .cons (hf 0 a b rfl rfl) (paired_of (by simpa using h) fun i x y hx hy => hf (i + 1) x y (by simpa using hx) (by simpa using hy))
theorem paired_map {α β γ : Type} {F : α → β → Prop} {f : γ → α} {h : γ → β} : ∀ {l : List γ}, (∀ x ∈ l, F (f x) (h x)) → Paired F (l.map f) (l.map h)
  | [], _ => .nil
  | x :: l, hl => .cons (hl x List.mem_cons_self) (paired_map fun y hy => hl y (List.mem_cons_of_mem _ hy))
abbrev opensOf (kinds : List (List Nat)) (bs cs ws : List Nat) (i : Nat) : List (List Plc) := (List.range i).map fun p => TA.able (TA.gk kinds p) bs ws
theorem range_map_snoc {α : Type} {f : Nat → α} {i : Nat} : (List.range (i + 1)).map f = (List.range i).map f ++ [f i] := by
  rw [List.range_succ, List.map_append]; rfl
section
variable {P : Program} {w : World} {K : PySem.W.Frag} {mg : Str → Option Value} {base : Heap}
theorem sc_dealing_of : FnScope ["store", "board", "counts", "wished", "pieces", "taken", "open_places", "piece", "met", "found", "place", "position", "many"] ["store", "board", "counts", "wished"] (defScope s_dealing_of) := ⟨rfl, rfl, rfl, by decide +kernel, rfl, by decide +kernel, by decide +kernel⟩
def sp_dealing_of (C : Addr) : Sp := fun vs H Q _ => ∃ (st b c v : Addr) (n : Nat) (kinds : List (List Nat)) (bs cs ws : List Nat), vs = [.ref st, .ref b, .ref c, .ref v] ∧ DArgs C H st b c v n kinds bs cs ws ∧
  (∀ H' p f D, Same H H' → H' p = some (.tup [.ref f, .non]) → IsPls H' f D → TA.IsDeal kinds bs cs ws D → Q (.ref p) H') ∧
  ∀ H' p l lot, Same H H' → H' p = some (.tup [.non, .ref l]) → IsN H' l lot → TA.IsCrowd kinds bs cs ws lot → Q (.ref p) H'
theorem ok_dealing_of (T : Txt K mg) : FnOk P w K mg base CX0 4 T.d_dealing_of.f T.d_dealing_of.fd ["store", "board", "counts", "wished"] (sp_dealing_of T.st.C) := by
  refine T.d_dealing_of.F.ok sc_dealing_of (fun vs H Q E h => ?_) (fun cdv A outer s H vs Q E hr h => ?_)
  · obtain ⟨st, b, c, v, n, kinds, bs, cs, ws, rfl, _⟩ := h
    rfl
  · obtain ⟨st, b, c, v, n, kinds, bs, cs, ws, rfl, Ar, kD, kC⟩ := h
    have F := Ar.F
    have hu := hu_of hr
    have hcl : cs.length ≤ 8 := by have := F.cl; have := F.k3; omega
    have hpl := TA.pieces_length cs
    have hcs := F.csum
    refine ⟨_, (pss_cons (ps_asg (pe_tup (pa_cons (pe_call (ok_pieces_of T) (hr.mono (by decide)) (by rfl) T.d_pieces_of.m T.d_pieces_of.F.kp T.d_pieces_of.b .nil pass0 (pa_cons (pv 2) pa_nil)) (pa_cons pe_dnewT pa_nil))) (pg_tupK (K := K) (n := 2) rfl rfl (pgs_cons (pg_name (i := 4) sc_dealing_of.nd rfl (Or.inr rfl)) (pgs_cons (pg_name (i := 5) sc_dealing_of.nd rfl (Or.inr rfl)) pgs_nil))))
    (pss_cons (ps_setLc (i := 6) (own := [("position", 11)]) rfl sc_dealing_of.nd rfl rfl (sw_true rfl rfl rfl (by decide +kernel)) (pi_range1 (by rfl) T.b_range (pa_cons (pe_callB call_len_seq (by rfl) T.b_len bt_len (pa_cons (pv 2) pa_nil)) pa_nil)) (blkOk_by (own := [("position", 11)]) (N := ["store", "board", "counts", "wished", "pieces", "taken", "open_places", "piece", "met", "found", "place", "position", "many"]) (sc := defScope s_dealing_of) (by decide +kernel)) (fun _ _ _ _ _ => (pg_name (i := 11) sc_dealing_of.nd rfl (Or.inl rfl))) (fun _ _ _ _ _ => pts_nil) (fun _ _ _ _ _ => (pe_call (ok_places_of T) (hr.mono (by decide)) (by rfl) T.d_places_of.m T.d_places_of.F.kp T.d_places_of.b .nil pass0 (pa_cons (pv 0) (pa_cons (pv 1) (pa_cons (pv 3) (pa_cons (pv 11) pa_nil)))))))
    (pss_cons (ps_for PassesOwn.never rfl (pi_range1 (by rfl) T.b_range (pa_cons (pe_callB call_len_seq (by rfl) T.b_len bt_len (pa_cons (pv 4) pa_nil)) pa_nil)) (pg_name (i := 7) sc_dealing_of.nd rfl (Or.inl rfl)) (pss_cons (ps_set (i := 8) sc_dealing_of.nd rfl (Or.inl rfl) pe_dnewT)
    (pss_one (ps_if (pt_not (pt_val (pe_call (ok_placed T) (hr.mono (by decide)) (by rfl) T.d_placed.m T.d_placed.F.kp T.d_placed.b .nil pass0 (pa_cons (pv 7) (pa_cons (pv 4) (pa_cons (pv 6) (pa_cons (pv 5) (pa_cons (pv 8) pa_nil)))))))) (pss_one (ps_ret (pe_tup (pa_cons pe_non (pa_cons (pe_callB (cr_sortedSet rfl) (by rfl) T.b_sorted bt_sorted (pa_cons (pe_callTy (cr_setI rfl) (by rfl) T.b_set bt_set (pa_cons (pe_op op_cat (pe_lst (pa_cons (pe_ix ix_list (pv 4) (pv 7) (fun _ _ => rfl)) pa_nil)) (pe_lock (pe_lc (own := [("place", 10)]) rfl sc_dealing_of.nd (pi_keys (pv 8)) (blkOk_by (own := [("place", 10)]) (N := ["store", "board", "counts", "wished", "pieces", "taken", "open_places", "piece", "met", "found", "place", "position", "many"]) (sc := defScope s_dealing_of) (by decide +kernel)) (fun _ _ _ _ _ => (pg_name (i := 10) sc_dealing_of.nd rfl (Or.inl rfl))) (fun _ _ _ _ _ => pts_nil) (fun _ _ _ _ _ => (pe_ix (ix_listK (K := K) rfl) (pv 4) (pe_dget hu (pv 5) (pv 10) (fun _ _ => rfl)) (fun _ _ => rfl)))))) pa_nil)) pa_nil)) pa_nil))))) pss_nil))))
    (pss_cons (ps_setLc (i := 9) (own := [("many", 12)]) rfl sc_dealing_of.nd rfl rfl (sw_true rfl rfl rfl (by decide +kernel)) (pi_tup (pv 2)) (blkOk_by (own := [("many", 12)]) (N := ["store", "board", "counts", "wished", "pieces", "taken", "open_places", "piece", "met", "found", "place", "position", "many"]) (sc := defScope s_dealing_of) (by decide +kernel)) (fun _ _ _ _ _ => (pg_name (i := 12) sc_dealing_of.nd rfl (Or.inl rfl))) (fun _ _ _ _ _ => pts_nil) (fun _ _ _ _ _ => (pe_lst pa_nil)))
    (pss_cons (ps_for PassesOwn.never rfl (pi_list (pe_callB (cr_sortedDT rfl) (by rfl) T.b_sorted bt_sorted (pa_cons (pv 5) pa_nil))) (pg_name (i := 10) sc_dealing_of.nd rfl (Or.inl rfl)) (pss_one (ps_expr (pe_bm PySem.F.plainAttrs_list PySem.F.slot_list_append PySem.F.type_list_append mt_append (pe_ix ix_list (pv 9) (pe_ix ix_list (pv 4) (pe_dget hu (pv 5) (pv 10) (fun _ _ => rfl)) (fun _ _ => rfl)) (fun _ _ => rfl)) (pa_cons (pv 10) pa_nil)))))
    (pss_one (ps_ret (pe_tup (pa_cons (pv 9) (pa_cons pe_non pa_nil)))))))))), ?_⟩
    refine ⟨_, rfl, c, cs, rfl, Ar.c, hcl, (fun x hx => by have := F.c2 x hx; omega), fun H1 pc s1 hpc0 hpc => ?_⟩
    intro tk htk
    refine ⟨by show 2 ≤ sizeLine; decide, fun tp htp => ?_⟩
    refine ⟨tp, _, rfl, SqT.of upd_same, rfl, _, _, rfl, _, _, rfl, rfl, ?_⟩
    have hB0 : H tk = none := s1.free htk
    have s3 : Same H1 (upd (upd H1 tk (.dT [])) tp (.tup [.ref pc, .ref tk])) := (same_upd htk).trans (same_upd htp)
    have htk3 : IsTk (upd (upd H1 tk (.dT [])) tp (.tup [.ref pc, .ref tk])) tk [] := (same_upd (o := .tup [.ref pc, .ref tk]) htp) _ _ upd_same
    have hpc3 := mN.m s3 hpc
    have s03 := s1.trans s3
    show tSeq _ _ _ _ (upd (upd H1 tk (.dT [])) tp (.tup [.ref pc, .ref tk]))
    generalize upd (upd H1 tk (.dT [])) tp (.tup [.ref pc, .ref tk]) = H3 at s3 htk3 hpc3 s03 ⊢
    refine ⟨_, rfl, c, nl cs, rfl, .inr (SqT.of (s03 _ _ Ar.c)), _, rfl, (by rw [nl_length]; omega), (by rw [nl_length]; omega), fun D hD => ?_⟩
    have L : Lc H3 D ((nl cs).length : Int).toNat (fun i => opensOf kinds bs cs ws i) (RefTo IsPl D) :=
      Lc.refs mPl hD rfl (fun i => by simp) (by rw [Int.toNat_natCast, nl_length]; exact Nat.le_trans hcl (by decide))
    refine lc_gen L walk_range (fun _ _ => trivial) (fun i x H4 H5 hi pi hx => ?_) (fun H4 ys s4 hd hpy => ?_)
    · obtain ⟨rfl, hx⟩ := hx
      have hx : x = vn i := hx.trans (congrArg V.int (Int.zero_add _))
      subst hx
      have hi' := hi
      rw [Int.toNat_natCast, nl_length] at hi
      refine ⟨rfl, ?_⟩
      have s04 := s03.trans pi.same
      refine ⟨_, rfl, _, rfl, _, rfl, _, rfl, st, b, v, n, kinds, bs, cs, ws, i, rfl, mStore.m s04 Ar.st, s04 _ _ Ar.b, s04 _ _ Ar.v, F, (by rw [← F.cl]; exact hi), fun H6 q s6 hq0 hq => ?_⟩
      obtain ⟨acc, hacc, _⟩ := pi.at_
      exact L.put hi' pi s6 range_map_snoc ⟨q, rfl, hq.cut (s6 _ _ hacc) (ne_at hq0 pi.no)⟩
    · obtain ⟨zs, rfl, hzs⟩ := paired_refs mPl hpy
      rw [Int.toNat_natCast, nl_length] at hzs
      have htk4 := mTk.m s4 htk3
      have s04 := s03.trans s4
      have hBop : IsPls (cut H4 tk) D (opensOf kinds bs cs ws cs.length) := pls_cutT htk4 ⟨zs, hd, hzs⟩
      have hBpc : IsN (cut H4 tk) pc (TA.piecesOf cs) := IsN.cutT (mN.m s4 hpc3) htk4
      have sHB : Same H (cut H4 tk) := same_cut s04 hB0
      have hBtk : cut H4 tk tk = none := cut_self
      have sB4 : Same (cut H4 tk) H4 := cut_same
      refine ⟨_, rfl, pc, nl (TA.piecesOf cs), rfl, .inl (SqL.of (sB4 _ _ hBpc)), _, rfl, (by rw [nl_length]; omega), (by rw [nl_length]; omega), ?_⟩
      generalize cut H4 tk = B at *
      have hops : ∀ i, i < (TA.piecesOf cs).length → (opensOf kinds bs cs ws cs.length)[TA.g (TA.piecesOf cs) i]? = some (TA.able (TA.gk kinds (TA.g (TA.piecesOf cs) i)) bs ws) := fun i hi => by
        have := TA.pieces_g_lt hi
        unfold opensOf
        rw [List.getElem?_map, List.getElem?_range this]; rfl
      refine for_it walk_range (fun i σ H' => ∃ (x7 x8 : Option V) (t : Tk), σ = [some (.ref st), some (.ref b), some (.ref c), some (.ref v), some (.ref pc), some (.ref tk), some (.ref D), x7, x8, none, none, none, none] ∧ Same B H' ∧ IsTk H' tk t ∧ TA.Match (fun p => TA.able (TA.gk kinds p) bs ws) (TA.piecesOf cs) i t)
        ⟨none, none, [], rfl, sB4, htk4, ⟨by simp, by simp, fun e he => by simp at he⟩⟩ (fun _ _ _ _ _ => trivial) ?_ ?_
      · rintro i x σ H5 H6 hi ⟨x7, x8, t, rfl, s5, ht5, M⟩ ⟨rfl, hx⟩
        have hx : x = vn i := hx.trans (congrArg V.int (Int.zero_add _))
        subst hx
        rw [Int.toNat_natCast, nl_length] at hi
        intro mt hmt
        have hBmt : B mt = none := s5.free hmt
        have nmt : mt ≠ tk := fun e => by have z : H6 tk = _ := ht5; rw [← e, hmt] at z; cases z
        have s7 : Same B (upd H6 mt (.dT [])) := s5.trans (same_upd hmt)
        have ht7 : IsTk (upd H6 mt (.dT [])) tk t := mTk.m (same_upd hmt) ht5
        have hmt7 : IsMet (upd H6 mt (.dT [])) mt [] := upd_same
        generalize upd H6 mt (.dT []) = H7 at *
        refine ⟨_, rfl, _, rfl, _, rfl, _, rfl, _, rfl, pc, D, tk, mt, _, TA.piecesOf cs, opensOf kinds bs cs ws cs.length, i, t, rfl, nmt, mN.m s7 hBpc, mPls.m s7 hBop, ht7, hmt7, M, hi, by omega, hops, fun H8 t' s8 ht8 M8 => ?_, fun H8 way wait s8 ht8 hm8 S done => ?_⟩
        · refine ⟨true, rfl, iteF ?_⟩
          exact ⟨_, _, t', rfl, (same_cut (same_cut s7 hBtk) hBmt).trans s8, ht8, M8⟩
        · refine ⟨false, rfl, iteT ?_⟩
          have sB8 := (same_cut (same_cut s7 hBtk) hBmt).trans s8
          refine ⟨_, rfl, _, rfl, pc, nl (TA.piecesOf cs), _, _, rfl, rfl, SqL.of (sB8 _ _ hBpc), at_nl hi, by show 1 ≤ sizeLine; decide, fun l1 hl1 => ?_⟩
          have s9 : Same B (upd H8 l1 (.lst [vn (TA.g (TA.piecesOf cs) i)])) := sB8.trans (same_upd hl1)
          have hm9 : IsMet (upd H8 l1 (.lst [vn (TA.g (TA.piecesOf cs) i)])) mt (way.map (·.1)) := same_upd hl1 _ _ hm8
          have ht9 : IsTk (upd H8 l1 (.lst [vn (TA.g (TA.piecesOf cs) i)])) tk t := mTk.m (same_upd hl1) ht8
          have hl9 : upd H8 l1 (.lst [vn (TA.g (TA.piecesOf cs) i)]) l1 = some (.lst (nl [TA.g (TA.piecesOf cs) i])) := upd_same
          generalize upd H8 l1 (.lst [vn (TA.g (TA.piecesOf cs) i)]) = H9 at s9 hm9 ht9 hl9 ⊢
          refine ⟨mt, _, hm9, True.intro, fun od => ?_⟩
          have nl1 : l1 ≠ mt := fun e => by have z : H9 mt = _ := hm9; rw [← e, hl9] at z; cases z
          have s10 : Same B (upd H9 mt (.frz od (.dT (kvM (way.map (·.1)))))) := same_mut s9 hBmt
          have ht10 : IsTk (upd H9 mt (.frz od (.dT (kvM (way.map (·.1)))))) tk t := (upd_ne (Ne.symm nmt)).trans ht9
          have hl10 : upd H9 mt (.frz od (.dT (kvM (way.map (·.1))))) l1 = some (.lst (nl [TA.g (TA.piecesOf cs) i])) := (upd_ne nl1).trans hl9
          have hm10 : upd H9 mt (.frz od (.dT (kvM (way.map (·.1))))) mt = some (.frz od (.dT (kvM (way.map (·.1))))) := upd_same
          refine ⟨_, rfl, mt, od, rfl, .inr ⟨_, hm10, fun D2 hD2 => ?_⟩⟩
          generalize upd H9 mt (.frz od (.dT (kvM (way.map (·.1))))) = HL at s10 ht10 hl10 hm10 hD2 ⊢
          have hwl := S.length
          have htl := match_len M
          have hkl : (kvM (way.map (·.1))).length = way.length := by unfold kvM; rw [List.length_map, List.length_map]
          have L2 : Lc HL D2 (kvM (way.map (·.1))).length (fun i => (way.take i).map fun e => TA.g (TA.piecesOf cs) (TA.lk t e.1)) (fun y b _ => y = vn b) :=
            ⟨hD2, rfl, (fun i => by rw [List.length_map, List.length_take]; exact Nat.min_le_left _ _), by rw [hkl]; exact small64 (by omega), fun _ _ _ _ h _ => h⟩
          refine lc_gen L2 walk_keysT (fun H2 s2 => s2 _ _ hm10) (fun j x H11 H12 hj pj hx => ?_) (fun H11 ys s11 hd2 hp2 => ?_)
          · obtain ⟨rfl, key, v, q, hkq, rfl, hq⟩ := hx
            have hj2 := hj
            rw [hkl] at hj
            have hwj : way[j]? = some way[j] := List.getElem?_eq_getElem hj
            unfold kvM at hkq
            rw [List.getElem?_map, List.getElem?_map, hwj] at hkq
            obtain ⟨rfl, rfl⟩ := Prod.mk.inj (Option.some.inj hkq)
            generalize way[j] = e at hwj hkq hq
            have hew : e ∈ way := List.mem_of_getElem? hwj
            obtain ⟨u, hlk, hlm⟩ := TA.look_key (S.inT e hew)
            have hu5 : u < i := List.mem_range.mp (M.vals.mem_iff.mp (List.mem_map.mpr ⟨_, hlm, rfl⟩))
            have hg : DGet H12 tk (.ref q) (some (vn u)) := by
              have := DGet.t (k := keyOf e.1) (mTk.m pj.same ht10) hq
              rw [val_kvT, hlk] at this
              exact this
            refine ⟨rfl, ?_⟩
            refine ⟨_, rfl, _, rfl, _, rfl, tk, _, rfl, hg, pc, nl (TA.piecesOf cs), _, _, rfl, rfl, SqL.of (s10.trans pj.same _ _ hBpc), at_nl (by omega), ?_⟩
            exact L2.put hj2 pj (Same.refl _) (take_snoc hwj) (by show _ = vn (TA.g _ (TA.lk t e.1)); rw [TA.lk_of hlk])
          · rw [paired_vn hp2, hkl, List.take_length] at hd2
            have hm11 := s11 _ _ hm10
            refine ⟨hm11, ?_⟩
            have nD2 : D2 ≠ mt := fun e => by rw [e, hm10] at hD2; cases hD2
            have s12 : Same B (upd H11 mt (.dT (kvM (way.map (·.1))))) := same_mut (s10.trans s11) hBmt
            have hl12 : upd H11 mt (.dT (kvM (way.map (·.1)))) l1 = some (.lst (nl [TA.g (TA.piecesOf cs) i])) := (upd_ne nl1).trans (s11 _ _ hl10)
            have hd12 := (upd_ne (H := H11) (o := .dT (kvM (way.map (·.1)))) nD2).trans hd2
            refine ⟨l1, D2, _, _, rfl, rfl, hl12, hd12, ?_, fun l3 hl3 => ?_⟩
            · rw [nl_length, nl_length, List.length_map]; exact Nat.le_trans (show _ ≤ 63 by simp; omega) (by decide)
            have hlot : ∀ p, p ∈ TA.g (TA.piecesOf cs) i :: (way.map fun e => TA.g (TA.piecesOf cs) (TA.lk t e.1)) ↔ p ∈ wait.map (TA.g (TA.piecesOf cs)) := fun p => by
              rw [S.wait, List.map_cons, List.map_map]; rfl
            have e3 : nl [TA.g (TA.piecesOf cs) i] ++ nl (way.map fun e => TA.g (TA.piecesOf cs) (TA.lk t e.1)) = nl (TA.g (TA.piecesOf cs) i :: (way.map fun e => TA.g (TA.piecesOf cs) (TA.lk t e.1))) := rfl
            rw [e3]
            have hll : (way.map fun e => TA.g (TA.piecesOf cs) (TA.lk t e.1)).length = way.length := List.length_map ..
            generalize hlx : TA.g (TA.piecesOf cs) i :: (way.map fun e => TA.g (TA.piecesOf cs) (TA.lk t e.1)) = lx at hlot ⊢
            have hxl : lx.length < 60 := by rw [← hlx, List.length_cons, hll]; omega
            have s13 := s12.trans (same_upd (o := .lst (nl lx)) hl3)
            refine ⟨l3, zi lx, rfl, .inl (SqL.of upd_same), (by rw [zi_length]; omega), fun p c hc hp => ?_⟩
            refine ⟨p, _, c, rfl, upd_same, (by rw [zi_length] at hc; omega), fun ns l hns hm _ hl => ?_⟩
            obtain ⟨lot, rfl, hinc, hmem⟩ := set_of hns hm
            refine ⟨by show 2 ≤ sizeLine; decide, fun r hr => ?_⟩
            have s14 := (((s13.trans (same_upd hp)).trans (same_upd (o := .lst ((zi lot).map V.int)) hl)).trans (same_upd (o := .tup [.non, .ref l]) hr))
            refine kC _ r l lot (sHB.trans s14) upd_same (same_upd hr _ _ upd_same) ?_
            exact TA.crowd_of M hi S done hinc fun p => (hmem p).trans (hlot p)
      · rintro σ H5 ⟨x7, x8, t, rfl, s5, ht5, M⟩
        rw [Int.toNat_natCast, nl_length] at M
        have htl := match_len M
        have hnt := M.nd
        refine ⟨_, rfl, c, rfl, ⟨_, SqT.of ((sHB.trans s5) _ _ Ar.c)⟩, fun f hf => ?_⟩
        refine lc_it walk_tup (fun i H' => Same H5 H' ∧ ∃ ps : List Addr, H' f = some (.lst (ps.map V.ref)) ∧ ps.length = i ∧ ps.Nodup ∧ f ∉ ps ∧ (∀ p ∈ ps, H' p = some (.lst [])) ∧ ∀ p ∈ ps, H5 p = none)
          ⟨same_upd hf, [], upd_same, rfl, .nil, by simp, fun _ h => by simp at h, fun _ h => by simp at h⟩ (fun i H' _ ⟨s6, _⟩ => SqT.of ((sHB.trans (s5.trans s6)) _ _ Ar.c)) ?_ ?_
        · rintro i x H6 H7 hi ⟨s6, ps, hps, hpl', hpn, hpf, hpe, hp5⟩ ⟨rfl, hx⟩
          refine ⟨rfl, ?_⟩
          refine ⟨by show 0 ≤ sizeLine; decide, fun q hq => ?_⟩
          have nqf : q ≠ f := fun e => by rw [e, hps] at hq; cases hq
          have hq5 : H5 q = none := s6.free hq
          have hqp : q ∉ ps := fun h => by rw [hpe q h] at hq; cases hq
          refine ⟨_, (upd_ne (Ne.symm nqf)).trans hps, ?_, fun c o e => ?_, ps ++ [q], ?_, ?_, ?_, ?_, fun p hp => ?_, fun p hp => ?_⟩
          · rw [nl_length] at hi
            rw [List.length_map, hpl']; exact Nat.lt_of_lt_of_le (show i < 63 by omega) (by decide)
          · have e6 := s6 _ _ e
            rw [upd_ne (ne_of_none e hf), upd_ne (ne_of_none e hq5)]; exact e6
          · rw [upd_same, List.map_append]; rfl
          · rw [List.length_append, hpl']; rfl
          · exact List.nodup_append.mpr ⟨hpn, by simp, fun a ha b hb e => by
              have : b = q := by simpa using hb
              rw [e, this] at ha; exact hqp ha⟩
          · intro h
            rcases List.mem_append.mp h with h | h
            · exact hpf h
            · exact nqf (by simpa using Eq.symm (a := f) (b := q) (by simpa using h))
          · rcases List.mem_append.mp hp with h | h
            · rw [upd_ne (fun e => hpf (by rw [← e]; exact h)), upd_ne (fun e => hqp (by rw [← e]; exact h))]; exact hpe p h
            · have : p = q := by simpa using h
              rw [this, upd_ne nqf]; exact upd_same
          · rcases List.mem_append.mp hp with h | h
            · exact hp5 p h
            · have : p = q := by simpa using h
              rw [this]; exact hq5
        · rintro H6 ⟨s6, ps, hps, hpl', hpn, hpf, hpe, hp5⟩
          rw [nl_length] at hpl'
          have ht6 := mTk.m s6 ht5
          refine ⟨_, rfl, tk, kvT t, t.map (·.1), rfl, ht6, ?_, ?_, ?_, fun ls sl hperm hls hsl => ?_⟩
          · unfold kvT; rw [List.map_map, List.map_map]; rfl
          · rw [List.length_map]; omega
          · intro q hq
            obtain ⟨e, he, rfl⟩ := List.mem_map.mp hq
            have hA := M.ok e he
            have hv : e.2 < (TA.piecesOf cs).length := List.mem_range.mp (M.vals.mem_iff.mp (List.mem_map.mpr ⟨_, he, rfl⟩))
            have hkm := TA.getD_mem [] (show TA.g (TA.piecesOf cs) e.2 < kinds.length by rw [← F.cl]; exact TA.pieces_g_lt hv)
            obtain ⟨a1, _, a3, _⟩ := TA.mem_able.mp hA
            have := F.lt _ hkm _ a1
            have := F.n4
            have := F.wle e.1.1
            exact ⟨by omega, by omega⟩
          have s7 : Same H6 (upd H6 sl (.lst (ls.map fun x => V.ref x.1))) := same_upd hsl
          have hsl7 : upd H6 sl (.lst (ls.map fun x => V.ref x.1)) sl = some (.lst (ls.map fun x => V.ref x.1)) := upd_same
          have hslp : sl ∉ ps := fun h => by rw [hpe _ h] at hsl; cases hsl
          generalize upd H6 sl (.lst (ls.map fun x => V.ref x.1)) = H7 at s7 hsl7 ⊢
          have sB2 : Same H5 (cutL H7 ps) := fun c o e => by
            rw [cutL_ne fun h => by rw [hp5 c h] at e; cases e]
            exact s7 _ _ (s6 _ _ e)
          have hsl2 : cutL H7 ps sl = some (.lst (ls.map fun x => V.ref x.1)) := (cutL_ne hslp).trans hsl7
          have hf2 : cutL H7 ps f = some (.lst (ps.map V.ref)) := (cutL_ne hpf).trans (s7 _ _ hps)
          have hls2 : ∀ x ∈ ls, cutL H7 ps x.1 = some (.tup (vp x.2)) := fun x hx => by
            rw [cutL_ne fun h => by have := hpe _ h; rw [hls x hx] at this; cases this]
            exact s7 _ _ (hls x hx)
          have hin2 : ∀ p ∈ ps, cutL H7 ps p = none := fun p h => cutL_in h
          have hpe7 : ∀ p ∈ ps, H7 p = some (.lst []) := fun p h => s7 _ _ (hpe p h)
          have sC : Same (cutL H7 ps) H7 := cutL_same
          refine ⟨sl, rfl, ⟨_, SqL.of hsl7⟩, ?_⟩
          generalize cutL H7 ps = B2 at *
          refine for_it walk_list (fun i σ H' => ∃ (x10 : Option V), σ = [some (.ref st), some (.ref b), some (.ref c), some (.ref v), some (.ref pc), some (.ref tk), some (.ref D), x7, x8, some (.ref f), x10, none, none] ∧ Same B2 H' ∧
              ∀ (j : Nat) (q : Addr), ps[j]? = some q → H' q = some (.lst (((ls.take i).filter fun x => decide (TA.g (TA.piecesOf cs) (TA.lk t x.2) = j)).map fun x => V.ref x.1)))
            ⟨none, rfl, sC, fun j q h => hpe7 q (List.mem_of_getElem? h)⟩ (fun i σ H' _ ⟨_, _, s8, _⟩ => SqL.of (s8 _ _ hsl2)) ?_ ?_
          · rintro i x σ H8 H9 hi ⟨x10, rfl, s8, hrow⟩ ⟨rfl, hx⟩
            have hil : i < ls.length := by rw [List.length_map] at hi; exact hi
            have hxi : ls[i]? = some ls[i] := List.getElem?_eq_getElem hil
            rw [List.getElem?_map, hxi] at hx
            obtain rfl := (Option.some.inj hx).symm
            generalize ls[i] = e at hxi
            have hem : e ∈ ls := List.mem_of_getElem? hxi
            have hek : e.2 ∈ t.map (·.1) := hperm.mem_iff.mp (List.mem_map.mpr ⟨e, hem, rfl⟩)
            obtain ⟨u, hlk, hlm⟩ := TA.look_key hek
            have hul : u < (TA.piecesOf cs).length := List.mem_range.mp (M.vals.mem_iff.mp (List.mem_map.mpr ⟨_, hlm, rfl⟩))
            have hgl : TA.g (TA.piecesOf cs) u < ps.length := by rw [hpl']; exact TA.pieces_g_lt hul
            have hlkv : TA.lk t e.2 = u := TA.lk_of hlk
            have hpj : ps[TA.g (TA.piecesOf cs) u]? = some (ps[TA.g (TA.piecesOf cs) u]'hgl) := List.getElem?_eq_getElem hgl
            have hg : DGet H9 tk (.ref e.1) (some (vn u)) := by
              have := DGet.t (k := keyOf e.2) (mTk.m (sB2.trans s8) ht5) (s8 _ _ (hls2 e hem))
              rw [val_kvT, hlk] at this
              exact this
            generalize ps[TA.g (TA.piecesOf cs) u]'hgl = r at hpj
            have hrp : r ∈ ps := List.mem_of_getElem? hpj
            have hrr := hrow _ _ hpj
            refine ⟨_, rfl, _, rfl, _, rfl, _, rfl, tk, _, rfl, hg, pc, nl (TA.piecesOf cs), _, _, rfl, rfl, SqL.of ((s5.trans (sB2.trans s8)) _ _ hBpc), at_nl hul, f, _, _, _, rfl, rfl, SqL.of (s8 _ _ hf2), atI_nat (refs_get hpj), .inl ⟨rfl, _, SqL.of hrr⟩, ?_⟩
            refine ⟨_, rfl, r, _, _, rfl, rfl, hrr, ?_, ?_⟩
            · rw [List.length_map]
              have hl63 : i ≤ 63 := by
                have := hperm.length_eq
                rw [List.length_map, List.length_map] at this
                omega
              refine Nat.lt_of_le_of_lt (m := 63) (Nat.le_trans (List.length_filter_le _ _) (Nat.le_trans (List.length_take_le _ _) hl63)) (by decide)
            · refine ⟨_, rfl, same_mut s8 (hin2 r hrp), fun j q hj => ?_⟩
              rw [take_snoc' hxi]
              by_cases ej : j = TA.g (TA.piecesOf cs) u
              · subst ej
                obtain rfl : r = q := Option.some.inj (hpj.symm.trans hj)
                rw [filter_put (by show decide (TA.g _ (TA.lk t e.2) = _) = true; rw [hlkv]; exact decide_eq_true rfl), List.map_append]
                exact upd_same
              · have nqr : q ≠ r := fun z => by
                  rw [z] at hj
                  have h1 := (List.getElem?_eq_some_iff.mp hj)
                  have h2 := (List.getElem?_eq_some_iff.mp hpj)
                  obtain ⟨a1, a2⟩ := h1
                  obtain ⟨b1, b2⟩ := h2
                  rcases Nat.lt_or_gt_of_ne ej with lt | lt
                  · exact List.pairwise_iff_getElem.mp hpn _ _ a1 b1 lt (a2.trans b2.symm)
                  · exact List.pairwise_iff_getElem.mp hpn _ _ b1 a1 lt (b2.trans a2.symm)
                rw [filter_skip (by show decide (TA.g _ (TA.lk t e.2) = _) = false; rw [hlkv]; exact decide_eq_false (Ne.symm ej))]
                exact (upd_ne nqr).trans (hrow j q hj)
          · rintro σ H8 ⟨x10, rfl, s8, hrow⟩
            rw [List.length_map] at hrow
            refine ⟨_, rfl, by show 2 ≤ sizeLine; decide, fun r hr => ?_⟩
            have s9 : Same H8 (upd H8 r (.tup [.ref f, .non])) := same_upd hr
            have hpls : IsPls H8 f (TA.dealtOf cs t (ls.map (·.2))) := by
              refine ⟨ps, s8 _ _ hf2, paired_of (by unfold TA.dealtOf; rw [List.length_map, List.length_range]; exact hpl') fun j q D' hj hD' => ?_⟩
              have h1 := hrow j q hj
              rw [List.take_length] at h1
              unfold TA.dealtOf at hD'
              rw [List.getElem?_map] at hD'
              have hjl := (List.getElem?_eq_some_iff.mp hj).1
              rw [List.getElem?_range (by rw [← hpl']; exact hjl)] at hD'
              obtain rfl := Option.some.inj hD'
              refine ⟨(ls.filter fun x => decide (TA.g (TA.piecesOf cs) (TA.lk t x.2) = j)).map (·.1), ?_, ?_⟩
              · rw [h1, List.map_map]; rfl
              · show Paired (IsQ H8) _ ((ls.map (·.2)).filter fun q => decide (TA.g (TA.piecesOf cs) (TA.lk t q) = j))
                rw [List.filter_map]
                exact paired_map fun x hx => s8 _ _ (hls2 x (List.mem_filter.mp hx).1)
            have sH8 : Same H H8 := sHB.trans (s5.trans (sB2.trans s8))
            exact kD _ r f _ (sH8.trans s9) upd_same (mPls.m s9 hpls) (TA.deal_of M hperm)
end
end Tw
namespace Tw
open PySem PySem.Spec PyProof.Rows L2 TR
open TA (Plc zi)
/-! ### data of ints, lists and tuples -/
mutual
def plain : PyData → Bool
  | .int _ => true
  | .list xs => plainAll xs
  | .tuple xs => plainAll xs
  | _ => false
def plainAll : List PyData → Bool
  | [] => true
  | x :: xs => plain x && plainAll xs
end
mutual
theorem eqv_same : ∀ d e : PyData, plain d = true → plain e = true → (PyData.eqv d e = true ↔ d = e)
  | .int i, .int j, _, _ => by simp only [PyData.eqv, beq_iff_eq, PyData.int.injEq]
  | .list xs, .list ys, h1, h2 => by
    simp only [plain] at h1 h2
    simp only [PyData.eqv, PyData.list.injEq]
    exact eqv_same_all xs ys h1 h2
  | .tuple xs, .tuple ys, h1, h2 => by
    simp only [plain] at h1 h2
    simp only [PyData.eqv, PyData.tuple.injEq]
    exact eqv_same_all xs ys h1 h2
  | .int _, .list _, _, _ => by simp [PyData.eqv]
  | .int _, .tuple _, _, _ => by simp [PyData.eqv]
  | .list _, .int _, _, _ => by simp [PyData.eqv]
  | .list _, .tuple _, _, _ => by simp [PyData.eqv]
  | .tuple _, .int _, _, _ => by simp [PyData.eqv]
  | .tuple _, .list _, _, _ => by simp [PyData.eqv]
  | .none, _, h, _ => by simp [plain] at h
  | .bool _, _, h, _ => by simp [plain] at h
  | .str _, _, h, _ => by simp [plain] at h
  | .dict _, _, h, _ => by simp [plain] at h
  | _, .none, _, h => by simp [plain] at h
  | _, .bool _, _, h => by simp [plain] at h
  | _, .str _, _, h => by simp [plain] at h
  | _, .dict _, _, h => by simp [plain] at h
theorem eqv_same_all : ∀ xs ys : List PyData, plainAll xs = true → plainAll ys = true → (PyData.eqvAll xs ys = true ↔ xs = ys)
  | [], [], _, _ => by simp [PyData.eqvAll]
  | [], _ :: _, _, _ => by simp [PyData.eqvAll]
  | _ :: _, [], _, _ => by simp [PyData.eqvAll]
  | x :: xs, y :: ys, h1, h2 => by
    simp only [plainAll, Bool.and_eq_true] at h1 h2
    simp only [PyData.eqvAll, Bool.and_eq_true, List.cons.injEq]
    rw [eqv_same x y h1.1 h2.1, eqv_same_all xs ys h1.2 h2.2]
end
mutual
theorem plain_lay : ∀ d : PyData, plain d = true → d.canLay0 = true
  | .int _, _ => by simp only [PyData.canLay0]
  | .list xs, h => by
    simp only [PyData.canLay0]
    exact plain_lay_all xs (by simpa [plain] using h)
  | .tuple xs, h => by
    simp only [PyData.canLay0]
    exact plain_lay_all xs (by simpa [plain] using h)
  | .none, h => by simp [plain] at h
  | .bool _, h => by simp [plain] at h
  | .str _, h => by simp [plain] at h
  | .dict _, h => by simp [plain] at h
theorem plain_lay_all : ∀ xs : List PyData, plainAll xs = true → PyData.canLayAll0 xs = true
  | [], _ => by simp only [PyData.canLayAll0]
  | x :: xs, h => by
    have h' : plain x = true ∧ plainAll xs = true := by simpa [plainAll] using h
    simp only [PyData.canLayAll0, plain_lay x h'.1, plain_lay_all xs h'.2, Bool.and_self]
end
/-- an encoding: data of a kind, with no two alike -/
structure Enc (α : Type) where
  f : α → PyData
  dep : Nat
  pl : ∀ a, plain (f a) = true
  inj : ∀ a b, f a = f b → a = b
  dp : ∀ a, (f a).depth ≤ dep
theorem plain_map {α : Type} {f : α → PyData} (h : ∀ a, plain (f a) = true) : ∀ l : List α, plainAll (l.map f) = true
  | [] => by simp [plainAll]
  | x :: l => by simp only [List.map_cons, plainAll, h x, plain_map h l, Bool.and_self]
theorem depth_map {α : Type} {f : α → PyData} {k : Nat} (h : ∀ a, (f a).depth ≤ k) : ∀ l : List α, PyData.depthAll (l.map f) ≤ k
  | [] => by simp [PyData.depthAll]
  | x :: l => by
    simp only [List.map_cons, PyData.depthAll]
    exact Nat.max_le.mpr ⟨h x, depth_map h l⟩
theorem map_inj {α : Type} {f : α → PyData} (h : ∀ a b, f a = f b → a = b) : ∀ {l m : List α}, l.map f = m.map f → l = m
  | [], [], _ => rfl
  | [], _ :: _, e => by simp at e
  | _ :: _, [], e => by simp at e
  | x :: l, y :: m, e => by
    rw [List.map_cons, List.map_cons] at e
    injection e with e1 e2
    rw [h x y e1, map_inj h e2]
def Enc.nat : Enc Nat := ⟨fun n => .int (n : Int), 0, fun _ => by simp [plain], fun a b e => by injection e with e; omega, fun _ => by simp [PyData.depth]⟩
def Enc.list {α : Type} (E : Enc α) : Enc (List α) := ⟨fun l => .list (l.map E.f), E.dep + 1, fun l => by simp only [plain]; exact plain_map E.pl l, fun a b e => by injection e with e; exact map_inj E.inj e, fun l => by simp only [PyData.depth]; exact Nat.succ_le_succ (depth_map E.dp l)⟩
def Enc.tuple {α : Type} (E : Enc α) : Enc (List α) := ⟨fun l => .tuple (l.map E.f), E.dep + 1, fun l => by simp only [plain]; exact plain_map E.pl l, fun a b e => by injection e with e; exact map_inj E.inj e, fun l => by simp only [PyData.depth]; exact Nat.succ_le_succ (depth_map E.dp l)⟩
def Enc.pair {α β : Type} (E : Enc α) (G : Enc β) : Enc (α × β) := ⟨fun x => .tuple [E.f x.1, G.f x.2], max E.dep G.dep + 1, fun x => by simp only [plain, plainAll, E.pl, G.pl, Bool.and_self], fun a b e => by
    injection e with e
    injection e with e1 e2
    injection e2 with e2 _
    exact Prod.ext (E.inj _ _ e1) (G.inj _ _ e2), fun x => by
    simp only [PyData.depth, PyData.depthAll]
    have := E.dp x.1
    have := G.dp x.2
    omega⟩
theorem Enc.shaped {α : Type} (E : Enc α) (h : E.dep ≤ 64) (a : α) : SeqAt.shaped (E.f a) = true := by
  unfold SeqAt.shaped
  rw [plain_lay _ (E.pl a), Bool.true_and]
  exact decide_eq_true (Nat.le_trans (E.dp a) h)
theorem Enc.anyT {α : Type} (E : Enc α) {l : List α} {a : α} (h : a ∈ l) : ((l.map E.f).any fun z => PyData.eqv z (E.f a)) = true := by
  rw [List.any_map, List.any_eq_true]
  exact ⟨a, h, (eqv_same _ _ (E.pl a) (E.pl a)).mpr rfl⟩
theorem Enc.anyF {α : Type} (E : Enc α) {l : List α} {a : α} (h : a ∉ l) : ((l.map E.f).any fun z => PyData.eqv z (E.f a)) = false := by
  rw [List.any_map, List.any_eq_false]
  intro x hx z
  have := E.inj _ _ ((eqv_same _ _ (E.pl x) (E.pl a)).mp z)
  rw [this] at hx
  exact h hx
theorem Enc.eqvT {α : Type} (E : Enc α) {a b : α} (h : a = b) : PyData.eqv (E.f a) (E.f b) = true := (eqv_same _ _ (E.pl a) (E.pl b)).mpr (by rw [h])
theorem Enc.eqvF {α : Type} (E : Enc α) {a b : α} (h : a ≠ b) : PyData.eqv (E.f a) (E.f b) = false := by
  cases z : PyData.eqv (E.f a) (E.f b) with
  | false => rfl
  | true => exact absurd (E.inj _ _ ((eqv_same _ _ (E.pl a) (E.pl b)).mp z)) h
abbrev eN : Enc (List Nat) := Enc.nat.list
abbrev eNT : Enc (List Nat) := Enc.nat.tuple
abbrev eQ : Enc Plc := Enc.nat.pair Enc.nat
abbrev ePl : Enc (List Plc) := eQ.list
abbrev eRows : Enc (List (List Nat)) := eN.list
abbrev eSt : Enc (List Nat × List Nat) := eN.pair eN
abbrev eSts : Enc (List (List Nat × List Nat)) := eSt.list
section
variable {K : PySem.W.Frag} {H : Hp}
theorem dpAll_nl : ∀ xs : List Nat, DpAll K H (nl xs) (xs.map Enc.nat.f)
  | [] => .nil
  | n :: r => .cons (.int _) (dpAll_nl r)
theorem dp_n {p : Addr} {xs : List Nat} (h : IsN H p xs) : Dp K H (.ref p) (eN.f xs) := .lst (SqL.of h) (dpAll_nl xs)
theorem dp_nt {p : Addr} {xs : List Nat} (h : IsNT H p xs) : Dp K H (.ref p) (eNT.f xs) := .tup (SqT.of h) (dpAll_nl xs)
theorem dp_q {p : Addr} {q : Plc} (h : IsQ H p q) : Dp K H (.ref p) (eQ.f q) := .tup (SqT.of h) (.cons (.int _) (.cons (.int _) .nil))
theorem dpAll_of {α : Type} {Rel : Hp → Addr → α → Prop} {E : Enc α} (hd : ∀ {p a}, Rel H p a → Dp K H (.ref p) (E.f a)) : ∀ {ps : List Addr} {as : List α}, Paired (Rel H) ps as → DpAll K H (ps.map V.ref) (as.map E.f)
  | _, _, .nil => .nil
  | _, _, .cons r t => .cons (hd r) (dpAll_of hd t)
theorem dp_of {α : Type} {Rel : Hp → Addr → α → Prop} {E : Enc α} (hd : ∀ {p a}, Rel H p a → Dp K H (.ref p) (E.f a)) {p : Addr} {as : List α} (h : IsOf Rel H p as) : Dp K H (.ref p) (E.list.f as) :=
  let ⟨_, h1, h2⟩ := h
  .lst (SqL.of h1) (dpAll_of hd h2)
theorem dp_pl {p : Addr} {as : List Plc} (h : IsPl H p as) : Dp K H (.ref p) (ePl.f as) := dp_of (E := eQ) dp_q h
theorem dp_rows {p : Addr} {as : List (List Nat)} (h : IsRows H p as) : Dp K H (.ref p) (eRows.f as) := dp_of (E := eN) dp_n h
end
section
variable {P : Program} {w : World} {K : PySem.W.Frag} {mg : Str → Option Value} {base : Heap}
theorem sc_is_place : FnScope ["value"] ["value"] (defScope s_is_place) := ⟨rfl, rfl, rfl, by decide +kernel, rfl, by decide +kernel, by decide +kernel⟩
def sp_is_place : Sp := fun vs H Q _ => ∃ (a : Addr) (q : Plc), vs = [.ref a] ∧ IsQ H a q ∧ Q (.bl true) H
theorem ok_is_place (T : Txt K mg) : FnOk P w K mg base CX0 2 T.d_is_place.f T.d_is_place.fd ["value"] sp_is_place := by
  refine T.d_is_place.F.ok sc_is_place (fun vs H Q E h => ?_) (fun cdv A outer s H vs Q E hr h => ?_)
  · obtain ⟨a, q, rfl, _⟩ := h
    rfl
  · obtain ⟨a, q, rfl, ha, k⟩ := h
    refine ⟨_, (pss_one (ps_ret (pe_and (pe_callB call_isi (by rfl) T.b_isinstance bt_isinstance (pa_cons (pv 0) (pa_cons (pe_bltn (v := .ty "tuple") (by rfl) T.b_tuple bt_tuple rfl) pa_nil))) (pe_and (pe_cmpR op_eq (pe_callB call_len_seq (by rfl) T.b_len bt_len (pa_cons (pv 0) pa_nil)) pe_int (nomark _)) (pe_and (pe_call (ok_is_integer T) (hr.mono (by decide)) (by rfl) T.d_is_integer.m T.d_is_integer.F.kp T.d_is_integer.b .nil pass0 (pa_cons (pe_ix ix_tup (pv 0) pe_int (fun _ _ => rfl)) pa_nil)) (pe_one (pe_call (ok_is_integer T) (hr.mono (by decide)) (by rfl) T.d_is_integer.m T.d_is_integer.F.kp T.d_is_integer.b .nil pass0 (pa_cons (pe_ix ix_tup (pv 0) pe_int (fun _ _ => rfl)) pa_nil)))))))), ?_⟩
    refine ⟨_, rfl, _, _, _, _, true, rfl, .ty _, .base (.tup ha), kit_ty (by decide +kernel), true, rfl, iteT ?_⟩
    refine ⟨_, rfl, a, vp q, rfl, .inr (SqT.of ha), rfl, true, b_bl (decide_eq_true rfl), iteT ?_⟩
    refine ⟨_, rfl, a, vp q, _, _, rfl, rfl, SqT.of ha, rfl, _, rfl, true, rfl, iteT ?_⟩
    exact ⟨_, rfl, a, vp q, _, _, rfl, rfl, SqT.of ha, rfl, _, rfl, k⟩
theorem sc_are_places : FnScope ["value", "open_places", "many", "one"] ["value", "open_places", "many"] (defScope s_are_places) := ⟨rfl, rfl, rfl, by decide +kernel, rfl, by decide +kernel, by decide +kernel⟩
def sp_are_places : Sp := fun vs H Q _ => ∃ (a o : Addr) (m : Nat) (xs ys : List Plc), vs = [.ref a, .ref o, vn m] ∧ IsPl H a xs ∧ IsPl H o ys ∧ xs.length = m ∧ m ≤ 60 ∧ (∀ x ∈ xs, x ∈ ys) ∧ ∀ H', Same H H' → Q (.bl true) H'
theorem ok_are_places (T : Txt K mg) : FnOk P w K mg base CX0 3 T.d_are_places.f T.d_are_places.fd ["value", "open_places", "many"] sp_are_places := by
  refine T.d_are_places.F.ok sc_are_places (fun vs H Q E h => ?_) (fun cdv A outer s H vs Q E hr h => ?_)
  · obtain ⟨a, o, m, xs, ys, rfl, _⟩ := h
    rfl
  · obtain ⟨a, o, m, xs, ys, rfl, ha, ho, hm, h60, hin, k⟩ := h
    refine ⟨_, (pss_cons (ps_if (PW.pt (pw_or (pt_not (pt_val (pe_call (ok_is_list T) (hr.mono (by decide)) (by rfl) T.d_is_list.m T.d_is_list.F.kp T.d_is_list.b .nil pass0 (pa_cons (pv 0) pa_nil)))) (pw_or1 (pt_cmpR op_ne (pe_callB call_len_seq (by rfl) T.b_len bt_len (pa_cons (pv 0) pa_nil)) (pv 2) (nomark _))))) (pss_one (ps_ret pe_bl)) pss_nil)
    (pss_one (ps_ret (pe_callB (cr_all rfl) (by rfl) T.b_all bt_all (pa_cons (pe_lc (own := [("one", 3)]) rfl sc_are_places.nd (pi_list (pv 0)) (blkOk_by (own := [("one", 3)]) (N := ["value", "open_places", "many", "one"]) (sc := defScope s_are_places) (by decide +kernel)) (fun _ _ _ _ _ => (pg_name (i := 3) sc_are_places.nd rfl (Or.inl rfl))) (fun _ _ _ _ _ => pts_nil) (fun _ _ _ _ _ => (pe_and (pe_call (ok_is_place T) (hr.mono (by decide)) (by rfl) T.d_is_place.m T.d_is_place.F.kp T.d_is_place.b .nil pass0 (pa_cons (pv 3) pa_nil)) (pe_one (pe_cmpR (op_inDK (K := K) rfl (hu65 hr)) (pv 3) (pv 1) (by rfl)))))) pa_nil))))), ?_⟩
    obtain ⟨ps, ha1, ha2⟩ := id ha
    have hpl := ha2.length
    refine ⟨_, rfl, a, _, rfl, .inl ha1, fun H1 s1 => ⟨true, rfl, ?_⟩⟩
    refine iteF ⟨_, rfl, a, _, rfl, .inl (SqL.of (s1 _ _ ha1)), _, rfl, rfl, false, nbl (decide_eq_true (v_int (by rw [List.length_map, hpl, hm]))), iteF ?_⟩
    refine ⟨_, rfl, a, rfl, ⟨_, SqL.of (s1 _ _ ha1)⟩, fun D hD => ?_⟩
    have L : Lc H1 D (ps.map V.ref).length (fun i => List.replicate i true) (fun y b _ => y = V.bl b) := ⟨hD, rfl, fun i => by simp, by rw [List.length_map, hpl, hm]; exact Nat.le_trans h60 (by decide), fun _ _ _ _ h _ => h⟩
    refine lc_gen L walk_list (fun H2 s2 => SqL.of (s2 _ _ (s1 _ _ ha1))) ?_ ?_
    · rintro i x H2 H3 hi p ⟨rfl, hx'⟩
      obtain ⟨q0, hq0, rfl⟩ := refs_at hx'
      obtain ⟨q, hq, hqq⟩ := paired_at' ha2 hq0
      have hq3 : IsQ H3 q0 q := (s1.trans p.same) _ _ hqq
      refine ⟨rfl, _, rfl, q0, q, rfl, hq3, true, rfl, ?_⟩
      refine ⟨_, rfl, _, rfl, eQ.f q, ys.map eQ.f, dp_q hq3, dp_pl (mPl.m (s1.trans p.same) ho), eQ.shaped (by decide) q, ePl.shaped (by decide) ys, L.put hi p (Same.refl _) (List.replicate_succ' ..) (b_bl (eQ.anyT (hin q (List.mem_of_getElem? hq))))⟩
    · intro H2 ys s2 hd hp
      rw [paired_bl hp] at hd
      exact ⟨D, _, rfl, SqL.of hd, q_bl (Q := Q) (all_true _) (k _ (s1.trans s2))⟩
end
end Tw
namespace Tw
open PySem PySem.Spec PyProof.Rows L2 TR
open TA (Plc zi)
/-! ### sorted sets of places -/
def codeQ (q : Plc) : List Int := [(q.1 : Int), (q.2 : Int)]
def decQ (l : List Int) : Plc := ((l.getD 0 0).toNat, (l.getD 1 0).toNat)
theorem dec_code (q : Plc) : decQ (codeQ q) = q := by
  obtain ⟨a, b⟩ := q
  show ((a : Int).toNat, (b : Int).toNat) = (a, b)
  rw [Int.toNat_natCast, Int.toNat_natCast]
theorem kz_ex {H : Hp} : ∀ {ps : List Addr} {as : List Plc}, Paired (IsQ H) ps as → ∃ ks : List (Addr × List Int), (ks.map fun p => V.ref p.1) = ps.map V.ref ∧ ks.map (·.2) = as.map codeQ ∧ ∀ p ∈ ks, H p.1 = some (.tup (p.2.map V.int))
  | _, _, .nil => ⟨[], rfl, rfl, fun _ h => by simp at h⟩
  | p :: ps, q :: as, .cons h t => by
    obtain ⟨ks, h1, h2, h3⟩ := kz_ex t
    refine ⟨(p, codeQ q) :: ks, by rw [List.map_cons, h1]; rfl, by rw [List.map_cons, h2]; rfl, fun x hx => ?_⟩
    rcases List.mem_cons.mp hx with rfl | hx
    · exact h
    · exact h3 x hx
section
variable {P : Program} {w : World} {K : PySem.W.Frag}
theorem set_pl {H : Hp} {l : Addr} {as : List Plc} {Q : VK} (h : IsPl H l as) (hl : as.length < 64) (hb : ∀ q ∈ as, q.1 < 1000 ∧ q.2 < 1000)
    (k : ∀ H' p (U : List Plc) (vs : List V), Same H H' → U.Nodup → (∀ q, q ∈ U ↔ q ∈ as) → H' p = some (.lst vs) → vs.length = U.length → Q (.ref p) H') :
    rSetOfT K P w [.ref l] H fun v H1 => rSortedT K P w [v] H1 Q := by
  obtain ⟨ps, h1, h2⟩ := h
  obtain ⟨ks, e1, e2, e3⟩ := kz_ex h2
  have hkl : ks.length = as.length := by
    have := congrArg List.length e2
    rw [List.length_map, List.length_map] at this
    exact this
  have hks : ∀ p ∈ ks, ∃ q ∈ as, p.2 = codeQ q := fun p hp => by
    have : p.2 ∈ as.map codeQ := by rw [← e2]; exact List.mem_map.mpr ⟨p, hp, rfl⟩
    obtain ⟨q, h1, h2⟩ := List.mem_map.mp this
    exact ⟨q, h1, h2.symm⟩
  refine ⟨l, ks, rfl, SqL.of (by rw [e1]; exact h1), fun p hp => SqT.of (e3 p hp), by omega, fun a L ha hL1 hL2 => ?_⟩
  refine ⟨a, L, 2, 1000, rfl, upd_same, fun p hp => SqT.of (same_upd ha _ _ (e3 p (hL1 p hp))), by decide, fun p hp => ?_, fun L' p hperm hnd hlen _ hp => ?_⟩
  · obtain ⟨q, hq, e⟩ := hks p (hL1 p hp)
    have := hb q hq
    rw [e]
    refine ⟨rfl, fun m hm => ?_⟩
    have : m = (q.1 : Int) ∨ m = (q.2 : Int) := by simpa [codeQ] using hm
    omega
  · refine k _ p (L'.map fun x => decQ x.2) (L'.map fun q => V.ref q.1) ((same_upd ha).trans (same_upd hp)) ?_ (fun q => ?_) upd_same (by rw [List.length_map, List.length_map])
    · refine List.pairwise_map.mpr (List.Pairwise.imp_of_mem ?_ (List.pairwise_map.mp hnd))
      intro x y hx hy hne e
      obtain ⟨q1, _, d1⟩ := hks x (hL1 x (hperm.mem_iff.mp hx))
      obtain ⟨q2, _, d2⟩ := hks y (hL1 y (hperm.mem_iff.mp hy))
      rw [d1, d2, dec_code, dec_code] at e
      exact hne (by rw [d1, d2, e])
    · constructor
      · intro h
        obtain ⟨x, hx, e⟩ := List.mem_map.mp h
        obtain ⟨q1, hq1, d1⟩ := hks x (hL1 x (hperm.mem_iff.mp hx))
        have e : decQ x.2 = q := e
        rw [d1, dec_code] at e
        rw [← e]; exact hq1
      · intro h
        have : codeQ q ∈ ks.map (·.2) := by rw [e2]; exact List.mem_map.mpr ⟨q, h, rfl⟩
        obtain ⟨x, hx, e⟩ := List.mem_map.mp this
        have := hL2 x hx
        obtain ⟨y, hy, ey⟩ := List.mem_map.mp this
        refine List.mem_map.mpr ⟨y, hperm.mem_iff.mpr hy, ?_⟩
        show decQ y.2 = q
        rw [ey, e, dec_code]
theorem set_pl' {σ : L2.St} {H : Hp} {l : Addr} {as : List Plc} {Q : VK} (h : IsPl H l as) (hl : as.length < 64) (hb : ∀ q ∈ as, q.1 < 1000 ∧ q.2 < 1000)
    (k : ∀ H' p (U : List Plc) (vs : List V), Same H H' → U.Nodup → (∀ q, q ∈ U ↔ q ∈ as) → H' p = some (.lst vs) → vs.length = U.length → Q (.ref p) H') :
    (fun x H1 => tNil σ H1 fun xs H2 => (fun vs H1 => rSetOfT K P w vs H1 fun x H1 => tNil σ H1 fun xs H2 => (fun vs H1 => rSortedT K P w vs H1 Q) (x :: xs) H2) (x :: xs) H2) (V.ref l) H := set_pl h hl hb k
end
theorem nodup_len {U as : List Plc} (h1 : U.Nodup) (h2 : as.Nodup) (h : ∀ q, q ∈ U ↔ q ∈ as) : U.length = as.length := ((List.perm_ext_iff_of_nodup h1 h2).mpr h).length_eq
theorem able_small {n : Nat} {kinds : List (List Nat)} {bs cs ws : List Nat} (F : TA.Fit n kinds bs cs ws) {p : Nat} (hp : p < kinds.length) {q : Plc} (hq : q ∈ TA.able (TA.gk kinds p) bs ws) : q.1 < 1000 ∧ q.2 < 1000 := by
  obtain ⟨a1, _, a3, _⟩ := TA.mem_able.mp hq
  have := F.lt _ (TA.getD_mem [] hp) _ a1
  have := F.n4
  have := F.wle q.1
  exact ⟨by omega, by omega⟩
theorem flat_take {α : Type} {D : List (List α)} {i : Nat} {x : List α} (h : D[i]? = some x) : (D.take (i + 1)).flatten = (D.take i).flatten ++ x := by
  rw [take_snoc' h, List.flatten_append]; simp
theorem flat_len {α : Type} {D : List (List α)} {i : Nat} : (D.take i).flatten.length ≤ D.flatten.length := by
  have e : D.flatten = (D.take i).flatten ++ (D.drop i).flatten := by rw [← List.flatten_append, List.take_append_drop]
  rw [e, List.length_append]; omega
section
variable {P : Program} {w : World} {K : PySem.W.Frag} {mg : Str → Option Value} {base : Heap}
theorem sc_is_dealing_of : FnScope ["store", "board", "counts", "wished", "value", "dealt", "position", "many"] ["store", "board", "counts", "wished", "value"] (defScope s_is_dealing_of) := ⟨rfl, rfl, rfl, by decide +kernel, rfl, by decide +kernel, by decide +kernel⟩
def sp_is_dealing_of (C : Addr) : Sp := fun vs H Q _ => ∃ (st b c v a : Addr) (n : Nat) (kinds : List (List Nat)) (bs cs ws : List Nat) (D : List (List Plc)), vs = [.ref st, .ref b, .ref c, .ref v, .ref a] ∧ DArgs C H st b c v n kinds bs cs ws ∧ IsPls H a D ∧ TA.IsDeal kinds bs cs ws D ∧
  ∀ H', Same H H' → Q (.bl true) H'
theorem ok_is_dealing_of (T : Txt K mg) : FnOk P w K mg base CX0 4 T.d_is_dealing_of.f T.d_is_dealing_of.fd ["store", "board", "counts", "wished", "value"] (sp_is_dealing_of T.st.C) := by
  refine T.d_is_dealing_of.F.ok sc_is_dealing_of (fun vs H Q E h => ?_) (fun cdv A outer s H vs Q E hr h => ?_)
  · obtain ⟨st, b, c, v, a, n, kinds, bs, cs, ws, D, rfl, _⟩ := h
    rfl
  · obtain ⟨st, b, c, v, a, n, kinds, bs, cs, ws, D, rfl, Ar, ha, hD, k⟩ := h
    have F := Ar.F
    have hDf := TA.deal_lengths hD
    have hcs := F.csum
    have hck := F.cl
    obtain ⟨ps, ha1, ha2⟩ := id ha
    have hpl := ha2.length
    refine ⟨_, (pss_cons (ps_if (PW.pt (pw_or (pt_not (pt_val (pe_call (ok_is_list T) (hr.mono (by decide)) (by rfl) T.d_is_list.m T.d_is_list.F.kp T.d_is_list.b .nil pass0 (pa_cons (pv 4) pa_nil)))) (pw_or1 (pt_cmpR op_ne (pe_callB call_len_seq (by rfl) T.b_len bt_len (pa_cons (pv 4) pa_nil)) (pe_callB call_len_seq (by rfl) T.b_len bt_len (pa_cons (pv 2) pa_nil)) (nomark _))))) (pss_one (ps_ret pe_bl)) pss_nil)
    (pss_cons (ps_set (i := 5) sc_is_dealing_of.nd rfl (Or.inl rfl) (pe_lst pa_nil))
    (pss_cons (ps_for PassesOwn.never rfl (pi_enumK (kdT _) (by rfl) T.b_enumerate (pa_cons (pv 2) pa_nil)) (pg_tupK (K := K) (n := 2) rfl rfl (pgs_cons (pg_name (i := 6) sc_is_dealing_of.nd rfl (Or.inl rfl)) (pgs_cons (pg_name (i := 7) sc_is_dealing_of.nd rfl (Or.inl rfl)) pgs_nil))) (pss_cons (ps_if (pt_not (pt_val (pe_call (ok_are_places T) (hr.mono (by decide)) (by rfl) T.d_are_places.m T.d_are_places.F.kp T.d_are_places.b .nil pass0 (pa_cons (pe_ix ix_list (pv 4) (pv 6) (fun _ _ => rfl)) (pa_cons (pe_call (ok_places_of T) (hr.mono (by decide)) (by rfl) T.d_places_of.m T.d_places_of.F.kp T.d_places_of.b .nil pass0 (pa_cons (pv 0) (pa_cons (pv 1) (pa_cons (pv 3) (pa_cons (pv 6) pa_nil))))) (pa_cons (pv 7) pa_nil)))))) (pss_one (ps_ret pe_bl)) pss_nil)
    (pss_one (ps_expr (pe_bm PySem.F.plainAttrs_list PySem.F.slot_list_extend PySem.F.type_list_extend mt_extend (pv 5) (pa_cons (pe_ix ix_list (pv 4) (pv 6) (fun _ _ => rfl)) pa_nil))))))
    (pss_one (ps_ret (pe_cmpR op_eq (pe_callB call_len_seq (by rfl) T.b_len bt_len (pa_cons (pe_callB (cr_sortedT rfl) (by rfl) T.b_sorted bt_sorted (pa_cons (pe_callTy (cr_setOfT rfl hr.units) (by rfl) T.b_set bt_set (pa_cons (pv 5) pa_nil)) pa_nil)) pa_nil)) (pe_callB call_len_seq (by rfl) T.b_len bt_len (pa_cons (pv 5) pa_nil)) (nomark _))))))), ?_⟩
    refine ⟨_, rfl, a, _, rfl, .inl ha1, fun H1 s1 => ⟨true, rfl, ?_⟩⟩
    refine iteF ⟨_, rfl, a, _, rfl, .inl (SqL.of (s1 _ _ ha1)), _, rfl, c, nl cs, rfl, .inr (SqT.of (s1 _ _ Ar.c)), rfl, false, nbl (decide_eq_true (v_int (by rw [List.length_map, nl_length, hpl, hD.len]))), iteF ?_⟩
    refine ⟨by show 0 ≤ sizeLine; decide, fun dl hdl => ?_⟩
    have hdl0 : H dl = none := s1.free hdl
    have s2 : Same H (upd H1 dl (.lst [])) := s1.trans (same_upd hdl)
    have hdl2 : IsPl (upd H1 dl (.lst [])) dl [] := ⟨[], upd_same, .nil⟩
    refine ⟨_, rfl, c, nl cs, rfl, SqT.of (s2 _ _ Ar.c), ?_⟩
    refine for_it walk_enumK (fun i σ H' => ∃ x6 x7 : Option V, σ = [some (.ref st), some (.ref b), some (.ref c), some (.ref v), some (.ref a), some (.ref dl), x6, x7] ∧ Same H H' ∧ IsPl H' dl ((D.take i).flatten)) ⟨none, none, rfl, s2, hdl2⟩ (fun i σ H' _ ⟨_, _, _, s3, _⟩ => SqT.of (s3 _ _ Ar.c)) ?_ ?_
    · rintro i x σ H3 H4 hi ⟨x6, x7, rfl, s3, hd3⟩ ⟨t, u, v', rfl, ht, rfl, hu1, hv1⟩
      obtain ⟨m, hm, rfl⟩ := nl_of hv1
      obtain rfl := Option.some.inj hu1
      rw [nl_length] at hi
      have em : TA.g cs i = m := TA.getD_some 0 hm
      have hm2 := F.c2 m (List.mem_of_getElem? hm)
      refine ⟨t, _, rfl, SqT.of upd_same, rfl, _, _, rfl, _, _, rfl, rfl, ?_⟩
      have s4 := s3.trans (same_upd (o := .tup [vn i, vn m]) ht)
      have hd4 : IsPl (upd H3 t (.tup [vn i, vn m])) dl ((D.take i).flatten) := mPl.m (same_upd ht) hd3
      show tSeq _ _ _ _ (upd H3 t (.tup [vn i, vn m]))
      generalize upd H3 t (.tup [vn i, vn m]) = H4 at s4 hd4 ⊢
      have hDi : D[i]? = some (TA.gp D i) := TA.some_getD [] (by rw [hD.len]; exact hi)
      obtain ⟨q, hq, hqr⟩ := paired_at ha2 hDi
      refine ⟨_, rfl, _, rfl, a, _, _, _, rfl, rfl, SqL.of (s4 _ _ ha1), atI_nat (refs_get hq), ?_⟩
      refine ⟨_, rfl, _, rfl, _, rfl, _, rfl, st, b, v, n, kinds, bs, cs, ws, i, rfl, mStore.m s4 Ar.st, s4 _ _ Ar.b, s4 _ _ Ar.v, F, by omega, fun H5 r s5 _ hr => ?_⟩
      refine ⟨_, rfl, q, r, m, _, _, rfl, mPl.m (s4.trans s5) hqr, hr, by rw [hD.many i hi, em], by omega, hD.each i hi, fun H6 s6 => ⟨true, rfl, iteF ?_⟩⟩
      have s46 := s5.trans s6
      have s06 := s4.trans s46
      obtain ⟨zs, hz1, hz2⟩ := mPl.m s06 hqr
      obtain ⟨ys, hy1, hy2⟩ := mPl.m s46 hd4
      refine ⟨_, rfl, .inl ⟨rfl, _, SqL.of hy1⟩, _, rfl, _, rfl, a, _, _, _, rfl, rfl, SqL.of (s06 _ _ ha1), atI_nat (refs_get hq), dl, q, _, _, rfl, rfl, hy1, hz1, ?_, ?_⟩
      · have l1 := hy2.length
        have l2 := hz2.length
        have l3 := flat_len (D := D) (i := i + 1)
        rw [flat_take hDi, List.length_append] at l3
        rw [List.length_map, List.length_map]
        exact Nat.le_trans (show _ ≤ 63 by omega) (by decide)
      · refine ⟨_, _, rfl, same_mut s06 hdl0, ?_⟩
        rw [flat_take hDi]
        exact pl_ext hy1 hy2 hz2
    · rintro σ H3 ⟨x6, x7, rfl, s3, hd3⟩
      rw [nl_length, List.take_of_length_le (by rw [hD.len]; exact Nat.le_refl _)] at hd3
      refine ⟨_, rfl, set_pl' hd3 (by omega) (fun q hq => ?_) fun H4 p U vs s4 hU hUm hp hvl => ?_⟩
      · obtain ⟨r, hr, hqr⟩ := List.mem_flatten.mp hq
        obtain ⟨i, hi, e⟩ := TA.mem_getD [] hr
        rw [hD.len] at hi
        exact able_small F (p := i) (by omega) (hD.each i hi q (by rw [show TA.gp D i = r from e]; exact hqr))
      · obtain ⟨ys, hy1, hy2⟩ := mPl.m s4 hd3
        refine ⟨p, vs, rfl, .inl (SqL.of hp), _, rfl, dl, _, rfl, .inl (SqL.of hy1), rfl, q_bl (Q := Q) (decide_eq_true (v_int ?_)) (k _ (s3.trans s4))⟩
        rw [hvl, List.length_map, hy2.length, nodup_len hU hD.nd hUm]
end
end Tw
namespace Tw
open PySem PySem.Spec PyProof.Rows L2 TR
open TA (Plc zi)
theorem lot_small {n : Nat} {kinds : List (List Nat)} {bs cs ws lot : List Nat} (F : TA.Fit n kinds bs cs ws) (h : TA.IsCrowd kinds bs cs ws lot) : lot.length ≤ 3 := by
  have h1 := TA.kind_length h.inc h.lt
  have := F.cl; have := F.k3
  omega
theorem flat_able {n : Nat} {kinds : List (List Nat)} {bs cs ws : List Nat} (F : TA.Fit n kinds bs cs ws) : ∀ {lot : List Nat}, (∀ p ∈ lot, p < kinds.length) → (lot.flatMap fun p => TA.able (TA.gk kinds p) bs ws).length ≤ 6 * lot.length
  | [], _ => Nat.le_refl _
  | p :: l, h => by
    rw [List.flatMap_cons, List.length_append, List.length_cons]
    have h1 := F.able_length (h p List.mem_cons_self)
    have h2 := flat_able F (lot := l) fun q hq => h q (List.mem_cons_of_mem _ hq)
    have e : 6 * (l.length + 1) = 6 * l.length + 6 := rfl
    rw [e, Nat.add_comm]
    exact Nat.add_le_add h2 h1
theorem flat_snoc {f : Nat → List Plc} {l : List Nat} {i x : Nat} (h : l[i]? = some x) : (l.take (i + 1)).flatMap f = (l.take i).flatMap f ++ f x := by
  rw [take_snoc' h, List.flatMap_append, List.flatMap_cons, List.flatMap_nil, List.append_nil]
section
variable {P : Program} {w : World} {K : PySem.W.Frag} {mg : Str → Option Value} {base : Heap}
theorem sc_is_crowd_of : FnScope ["store", "board", "counts", "wished", "value", "taking", "position", "one"] ["store", "board", "counts", "wished", "value"] (defScope s_is_crowd_of) := ⟨rfl, rfl, rfl, by decide +kernel, rfl, by decide +kernel, by decide +kernel⟩
def sp_is_crowd_of (C : Addr) : Sp := fun vs H Q _ => ∃ (st b c v a : Addr) (n : Nat) (kinds : List (List Nat)) (bs cs ws lot : List Nat), vs = [.ref st, .ref b, .ref c, .ref v, .ref a] ∧ DArgs C H st b c v n kinds bs cs ws ∧ IsN H a lot ∧ TA.IsCrowd kinds bs cs ws lot ∧
  ∀ H', Same H H' → Q (.bl true) H'
theorem ok_is_crowd_of (T : Txt K mg) : FnOk P w K mg base CX0 4 T.d_is_crowd_of.f T.d_is_crowd_of.fd ["store", "board", "counts", "wished", "value"] (sp_is_crowd_of T.st.C) := by
  refine T.d_is_crowd_of.F.ok sc_is_crowd_of (fun vs H Q E h => ?_) (fun cdv A outer s H vs Q E hr h => ?_)
  · obtain ⟨st, b, c, v, a, n, kinds, bs, cs, ws, lot, rfl, _⟩ := h
    rfl
  · obtain ⟨st, b, c, v, a, n, kinds, bs, cs, ws, lot, rfl, Ar, ha, hL, k⟩ := h
    have F := Ar.F
    have hck := F.cl
    have h3 := lot_small F hL
    have hlk : ∀ p ∈ lot, p < kinds.length := fun p hp => by rw [← hck]; exact hL.lt p hp
    refine ⟨_, (pss_cons (ps_if (PW.pt (pw_or (pt_not (pt_val (pe_call (ok_is_list T) (hr.mono (by decide)) (by rfl) T.d_is_list.m T.d_is_list.F.kp T.d_is_list.b .nil pass0 (pa_cons (pv 4) pa_nil)))) (pw_or1 (pt_not (pt_val (pe_callB (cr_all rfl) (by rfl) T.b_all bt_all (pa_cons (pe_lc (own := [("one", 7)]) rfl sc_is_crowd_of.nd (pi_list (pv 4)) (blkOk_by (own := [("one", 7)]) (N := ["store", "board", "counts", "wished", "value", "taking", "position", "one"]) (sc := defScope s_is_crowd_of) (by decide +kernel)) (fun _ _ _ _ _ => (pg_name (i := 7) sc_is_crowd_of.nd rfl (Or.inl rfl))) (fun _ _ _ _ _ => pts_nil) (fun _ _ _ _ _ => (pe_and (pe_call (ok_is_count T) (hr.mono (by decide)) (by rfl) T.d_is_count.m T.d_is_count.F.kp T.d_is_count.b .nil pass0 (pa_cons (pv 7) pa_nil)) (pe_one (pe_cmpR op_lt (pv 7) (pe_callB (call_len_seqK (K := K) rfl) (by rfl) T.b_len bt_len (pa_cons (pv 2) pa_nil)) (nomark _)))))) pa_nil))))))) (pss_one (ps_ret pe_bl)) pss_nil)
    (pss_cons (ps_if (pt_cmpR op_ne (pe_callB call_len_seq (by rfl) T.b_len bt_len (pa_cons (pe_callB (cr_sortedSet rfl) (by rfl) T.b_sorted bt_sorted (pa_cons (pe_callTy (cr_setI rfl) (by rfl) T.b_set bt_set (pa_cons (pv 4) pa_nil)) pa_nil)) pa_nil)) (pe_callB call_len_seq (by rfl) T.b_len bt_len (pa_cons (pv 4) pa_nil)) (nomark _)) (pss_one (ps_ret pe_bl)) pss_nil)
    (pss_cons (ps_set (i := 5) sc_is_crowd_of.nd rfl (Or.inl rfl) (pe_lst pa_nil))
    (pss_cons (ps_for PassesOwn.never rfl (pi_list (pv 4)) (pg_name (i := 6) sc_is_crowd_of.nd rfl (Or.inl rfl)) (pss_one (ps_expr (pe_bm PySem.F.plainAttrs_list PySem.F.slot_list_extend PySem.F.type_list_extend mt_extend (pv 5) (pa_cons (pe_call (ok_places_of T) (hr.mono (by decide)) (by rfl) T.d_places_of.m T.d_places_of.F.kp T.d_places_of.b .nil pass0 (pa_cons (pv 0) (pa_cons (pv 1) (pa_cons (pv 3) (pa_cons (pv 6) pa_nil))))) pa_nil)))))
    (pss_one (ps_ret (pe_cmpR op_gt (pe_callB (cr_sum rfl) (by rfl) T.b_sum bt_sum (pa_cons (pe_lc (own := [("position", 6)]) rfl sc_is_crowd_of.nd (pi_list (pv 4)) (blkOk_by (own := [("position", 6)]) (N := ["store", "board", "counts", "wished", "value", "taking", "position", "one"]) (sc := defScope s_is_crowd_of) (by decide +kernel)) (fun _ _ _ _ _ => (pg_name (i := 6) sc_is_crowd_of.nd rfl (Or.inl rfl))) (fun _ _ _ _ _ => pts_nil) (fun _ _ _ _ _ => (pe_ix (ix_tupK (K := K) rfl) (pv 2) (pv 6) (fun _ _ => rfl)))) pa_nil)) (pe_callB call_len_seq (by rfl) T.b_len bt_len (pa_cons (pe_callB (cr_sortedT rfl) (by rfl) T.b_sorted bt_sorted (pa_cons (pe_callTy (cr_setOfT rfl hr.units) (by rfl) T.b_set bt_set (pa_cons (pv 5) pa_nil)) pa_nil)) pa_nil)) (nomark _)))))))), ?_⟩
    refine ⟨_, rfl, a, _, rfl, .inl ha, fun H1 s1 => ⟨true, rfl, iteF ?_⟩⟩
    refine ⟨_, rfl, a, rfl, ⟨_, SqL.of (s1 _ _ ha)⟩, fun D hD => ?_⟩
    have L : Lc H1 D (nl lot).length (fun i => List.replicate i true) (fun y b _ => y = V.bl b) := ⟨hD, rfl, fun i => by simp, by rw [nl_length]; exact small64 (by omega), fun _ _ _ _ h _ => h⟩
    refine lc_gen L walk_list (fun H2 s2 => SqL.of (s2 _ _ (s1 _ _ ha))) ?_ ?_
    · rintro i x H2 H3 hi p ⟨rfl, hx'⟩
      obtain ⟨m, hm, rfl⟩ := nl_of hx'
      have hml := hL.lt m (List.mem_of_getElem? hm)
      refine ⟨rfl, _, rfl, m, rfl, true, rfl, ?_⟩
      exact ⟨_, rfl, _, rfl, c, nl cs, rfl, .inr (SqT.of ((s1.trans p.same) _ _ Ar.c)), _, _, rfl, rfl, L.put hi p (Same.refl _) (List.replicate_succ' ..) (b_bl (decide_eq_true (by rw [nl_length]; omega)))⟩
    intro H2 ys s2 hd hp
    rw [paired_bl hp] at hd
    have s12 := s1.trans s2
    refine ⟨D, _, rfl, SqL.of hd, true, b_bl (all_true _), iteF ?_⟩
    refine ⟨_, rfl, a, zi lot, rfl, .inl (SqL.of (s12 _ _ ha)), by rw [zi_length]; omega, fun p cc hc hp' => ?_⟩
    refine ⟨p, _, cc, rfl, upd_same, by rw [zi_length] at hc; omega, fun ns q hns hm hl hq => ?_⟩
    have s4 := (s12.trans (same_upd (o := SetO w p (fun j => decide (j ∈ zi lot)) cc) hp')).trans (same_upd (o := .lst (ns.map V.int)) hq)
    obtain ⟨L', rfl, hinc, hmem⟩ := set_of hns hm
    refine ⟨q, nl L', rfl, .inl (SqL.of upd_same), _, rfl, a, nl lot, rfl, .inl (SqL.of (s4 _ _ ha)), rfl, false, nbl (decide_eq_true (v_int ?_)), iteF ?_⟩
    · rw [nl_length, nl_length, inc_length hinc (hL.inc.imp fun h => Nat.ne_of_lt h) hmem]
    refine ⟨by show 0 ≤ sizeLine; decide, fun tl htl => ?_⟩
    have htl0 : H tl = none := s4.free htl
    have s5 := s4.trans (same_upd (o := .lst []) htl)
    refine ⟨_, rfl, a, rfl, ⟨_, SqL.of (s5 _ _ ha)⟩, ?_⟩
    refine for_it walk_list (fun i σ H' => ∃ x6 : Option V, σ = [some (.ref st), some (.ref b), some (.ref c), some (.ref v), some (.ref a), some (.ref tl), x6, none] ∧ Same H H' ∧ IsPl H' tl ((lot.take i).flatMap fun p => TA.able (TA.gk kinds p) bs ws)) ⟨none, rfl, s5, [], upd_same, .nil⟩ (fun i σ H' _ ⟨_, _, s3, _⟩ => SqL.of (s3 _ _ ha)) ?_ ?_
    · rintro i x σ H5 H6 hi ⟨x6, rfl, s6, ht6⟩ ⟨rfl, hx⟩
      obtain ⟨m, hm, rfl⟩ := nl_of hx
      have hmk := hlk m (List.mem_of_getElem? hm)
      obtain ⟨ys, hy1, hy2⟩ := id ht6
      refine ⟨_, rfl, .inl ⟨rfl, _, SqL.of hy1⟩, ?_⟩
      refine ⟨_, rfl, _, rfl, _, rfl, _, rfl, st, b, v, n, kinds, bs, cs, ws, m, rfl, mStore.m s6 Ar.st, s6 _ _ Ar.b, s6 _ _ Ar.v, F, hmk, fun H7 r s7 _ hr => ?_⟩
      obtain ⟨zs, hz1, hz2⟩ := hr
      have hy7 := s7 _ _ hy1
      refine ⟨tl, r, _, _, rfl, rfl, hy7, hz1, ?_, ?_⟩
      · have l1 := hy2.length
        have l2 := hz2.length
        have l3 := flat_able F (lot := lot.take i) fun p hp => hlk p (List.mem_of_mem_take hp)
        have l4 := F.able_length hmk
        have l5 : (lot.take i).length ≤ 3 := Nat.le_trans (List.length_take_le' _ _) h3
        rw [List.length_map, List.length_map, l1, l2]
        exact Nat.le_trans (Nat.add_le_add l3 l4) (Nat.le_trans (show _ ≤ 63 by omega) (by decide))
      · refine ⟨_, rfl, same_mut (s6.trans s7) htl0, ?_⟩
        rw [flat_snoc hm]
        exact pl_ext hy7 (paired_mono (fun _ _ h => mQ.m s7 h) hy2) hz2
    · rintro σ H5 ⟨x6, rfl, s6, ht6⟩
      rw [nl_length, List.take_length] at ht6
      refine ⟨_, rfl, a, rfl, ⟨_, SqL.of (s6 _ _ ha)⟩, fun D2 hD2 => ?_⟩
      have L2 : Lc H5 D2 (nl lot).length (fun i => (lot.take i).map (TA.g cs)) (fun y b _ => y = vn b) := ⟨hD2, rfl, (fun i => by rw [List.length_map, List.length_take]; exact Nat.min_le_left _ _), by rw [nl_length]; exact small64 (by omega), fun _ _ _ _ h _ => h⟩
      refine lc_gen L2 walk_list (fun H2 s2 => SqL.of (s2 _ _ (s6 _ _ ha))) ?_ ?_
      · rintro i x H7 H8 hi pi ⟨rfl, hx'⟩
        obtain ⟨m, hm, rfl⟩ := nl_of hx'
        refine ⟨rfl, ?_⟩
        exact ⟨_, rfl, _, rfl, c, nl cs, _, _, rfl, rfl, SqT.of ((s6.trans pi.same) _ _ Ar.c), at_nl (hL.lt m (List.mem_of_getElem? hm)), L2.put hi pi (Same.refl _) (take_snoc hm) rfl⟩
      · intro H7 ys s7 hd7 hp7
        rw [paired_vn hp7, nl_length, List.take_length] at hd7
        refine ⟨D2, zi (lot.map (TA.g cs)), rfl, SqL.of hd7, ?_⟩
        have hfl := flat_able F hlk
        refine ⟨_, rfl, set_pl' (mPl.m s7 ht6) (by omega) (fun q hq => ?_) fun H8 p U vs s8 hU hUm hp8 hvl => ?_⟩
        · obtain ⟨r, hr, hqr⟩ := List.mem_flatMap.mp hq
          exact able_small F (hlk r hr) hqr
        · refine ⟨p, vs, rfl, .inl (SqL.of hp8), _, _, rfl, rfl, q_bl (Q := Q) (decide_eq_true ?_) (k _ ((s6.trans s7).trans s8))⟩
          have := hL.more U hU fun q hq => List.mem_flatMap.mp ((hUm q).mp hq)
          rw [hvl, zi_sum]
          omega
end
end Tw
namespace Tw
open PySem PySem.Spec PyProof.Rows L2 TR
open TA (Plc zi Tk look put)
def IsStep (H : Hp) (q : Addr) (e : Nat × Nat) : Prop := H q = some (.tup [.str "put", vn e.1, vn e.2])
theorem mStep : Mono IsStep := ⟨fun s h => s _ _ h⟩
theorem IsStep.updN {H : Hp} {p D : Addr} {q : Nat × Nat} {o : HO} (h : IsStep H p q) (hD : ∀ xs, H D ≠ some (.tup xs)) : IsStep (L2.upd H D o) p q :=
  (L2.upd_ne fun e => hD _ (by rw [← e]; exact h)).trans h
abbrev IsWay := IsOf IsStep
theorem mWay : Mono IsWay := mOf mStep
def kindsTo (D : List (List Plc)) (i : Nat) : Tk := (List.range i).flatMap fun p => (TA.gp D p).map fun q => (q, p)
theorem kindsTo_succ {D : List (List Plc)} {i : Nat} : kindsTo D (i + 1) = kindsTo D i ++ (TA.gp D i).map fun q => (q, i) := by
  unfold kindsTo
  rw [List.range_succ, List.flatMap_append, List.flatMap_cons, List.flatMap_nil, List.append_nil]
theorem kindsTo_keys {D : List (List Plc)} : ∀ {i : Nat}, i ≤ D.length → (kindsTo D i).map (·.1) = (D.take i).flatten
  | 0, _ => by simp [kindsTo]
  | i + 1, h => by
    rw [kindsTo_succ, List.map_append, kindsTo_keys (by omega), flat_take (TA.some_getD [] (show i < D.length by omega)), List.map_map]
    congr 1
    exact List.map_id _
theorem kindsTo_mem {D : List (List Plc)} {i p : Nat} {q : Plc} (h : p < i) (hq : q ∈ TA.gp D p) : (q, p) ∈ kindsTo D i := List.mem_flatMap.mpr ⟨p, List.mem_range.mpr h, List.mem_map.mpr ⟨q, hq, rfl⟩⟩
theorem ixN_nat {n j : Nat} (h : j < n) : ixN n (j : Int) = some j := by
  unfold ixN
  rw [if_pos (by omega), if_pos (by omega)]; simp
theorem flat_split {α : Type} {D : List (List α)} {i : Nat} {x : List α} (h : D[i]? = some x) : D.flatten = (D.take i).flatten ++ (x ++ (D.drop (i + 1)).flatten) := by
  have e : D.flatten = (D.take (i + 1)).flatten ++ (D.drop (i + 1)).flatten := by rw [← List.flatten_append, List.take_append_drop]
  rw [e, flat_take h, List.append_assoc]
theorem list_split {α : Type} {l : List α} {j : Nat} {x : α} (h : l[j]? = some x) : l = l.take j ++ x :: l.drop (j + 1) := by
  have e : l = l.take (j + 1) ++ l.drop (j + 1) := (List.take_append_drop _ _).symm
  rw [take_snoc' h, List.append_assoc] at e
  exact e
theorem sum_le_of {here w : List Nat} (hl : here.length = w.length) (le : ∀ s, TA.g here s ≤ TA.g w s) : here.sum ≤ w.sum := by
  have := TA.allP_length (n := w.length) hl rfl le
  omega
section
variable {P : Program} {w : World} {K : PySem.W.Frag} {mg : Str → Option Value} {base : Heap}
theorem sc_way_of : FnScope ["store", "board", "counts", "wished", "found", "here", "way", "kinds", "position", "dealt", "place", "left", "least", "shelf", "one"] ["store", "board", "counts", "wished"] (defScope s_way_of) := ⟨rfl, rfl, rfl, by decide +kernel, rfl, by decide +kernel, by decide +kernel⟩
def sp_way_of (C : Addr) : Sp := fun vs H Q _ => ∃ (st b c v : Addr) (n : Nat) (kinds : List (List Nat)) (bs cs ws : List Nat), vs = [.ref st, .ref b, .ref c, .ref v] ∧ DArgs C H st b c v n kinds bs cs ws ∧
  (∀ H' p way, Same H H' → IsWay H' p way → TA.Hist kinds bs way ws → TA.usedOf kinds.length way = cs → Q (.ref p) H') ∧
  ∀ H' lot, Same H H' → TA.IsCrowd kinds bs cs ws lot → Q .non H'
theorem ok_way_of (T : Txt K mg) : FnOk P w K mg base CX0 5 T.d_way_of.f T.d_way_of.fd ["store", "board", "counts", "wished"] (sp_way_of T.st.C) := by
  refine T.d_way_of.F.ok sc_way_of (fun vs H Q E h => ?_) (fun cdv A outer s H vs Q E hr h => ?_)
  · obtain ⟨st, b, c, v, n, kinds, bs, cs, ws, rfl, _⟩ := h
    rfl
  · obtain ⟨st, b, c, v, n, kinds, bs, cs, ws, rfl, Ar, kW, kC⟩ := h
    have F := Ar.F
    have hu := hu_of hr
    have hck := F.cl
    have hcs := F.csum
    refine ⟨_, (pss_cons (ps_asg (pe_tup (pa_cons (pe_ix ix_tup (pe_call (ok_dealing_of T) (hr.mono (by decide)) (by rfl) T.d_dealing_of.m T.d_dealing_of.F.kp T.d_dealing_of.b .nil pass0 (pa_cons (pv 0) (pa_cons (pv 1) (pa_cons (pv 2) (pa_cons (pv 3) pa_nil))))) pe_int (fun _ _ => rfl)) (pa_cons (pe_callTy call_list_of (by rfl) T.b_list bt_list (pa_cons (pv 1) pa_nil)) (pa_cons (pe_lst pa_nil) pa_nil)))) (pg_tupK (K := K) (n := 3) rfl rfl (pgs_cons (pg_name (i := 4) sc_way_of.nd rfl (Or.inl rfl)) (pgs_cons (pg_name (i := 5) sc_way_of.nd rfl (Or.inr rfl)) (pgs_cons (pg_name (i := 6) sc_way_of.nd rfl (Or.inl rfl)) pgs_nil)))))
    (pss_cons (ps_if (pt_cmpR op_isN (pv 4) pe_non (nomark _)) (pss_one (ps_ret pe_non)) pss_nil)
    (pss_cons (ps_set (i := 7) sc_way_of.nd rfl (Or.inl rfl) pe_dnewT)
    (pss_cons (ps_for PassesOwn.never rfl (pi_enumK (kdL _) (by rfl) T.b_enumerate (pa_cons (pv 4) pa_nil)) (pg_tupK (K := K) (n := 2) rfl rfl (pgs_cons (pg_name (i := 8) sc_way_of.nd rfl (Or.inl rfl)) (pgs_cons (pg_name (i := 9) sc_way_of.nd rfl (Or.inl rfl)) pgs_nil))) (pss_one (ps_for PassesOwn.never rfl (pi_list (pv 9)) (pg_name (i := 10) sc_way_of.nd rfl (Or.inl rfl)) (pss_one (ps_dput hu (pv 7) (pv 10) (pv 8) rfl)))))
    (pss_cons (ps_while PassesOwn.never (pt_cmpR (op_neD hr.units) (pe_callTy call_tuple_of (by rfl) T.b_tuple bt_tuple (pa_cons (pv 5) pa_nil)) (pv 3) (nomark _)) (pss_cons (ps_setLc (i := 11) (own := [("shelf", 13)]) rfl sc_way_of.nd rfl rfl (sw_true rfl rfl rfl (by decide +kernel)) (pi_range1 (by rfl) T.b_range (pa_cons (pe_callB call_len_seq (by rfl) T.b_len bt_len (pa_cons (pv 5) pa_nil)) pa_nil)) (blkOk_by (own := [("shelf", 13)]) (N := ["store", "board", "counts", "wished", "found", "here", "way", "kinds", "position", "dealt", "place", "left", "least", "shelf", "one"]) (sc := defScope s_way_of) (by decide +kernel)) (fun _ _ _ _ _ => (pg_name (i := 13) sc_way_of.nd rfl (Or.inl rfl))) (fun _ _ _ _ _ => (pts_one (pt_cmpR op_lt (pe_ix (ix_listK (K := K) rfl) (pv 5) (pv 13) (fun _ _ => rfl)) (pe_ix (ix_tupK (K := K) rfl) (pv 3) (pv 13) (fun _ _ => rfl)) (nomark _)))) (fun _ _ _ _ _ => (pv 13)))
    (pss_cons (ps_set (i := 12) sc_way_of.nd rfl (Or.inr rfl) (pe_callB (cr_min rfl) (by rfl) T.b_min bt_min (pa_cons (pe_lc (own := [("shelf", 13)]) rfl sc_way_of.nd (pi_list (pv 11)) (blkOk_by (own := [("shelf", 13)]) (N := ["store", "board", "counts", "wished", "found", "here", "way", "kinds", "position", "dealt", "place", "left", "least", "shelf", "one"]) (sc := defScope s_way_of) (by decide +kernel)) (fun _ _ _ _ _ => (pg_name (i := 13) sc_way_of.nd rfl (Or.inl rfl))) (fun _ _ _ _ _ => pts_nil) (fun _ _ _ _ _ => (pe_ix (ix_listK (K := K) rfl) (pv 5) (pv 13) (fun _ _ => rfl)))) pa_nil)))
    (pss_cons (ps_set (i := 13) sc_way_of.nd rfl (Or.inl rfl) (pe_ix ix_list (pe_lc (own := [("one", 14)]) rfl sc_way_of.nd (pi_list (pv 11)) (blkOk_by (own := [("one", 14)]) (N := ["store", "board", "counts", "wished", "found", "here", "way", "kinds", "position", "dealt", "place", "left", "least", "shelf", "one"]) (sc := defScope s_way_of) (by decide +kernel)) (fun _ _ _ _ _ => (pg_name (i := 14) sc_way_of.nd rfl (Or.inl rfl))) (fun _ _ _ _ _ => (pts_one (pt_cmpR op_eq (pe_ix (ix_listK (K := K) rfl) (pv 5) (pv 14) (fun _ _ => rfl)) (pv 12) (nomark _)))) (fun _ _ _ _ _ => (pv 14))) pe_int (fun _ _ => rfl)))
    (pss_cons (ps_expr (pe_bm PySem.F.plainAttrs_list PySem.F.slot_list_append PySem.F.type_list_append mt_append (pv 6) (pa_cons (pe_tup (pa_cons pe_str (pa_cons (pe_dget hu (pv 7) (pe_tup (pa_cons (pv 13) (pa_cons (pv 12) pa_nil))) (fun _ _ => rfl)) (pa_cons (pv 13) pa_nil)))) pa_nil)))
    (pss_one (ps_asg (pe_op op_add (pv 12) pe_int) (pg_sub (pv 5) (pv 13) set_list))))))))
    (pss_one (ps_ret (pv 6)))))))), ?_⟩
    refine ⟨_, rfl, _, rfl, _, rfl, _, rfl, st, b, c, v, n, kinds, bs, cs, ws, rfl, Ar, fun H1 p f D s1 hp hf hD => ?_, fun H1 p l lot s1 hp hl hC => ?_⟩
    · refine ⟨p, _, _, _, rfl, rfl, SqT.of hp, rfl, _, rfl, b, nl bs, rfl, .inr (SqT.of (s1 _ _ Ar.b)), fun h hh => ⟨by show 0 ≤ sizeLine; decide, fun wl hwl => ?_⟩⟩
      refine ⟨by show 3 ≤ sizeLine; decide, fun tp htp => ?_⟩
      refine ⟨tp, _, rfl, SqT.of upd_same, rfl, _, _, rfl, _, _, rfl, _, _, rfl, rfl, ?_⟩
      refine ⟨_, rfl, rfl, false, rfl, iteF ?_⟩
      have z1 : Same H1 (upd (upd (upd H1 h (.lst (nl bs))) wl (.lst [])) tp (.tup [.ref f, .ref h, .ref wl])) := ((same_upd hh).trans (same_upd hwl)).trans (same_upd htp)
      have nhw : h ≠ wl := fun e => by rw [← e, upd_same] at hwl; cases hwl
      have hh2 : IsN (upd (upd (upd H1 h (.lst (nl bs))) wl (.lst [])) tp (.tup [.ref f, .ref h, .ref wl])) h bs := same_upd htp _ _ (same_upd hwl _ _ upd_same)
      have hwl2 : IsWay (upd (upd (upd H1 h (.lst (nl bs))) wl (.lst [])) tp (.tup [.ref f, .ref h, .ref wl])) wl [] := ⟨[], same_upd htp _ _ upd_same, .nil⟩
      have s2 := s1.trans z1
      have hHh : H h = none := s1.free hh
      have hHw : H wl = none := s1.free ((same_upd hh).free hwl)
      have hf2 := mPls.m z1 hf
      have hfl := TA.deal_lengths hD
      clear hf hp
      generalize upd (upd (upd H1 h (.lst (nl bs))) wl (.lst [])) tp (.tup [.ref f, .ref h, .ref wl]) = H2 at *
      intro kd hkd
      have hkd3 : IsTk (upd H2 kd (.dT [])) kd (kindsTo D 0) := upd_same
      have s3 : Same H2 (upd H2 kd (.dT [])) := same_upd hkd
      obtain ⟨fs, hf3, hf4⟩ := hf2
      have hfsl := hf4.length
      refine ⟨_, rfl, f, fs.map V.ref, rfl, SqL.of (s3 _ _ hf3), ?_⟩
      refine for_it (walk_enumK (k := kdL K)) (fun i σ H' => ∃ x8 x9 x10 : Option V, σ = [some (.ref st), some (.ref b), some (.ref c), some (.ref v), some (.ref f), some (.ref h), some (.ref wl), some (.ref kd), x8, x9, x10, none, none, none, none] ∧ Same H2 H' ∧ IsTk H' kd (kindsTo D i))
        ⟨none, none, none, rfl, s3, hkd3⟩ (fun i σ H' _ ⟨_, _, _, _, s4, _⟩ => SqL.of (s4 _ _ hf3)) ?_ ?_
      · rintro i x σ H4 H5 hi ⟨x8, x9, x10, rfl, s4, hk4⟩ ⟨t, u, v', rfl, ht, rfl, hu1, hv1⟩
        obtain rfl := Option.some.inj hu1
        obtain ⟨r, hr, rfl⟩ := refs_at hv1
        rw [List.length_map, hfsl] at hi
        have hDi : D[i]? = some (TA.gp D i) := TA.some_getD [] hi
        obtain ⟨dd, hdd, rs, hr1, hr2⟩ := paired_at' hf4 hr
        obtain rfl : TA.gp D i = dd := Option.some.inj (hDi.symm.trans hdd)
        have hrl := hr2.length
        refine ⟨t, _, rfl, SqT.of upd_same, rfl, _, _, rfl, _, _, rfl, rfl, ?_⟩
        have s5 := s4.trans (same_upd (o := .tup [vn i, .ref r]) ht)
        have hk5 : IsTk (upd H4 t (.tup [vn i, .ref r])) kd (kindsTo D i) := mTk.m (same_upd ht) hk4
        refine ⟨_, rfl, r, rfl, ⟨_, SqL.of (s5 _ _ hr1)⟩, ?_⟩
        refine for_it walk_list (fun j σ H' => ∃ x10 : Option V, σ = [some (.ref st), some (.ref b), some (.ref c), some (.ref v), some (.ref f), some (.ref h), some (.ref wl), some (.ref kd), some (vn i), some (.ref r), x10, none, none, none, none] ∧ Same H2 H' ∧ IsTk H' kd (kindsTo D i ++ ((TA.gp D i).take j).map fun q => (q, i)))
          ⟨x10, rfl, s5, by rw [List.take_zero, List.map_nil, List.append_nil]; exact hk5⟩ (fun j σ H' _ ⟨_, _, s6, _⟩ => SqL.of (s6 _ _ hr1)) ?_ ?_
        · rintro j x σ H6 H7 hj ⟨y10, rfl, s6, hk6⟩ ⟨rfl, hx⟩
          obtain ⟨q0, hq0, rfl⟩ := refs_at hx
          obtain ⟨q, hq, hqq⟩ := paired_at' hr2 hq0
          have hq7 := s6 _ _ hqq
          have hnew : q ∉ (kindsTo D i ++ ((TA.gp D i).take j).map fun q => (q, i)).map (·.1) := by
            rw [List.map_append, kindsTo_keys (by omega), List.map_map]
            have e0 : (((TA.gp D i).take j).map ((fun x : Plc × Nat => x.1) ∘ fun q => (q, i))) = (TA.gp D i).take j := List.map_id _
            rw [e0]
            have e1 : D.flatten = ((D.take i).flatten ++ (TA.gp D i).take j) ++ (q :: ((TA.gp D i).drop (j + 1) ++ (D.drop (i + 1)).flatten)) := by
              rw [flat_split hDi]
              conv => lhs; rw [list_split hq]
              simp only [List.append_assoc, List.cons_append]
            have hnd := hD.nd
            rw [e1] at hnd
            exact fun z => (List.nodup_append.mp hnd).2.2 q z q List.mem_cons_self rfl
          have hlen : (kindsTo D i ++ ((TA.gp D i).take j).map fun q => (q, i)).length < 63 := by
            rw [List.length_append, List.length_map]
            have h1 := congrArg List.length (kindsTo_keys (D := D) (i := i) (by omega))
            have h2 := flat_len (D := D) (i := i + 1)
            rw [flat_take hDi, List.length_append] at h2
            rw [List.length_map] at h1
            have h3 : ((TA.gp D i).take j).length ≤ (TA.gp D i).length := List.length_take_le' _ _
            omega
          refine ⟨_, rfl, _, rfl, _, rfl, kd, _, rfl, DPut.t (k := keyOf q) hk6 hq7 (by rw [kvT_len]; exact Nat.lt_trans hlen (by decide)), ?_⟩
          rw [put_kvT, TA.put_new hnew, List.append_assoc]
          refine ⟨_, rfl, same_mut s6 hkd, ?_⟩
          rw [take_snoc hq]
          exact upd_same
        · rintro σ H6 ⟨y10, rfl, s6, hk6⟩
          refine ⟨_, _, _, rfl, s6, ?_⟩
          rw [kindsTo_succ]
          rw [List.length_map, hrl, List.take_length] at hk6
          exact hk6
      · rintro σ H4 ⟨x8, x9, x10, rfl, s4, hk4⟩
        rw [List.length_map, hfsl] at hk4
        have hkn : ((kindsTo D D.length).map (·.1)).Nodup := by
          rw [kindsTo_keys (Nat.le_refl _), List.take_length]; exact hD.nd
        have s04 : Same H H4 := s2.trans s4
        have hh4 := s4 _ _ hh2
        have hw4 := mWay.m s4 hwl2
        obtain ⟨ws0, hw41, hw42⟩ := id hw4
        have sB : Same H (cut (cut H4 h) wl) := same_cut (same_cut s04 hHh) hHw
        have hBh : cut (cut H4 h) wl h = none := (cut_ne nhw).trans cut_self
        have hBw : cut (cut H4 h) wl wl = none := cut_self
        have hBk : IsTk (cut (cut H4 h) wl) kd (kindsTo D D.length) := by
          have n1 : kd ≠ wl := fun e => by have z : H4 kd = _ := hk4; rw [e, hw41] at z; cases z
          have n2 : kd ≠ h := fun e => by have z : H4 kd = _ := hk4; rw [e, hh4] at z; cases z
          exact (cut_ne n1).trans ((cut_ne n2).trans hk4)
        have sB4 : Same (cut (cut H4 h) wl) H4 := cut_same.trans cut_same
        generalize cut (cut H4 h) wl = B at *
        have hln : ∀ k ∈ kinds, ∀ s ∈ k, s < n := F.lt
        refine ⟨fun m σ H' => ∃ (y8 y9 y10 y11 y12 y13 : Option V) (here : List Nat) (way : List (Nat × Nat)), m = ws.sum - here.sum ∧ σ = [some (.ref st), some (.ref b), some (.ref c), some (.ref v), some (.ref f), some (.ref h), some (.ref wl), some (.ref kd), y8, y9, y10, y11, y12, y13, none] ∧ Same B H' ∧ IsN H' h here ∧ IsWay H' wl way ∧ TA.WayInv kinds bs cs ws D here way,
          ⟨_, x8, x9, x10, none, none, none, bs, [], rfl, rfl, sB4, hh4, hw4, TA.way_start F hD⟩, ?_⟩
        rintro m σ H5 ⟨y8, y9, y10, y11, y12, y13, here, way, rfl, rfl, s5, hh5, hw5, I⟩
        have hhl : here.length = n := by rw [I.len, F.wl]
        have hn4 := F.n4
        refine ⟨_, rfl, h, nl here, rfl, .inl ⟨SqL.of hh5, fun tt htt => ?_⟩⟩
        have s6 : Same B (upd H5 tt (.tup (nl here))) := s5.trans (same_upd htt)
        have hh6 : IsN (upd H5 tt (.tup (nl here))) h here := mN.m (same_upd htt) hh5
        have hw6 : IsWay (upd H5 tt (.tup (nl here))) wl way := mWay.m (same_upd htt) hw5
        refine ⟨_, rfl, eNT.f here, eNT.f ws, dp_nt upd_same, dp_nt (s6 _ _ (sB _ _ Ar.v)), eNT.shaped (by decide) _, eNT.shaped (by decide) _, ?_⟩
        generalize upd H5 tt (.tup (nl here)) = H6 at s6 hh6 hw6 ⊢
        by_cases c : here = ws
        · refine ⟨false, nbl (eNT.eqvT c), iteF ?_⟩
          subst c
          obtain ⟨w1, w2⟩ := TA.way_end F hD I
          exact ⟨_, rfl, kW _ wl way (sB.trans s6) hw6 w1 w2⟩
        · refine ⟨true, pbl (eNT.eqvF c), iteT ⟨_, fun _ _ h => h, ?_⟩⟩
          have hlne := TA.left_ne I.len I.le c
          refine ⟨_, rfl, h, nl here, rfl, .inl (SqL.of hh6), _, rfl, (by rw [nl_length]; omega), (by rw [nl_length]; omega), fun D1 hD1 => ?_⟩
          have L : Lc H6 D1 ((nl here).length : Int).toNat (fun i => (List.range i).filter fun s => decide (TA.g here s < TA.g ws s)) (fun y b _ => y = vn b) :=
            ⟨hD1, rfl, (fun i => Nat.le_trans (List.length_filter_le _ _) (by simp)), (by rw [Int.toNat_natCast, nl_length]; exact small64 (by omega)), fun _ _ _ _ h _ => h⟩
          refine lc_gen L walk_range (fun _ _ => trivial) (fun i x H7 H8 hi pi hx => ?_) (fun H7 ys s7 hd7 hp7 => ?_)
          · obtain ⟨rfl, hx⟩ := hx
            have hx : x = vn i := hx.trans (congrArg V.int (Int.zero_add _))
            subst hx
            have hi' := hi
            rw [Int.toNat_natCast, nl_length] at hi
            refine ⟨rfl, _, rfl, _, rfl, h, nl here, _, _, rfl, rfl, SqL.of (pi.same _ _ hh6), at_nl hi, _, rfl, _, rfl, v, nl ws, _, _, rfl, rfl, SqT.of ((s6.trans pi.same) _ _ (sB _ _ Ar.v)), at_nl (by rw [F.wl]; omega), _, _, rfl, rfl, _, rfl, ?_⟩
            by_cases c2 : TA.g here i < TA.g ws i
            · refine iteP (by omega) ⟨_, rfl, L.put hi' pi (Same.refl _) ?_ rfl⟩
              show (List.range (i + 1)).filter _ = _
              rw [List.range_succ]; exact filter_put (decide_eq_true c2)
            · refine iteN (by omega) (L.skip pi (Same.refl _) ?_)
              show (List.range (i + 1)).filter _ = _
              rw [List.range_succ]; exact filter_skip (decide_eq_false c2)
          rw [paired_vn hp7, Int.toNat_natCast, nl_length] at hd7
          have hd7 : IsN H7 D1 (TA.leftOf here ws) := hd7
          have hlm : ∀ s ∈ TA.leftOf here ws, s < here.length ∧ TA.g here s < TA.g ws s := fun s hs => TA.mem_leftOf.mp hs
          have hll : (TA.leftOf here ws).length ≤ 4 := by
            have : (TA.leftOf here ws).length ≤ here.length := Nat.le_trans (List.length_filter_le _ _) (by simp)
            omega
          have s07 := s6.trans s7
          have hh7 := mN.m s7 hh6
          have hw7 := mWay.m s7 hw6
          generalize hleft : TA.leftOf here ws = left at hlne hd7 hlm hll
          refine ⟨_, rfl, D1, rfl, ⟨_, SqL.of hd7⟩, fun D2 hD2 => ?_⟩
          have L2 : Lc H7 D2 (nl left).length (fun i => (left.take i).map (TA.g here)) (fun y b _ => y = vn b) := ⟨hD2, rfl, (fun i => by rw [List.length_map, List.length_take]; exact Nat.min_le_left _ _), by rw [nl_length]; exact small64 (by omega), fun _ _ _ _ h _ => h⟩
          refine lc_gen L2 walk_list (fun H2 s2 => SqL.of (s2 _ _ hd7)) (fun i x H8 H9 hi pi hx => ?_) (fun H8 ys s8 hd8 hp8 => ?_)
          · obtain ⟨rfl, hx'⟩ := hx
            obtain ⟨m, hm, rfl⟩ := nl_of hx'
            refine ⟨rfl, ?_⟩
            exact ⟨_, rfl, _, rfl, h, nl here, _, _, rfl, rfl, SqL.of (pi.same _ _ hh7), at_nl (hlm m (List.mem_of_getElem? hm)).1, L2.put hi pi (Same.refl _) (take_snoc hm) rfl⟩
          rw [paired_vn hp8, nl_length, List.take_length] at hd8
          refine ⟨D2, zi (left.map (TA.g here)), rfl, SqL.of hd8, (by rw [zi_length, List.length_map]; exact List.length_pos_iff.mpr hlne), fun l' hl' hmin => ?_⟩
          obtain ⟨l, hl, rfl⟩ := zi_mem hl'
          have hmin : ∀ s ∈ left, l ≤ TA.g here s := fun s hs => by
            have := hmin (TA.g here s : Int) (mem_zi.mpr (List.mem_map.mpr ⟨s, hs, rfl⟩))
            omega
          refine ⟨_, rfl, D1, rfl, ⟨_, SqL.of (s8 _ _ hd7)⟩, fun D3 hD3 => ?_⟩
          have L3 : Lc H8 D3 (nl left).length (fun i => (left.take i).filter fun s => decide (TA.g here s = l)) (fun y b _ => y = vn b) :=
            ⟨hD3, rfl, (fun i => Nat.le_trans (List.length_filter_le _ _) (by rw [List.length_take]; exact Nat.min_le_left _ _)), by rw [nl_length]; exact small64 (by omega), fun _ _ _ _ h _ => h⟩
          refine lc_gen L3 walk_list (fun H2 s2 => SqL.of (s2 _ _ (s8 _ _ hd7))) (fun i x H9 H10 hi pi hx => ?_) (fun H9 ys s9 hd9 hp9 => ?_)
          · obtain ⟨rfl, hx'⟩ := hx
            obtain ⟨m, hm, rfl⟩ := nl_of hx'
            refine ⟨rfl, _, rfl, _, rfl, h, nl here, _, _, rfl, rfl, SqL.of ((s8.trans pi.same) _ _ hh7), at_nl (hlm m (List.mem_of_getElem? hm)).1, _, rfl, rfl, _, rfl, ?_⟩
            by_cases c2 : TA.g here m = l
            · refine iteP (vn_inj c2) ⟨_, rfl, L3.put hi pi (Same.refl _) ?_ rfl⟩
              show (left.take (i + 1)).filter _ = _
              rw [take_snoc' hm]; exact filter_put (decide_eq_true c2)
            · refine iteN (fun z => c2 (by injection z with z; omega)) (L3.skip pi (Same.refl _) ?_)
              show (left.take (i + 1)).filter _ = _
              rw [take_snoc' hm]; exact filter_skip (decide_eq_false c2)
          rw [paired_vn hp9, nl_length, List.take_length] at hd9
          obtain ⟨s1', hs1, hs2⟩ := List.mem_map.mp hl
          have hfm : s1' ∈ left.filter fun s => decide (TA.g here s = l) := List.mem_filter.mpr ⟨hs1, decide_eq_true hs2⟩
          cases hfl2 : left.filter fun s => decide (TA.g here s = l) with
          | nil => rw [hfl2] at hfm; cases hfm
          | cons sh rest =>
            rw [hfl2] at hd9
            have hsm : sh ∈ left.filter fun s => decide (TA.g here s = l) := by rw [hfl2]; exact List.mem_cons_self
            obtain ⟨hsl, hsv⟩ := List.mem_filter.mp hsm
            have hsv : TA.g here sh = l := of_decide_eq_true hsv
            obtain ⟨hsh1, hsh2⟩ := hlm sh hsl
            have s09 := (s07.trans s8).trans s9
            refine ⟨D3, _, _, _, rfl, rfl, SqL.of hd9, (show atI (nl (sh :: rest)) ((0 : Nat) : Int) = some (vn sh) from atI_nat rfl), ?_⟩
            have hbh := I.hist.le hln F.bl
            obtain ⟨p', hp', hpq⟩ := TA.deal_covers F hD (s := sh) (l := l) (by omega) (by rw [← hsv]; exact hbh.1 sh) (by rw [← hsv]; exact hsh2)
            have hlk : look (kindsTo D D.length) (sh, l) = some p' := TA.look_some hkn (kindsTo_mem (by rw [hD.len]; exact hp') hpq)
            have hw9 := mWay.m (s8.trans s9) hw7
            obtain ⟨ps, hp1, hp2⟩ := hw9
            refine ⟨_, rfl, .inl ⟨rfl, _, SqL.of hp1⟩, ?_⟩
            refine ⟨_, rfl, _, rfl, _, rfl, by show 2 ≤ sizeLine; decide, fun kt hkt => ?_⟩
            have s10 : Same H9 (upd H9 kt (.tup [vn sh, vn l])) := same_upd hkt
            have hg : DGet (upd H9 kt (.tup [vn sh, vn l])) kd (.ref kt) (some (vn p')) := by
              have := DGet.t (k := keyOf (sh, l)) (mTk.m (s09.trans s10) hBk) upd_same
              rw [val_kvT, hlk] at this
              exact this
            refine ⟨kd, _, rfl, hg, _, rfl, by show 3 ≤ sizeLine; decide, fun st' hst' => ?_⟩
            have s11 : Same H9 (upd (upd H9 kt (.tup [vn sh, vn l])) st' (.tup [.str "put", vn p', vn sh])) := s10.trans (same_upd hst')
            have hst11 : IsStep (upd (upd H9 kt (.tup [vn sh, vn l])) st' (.tup [.str "put", vn p', vn sh])) st' (p', sh) := upd_same
            have I' := TA.way_step F hD I (by rw [hleft]; exact hsl) hsv.symm (by rw [hleft]; exact hmin) hp' hpq
            have hwlen : way.length ≤ 60 := by
              have h1 := hbh.2.2
              have h2 := sum_le_of I.len I.le
              have h3 := F.sum
              omega
            have hp3 := s11 _ _ hp1
            have hh11 := s11 _ _ (((s8.trans s9) _ _ hh7))
            have s011 := s09.trans s11
            have hp4 := paired_mono (fun a b h => mStep.m s11 h) hp2
            refine ⟨wl, _, _, rfl, rfl, hp3, (by rw [List.length_map, hp2.length]; exact Nat.lt_of_le_of_lt hwlen (by decide)), ?_⟩
            generalize upd (upd H9 kt (.tup [vn sh, vn l])) st' (.tup [.str "put", vn p', vn sh]) = H11 at s11 hst11 hp3 hh11 s011 hp4 ⊢
            have hh12 : upd H11 wl (.lst (ps.map V.ref ++ [.ref st'])) h = some (.lst (nl here)) := (upd_ne nhw).trans hh11
            refine ⟨_, rfl, _, _, rfl, rfl, _, rfl, _, rfl, h, nl here, _, sh, rfl, rfl, hh12, ixN_nat (by rw [nl_length]; exact hsh1), ?_⟩
            have hb : (nl here).set sh (V.int ((l : Int) + 1)) = nl (TA.bump here sh) := by
              unfold TA.bump
              rw [hsv]
              exact nl_set here sh (l + 1)
            rw [hb]
            have hsum := TA.sum_bump hsh1
            have hsle := sum_le_of I'.len I'.le
            refine ⟨_, ?_, _, _, _, _, _, _, TA.bump here sh, way ++ [(p', sh)], rfl, rfl, same_mut (same_mut s011 hBw) hBh, upd_same, ⟨ps ++ [st'], ?_, ?_⟩, I'⟩
            · omega
            · rw [upd_ne (Ne.symm nhw), upd_same, List.map_append]; rfl
            · have n1 : ∀ xs, H11 wl ≠ some (.tup xs) := fun xs z => by rw [hp3] at z; cases z
              have n2 : ∀ xs, upd H11 wl (.lst (ps.map V.ref ++ [.ref st'])) h ≠ some (.tup xs) := fun xs z => by rw [hh12] at z; cases z
              exact paired_snoc (paired_mono (fun a b hs => (hs.updN n1).updN n2) hp4) ((hst11.updN n1).updN n2)
    · refine ⟨p, _, _, _, rfl, rfl, SqT.of hp, rfl, _, rfl, b, nl bs, rfl, .inr (SqT.of (s1 _ _ Ar.b)), fun h hh => ⟨by show 0 ≤ sizeLine; decide, fun wl hwl => ?_⟩⟩
      refine ⟨by show 3 ≤ sizeLine; decide, fun tp htp => ?_⟩
      refine ⟨tp, _, rfl, SqT.of upd_same, rfl, _, _, rfl, _, _, rfl, _, _, rfl, rfl, ?_⟩
      refine ⟨_, rfl, rfl, true, rfl, iteT ?_⟩
      exact kC _ lot (((s1.trans (same_upd hh)).trans (same_upd hwl)).trans (same_upd htp)) hC
end
end Tw
namespace Tw
open PySem PySem.Spec PyProof.Rows L2 TR
open TA (Plc zi Tk look put)
/-- what the calls from outside hand in -/
structure CArgs (C : Addr) (H : Hp) (st b c v : Addr) (n : Nat) (kinds : List (List Nat)) (bs cs ws : List Nat) : Prop where
  st : IsStore C n H st kinds
  b : IsN H b bs
  c : IsN H c cs
  v : IsSeq H v (nl ws)
  F : TA.Fit n kinds bs cs ws
theorem CArgs.mono {C : Addr} {H H' : Hp} {st b c v : Addr} {n : Nat} {kinds : List (List Nat)} {bs cs ws : List Nat} (A : CArgs C H st b c v n kinds bs cs ws) (s : Same H H') : CArgs C H' st b c v n kinds bs cs ws :=
  ⟨mStore.m s A.st, mN.m s A.b, mN.m s A.c, mSeq.m s A.v, A.F⟩
section
variable {P : Program} {w : World} {K : PySem.W.Frag} {mg : Str → Option Value} {base : Heap}
theorem sc_can_end : FnScope ["store", "board", "counts", "wished", "told", "some", "end"] ["store", "board", "counts", "wished"] (defScope s_can_end) := ⟨rfl, rfl, rfl, by decide +kernel, rfl, by decide +kernel, by decide +kernel⟩
def sp_can_end (C : Addr) : Sp := fun vs H Q _ => ∃ (st b c v : Addr) (n : Nat) (kinds : List (List Nat)) (bs cs ws : List Nat), vs = [.ref st, .ref b, .ref c, .ref v] ∧ CArgs C H st b c v n kinds bs cs ws ∧ (∀ H' D, Same H H' → TA.IsDeal kinds bs cs ws D → Q (.bl true) H') ∧ ∀ H' lot, Same H H' → TA.IsCrowd kinds bs cs ws lot → Q (.bl false) H'
theorem ok_can_end (T : Txt K mg) : FnOk P w K mg base CX0 7 T.d_can_end.f T.d_can_end.fd ["store", "board", "counts", "wished"] (sp_can_end T.st.C) := by
  refine T.d_can_end.F.ok sc_can_end (fun vs H Q E h => ?_) (fun cdv A outer s H vs Q E hr h => ?_)
  · obtain ⟨st, b, c, v, n, kinds, bs, cs, ws, rfl, _⟩ := h
    rfl
  · obtain ⟨st, b, c, v, n, kinds, bs, cs, ws, rfl, Ar, kT, kF⟩ := h
    refine ⟨_, (pss_cons (ps_asg (pe_call (ok_want_ending T) (hr.mono (by decide)) (by rfl) T.d_want_ending.m T.d_want_ending.F.kp T.d_want_ending.b .nil pass0 (pa_cons (pv 0) (pa_cons (pv 1) (pa_cons (pv 2) (pa_cons (pv 3) pa_nil))))) (pg_tupK (K := K) (n := 3) rfl rfl (pgs_cons (pg_name (i := 4) sc_can_end.nd rfl (Or.inl rfl)) (pgs_cons (pg_name (i := 5) sc_can_end.nd rfl (Or.inl rfl)) (pgs_cons (pg_name (i := 6) sc_can_end.nd rfl (Or.inl rfl)) pgs_nil)))))
    (pss_one (ps_ret (pe_cmpR op_isN (pe_ix ix_tup (pe_call (ok_dealing_of T) (hr.mono (by decide)) (by rfl) T.d_dealing_of.m T.d_dealing_of.F.kp T.d_dealing_of.b .nil pass0 (pa_cons (pv 0) (pa_cons (pv 4) (pa_cons (pv 5) (pa_cons (pv 6) pa_nil))))) pe_int (fun _ _ => rfl)) pe_non (nomark _))))), ?_⟩
    refine ⟨_, rfl, _, rfl, _, rfl, _, rfl, st, b, c, v, n, kinds, bs, cs, ws, rfl, Ar.st, Ar.b, Ar.c, Ar.v, Ar.F, fun H1 p b' c' v' s1 hp hb hc hv => ?_⟩
    refine ⟨p, _, rfl, SqT.of hp, rfl, _, _, rfl, _, _, rfl, _, _, rfl, rfl, ?_⟩
    have A1 : DArgs T.st.C H1 st b' c' v' n kinds bs cs ws := ⟨mStore.m s1 Ar.st, hb, hc, hv, Ar.F⟩
    refine ⟨_, rfl, _, rfl, _, rfl, _, rfl, st, b', c', v', n, kinds, bs, cs, ws, rfl, A1, fun H2 q f D s2 hq hf hD => ?_, fun H2 q l lot s2 hq hl hC => ?_⟩
    · exact ⟨q, _, _, _, rfl, rfl, SqT.of hq, rfl, rfl, kT _ D (s1.trans s2) hD⟩
    · exact ⟨q, _, _, _, rfl, rfl, SqT.of hq, rfl, rfl, kF _ lot (s1.trans s2) hC⟩
theorem sc_dealing : FnScope ["store", "board", "counts", "wished", "told", "some", "end"] ["store", "board", "counts", "wished"] (defScope s_dealing) := ⟨rfl, rfl, rfl, by decide +kernel, rfl, by decide +kernel, by decide +kernel⟩
def sp_dealing (C : Addr) : Sp := fun vs H Q _ => ∃ (st b c v : Addr) (n : Nat) (kinds : List (List Nat)) (bs cs ws : List Nat), vs = [.ref st, .ref b, .ref c, .ref v] ∧ CArgs C H st b c v n kinds bs cs ws ∧ (∀ H' f D, Same H H' → IsPls H' f D → TA.IsDeal kinds bs cs ws D → Q (.ref f) H') ∧ ∀ H' lot, Same H H' → TA.IsCrowd kinds bs cs ws lot → Q .non H'
theorem ok_dealing (T : Txt K mg) : FnOk P w K mg base CX0 7 T.d_dealing.f T.d_dealing.fd ["store", "board", "counts", "wished"] (sp_dealing T.st.C) := by
  refine T.d_dealing.F.ok sc_dealing (fun vs H Q E h => ?_) (fun cdv A outer s H vs Q E hr h => ?_)
  · obtain ⟨st, b, c, v, n, kinds, bs, cs, ws, rfl, _⟩ := h
    rfl
  · obtain ⟨st, b, c, v, n, kinds, bs, cs, ws, rfl, Ar, kT, kF⟩ := h
    refine ⟨_, (pss_cons (ps_asg (pe_call (ok_want_ending T) (hr.mono (by decide)) (by rfl) T.d_want_ending.m T.d_want_ending.F.kp T.d_want_ending.b .nil pass0 (pa_cons (pv 0) (pa_cons (pv 1) (pa_cons (pv 2) (pa_cons (pv 3) pa_nil))))) (pg_tupK (K := K) (n := 3) rfl rfl (pgs_cons (pg_name (i := 4) sc_dealing.nd rfl (Or.inl rfl)) (pgs_cons (pg_name (i := 5) sc_dealing.nd rfl (Or.inl rfl)) (pgs_cons (pg_name (i := 6) sc_dealing.nd rfl (Or.inl rfl)) pgs_nil)))))
    (pss_one (ps_ret (pe_ix ix_tup (pe_call (ok_dealing_of T) (hr.mono (by decide)) (by rfl) T.d_dealing_of.m T.d_dealing_of.F.kp T.d_dealing_of.b .nil pass0 (pa_cons (pv 0) (pa_cons (pv 4) (pa_cons (pv 5) (pa_cons (pv 6) pa_nil))))) pe_int (fun _ _ => rfl))))), ?_⟩
    refine ⟨_, rfl, _, rfl, _, rfl, _, rfl, st, b, c, v, n, kinds, bs, cs, ws, rfl, Ar.st, Ar.b, Ar.c, Ar.v, Ar.F, fun H1 p b' c' v' s1 hp hb hc hv => ?_⟩
    refine ⟨p, _, rfl, SqT.of hp, rfl, _, _, rfl, _, _, rfl, _, _, rfl, rfl, ?_⟩
    have A1 : DArgs T.st.C H1 st b' c' v' n kinds bs cs ws := ⟨mStore.m s1 Ar.st, hb, hc, hv, Ar.F⟩
    refine ⟨_, rfl, _, rfl, _, rfl, _, rfl, st, b', c', v', n, kinds, bs, cs, ws, rfl, A1, fun H2 q f D s2 hq hf hD => ?_, fun H2 q l lot s2 hq hl hC => ?_⟩
    · exact ⟨q, _, _, _, rfl, rfl, SqT.of hq, rfl, kT _ f D (s1.trans s2) hf hD⟩
    · exact ⟨q, _, _, _, rfl, rfl, SqT.of hq, rfl, kF _ lot (s1.trans s2) hC⟩
theorem sc_crowd : FnScope ["store", "board", "counts", "wished", "told", "some", "end"] ["store", "board", "counts", "wished"] (defScope s_crowd) := ⟨rfl, rfl, rfl, by decide +kernel, rfl, by decide +kernel, by decide +kernel⟩
def sp_crowd (C : Addr) : Sp := fun vs H Q _ => ∃ (st b c v : Addr) (n : Nat) (kinds : List (List Nat)) (bs cs ws : List Nat), vs = [.ref st, .ref b, .ref c, .ref v] ∧ CArgs C H st b c v n kinds bs cs ws ∧ (∀ H' D, Same H H' → TA.IsDeal kinds bs cs ws D → Q .non H') ∧ ∀ H' l lot, Same H H' → IsN H' l lot → TA.IsCrowd kinds bs cs ws lot → Q (.ref l) H'
theorem ok_crowd (T : Txt K mg) : FnOk P w K mg base CX0 7 T.d_crowd.f T.d_crowd.fd ["store", "board", "counts", "wished"] (sp_crowd T.st.C) := by
  refine T.d_crowd.F.ok sc_crowd (fun vs H Q E h => ?_) (fun cdv A outer s H vs Q E hr h => ?_)
  · obtain ⟨st, b, c, v, n, kinds, bs, cs, ws, rfl, _⟩ := h
    rfl
  · obtain ⟨st, b, c, v, n, kinds, bs, cs, ws, rfl, Ar, kT, kF⟩ := h
    refine ⟨_, (pss_cons (ps_asg (pe_call (ok_want_ending T) (hr.mono (by decide)) (by rfl) T.d_want_ending.m T.d_want_ending.F.kp T.d_want_ending.b .nil pass0 (pa_cons (pv 0) (pa_cons (pv 1) (pa_cons (pv 2) (pa_cons (pv 3) pa_nil))))) (pg_tupK (K := K) (n := 3) rfl rfl (pgs_cons (pg_name (i := 4) sc_crowd.nd rfl (Or.inl rfl)) (pgs_cons (pg_name (i := 5) sc_crowd.nd rfl (Or.inl rfl)) (pgs_cons (pg_name (i := 6) sc_crowd.nd rfl (Or.inl rfl)) pgs_nil)))))
    (pss_one (ps_ret (pe_ix ix_tup (pe_call (ok_dealing_of T) (hr.mono (by decide)) (by rfl) T.d_dealing_of.m T.d_dealing_of.F.kp T.d_dealing_of.b .nil pass0 (pa_cons (pv 0) (pa_cons (pv 4) (pa_cons (pv 5) (pa_cons (pv 6) pa_nil))))) pe_int (fun _ _ => rfl))))), ?_⟩
    refine ⟨_, rfl, _, rfl, _, rfl, _, rfl, st, b, c, v, n, kinds, bs, cs, ws, rfl, Ar.st, Ar.b, Ar.c, Ar.v, Ar.F, fun H1 p b' c' v' s1 hp hb hc hv => ?_⟩
    refine ⟨p, _, rfl, SqT.of hp, rfl, _, _, rfl, _, _, rfl, _, _, rfl, rfl, ?_⟩
    have A1 : DArgs T.st.C H1 st b' c' v' n kinds bs cs ws := ⟨mStore.m s1 Ar.st, hb, hc, hv, Ar.F⟩
    refine ⟨_, rfl, _, rfl, _, rfl, _, rfl, st, b', c', v', n, kinds, bs, cs, ws, rfl, A1, fun H2 q f D s2 hq hf hD => ?_, fun H2 q l lot s2 hq hl hC => ?_⟩
    · exact ⟨q, _, _, _, rfl, rfl, SqT.of hq, rfl, kT _ D (s1.trans s2) hD⟩
    · exact ⟨q, _, _, _, rfl, rfl, SqT.of hq, rfl, kF _ l lot (s1.trans s2) hl hC⟩
theorem sc_told_way : FnScope ["store", "board", "counts", "wished", "told", "some", "end"] ["store", "board", "counts", "wished"] (defScope s_told_way) := ⟨rfl, rfl, rfl, by decide +kernel, rfl, by decide +kernel, by decide +kernel⟩
def sp_told_way (C : Addr) : Sp := fun vs H Q _ => ∃ (st b c v : Addr) (n : Nat) (kinds : List (List Nat)) (bs cs ws : List Nat), vs = [.ref st, .ref b, .ref c, .ref v] ∧ CArgs C H st b c v n kinds bs cs ws ∧ (∀ H' p way, Same H H' → IsWay H' p way → TA.Hist kinds bs way ws → TA.usedOf kinds.length way = cs → Q (.ref p) H') ∧ ∀ H' lot, Same H H' → TA.IsCrowd kinds bs cs ws lot → Q .non H'
theorem ok_told_way (T : Txt K mg) : FnOk P w K mg base CX0 7 T.d_told_way.f T.d_told_way.fd ["store", "board", "counts", "wished"] (sp_told_way T.st.C) := by
  refine T.d_told_way.F.ok sc_told_way (fun vs H Q E h => ?_) (fun cdv A outer s H vs Q E hr h => ?_)
  · obtain ⟨st, b, c, v, n, kinds, bs, cs, ws, rfl, _⟩ := h
    rfl
  · obtain ⟨st, b, c, v, n, kinds, bs, cs, ws, rfl, Ar, kT, kF⟩ := h
    refine ⟨_, (pss_cons (ps_asg (pe_call (ok_want_ending T) (hr.mono (by decide)) (by rfl) T.d_want_ending.m T.d_want_ending.F.kp T.d_want_ending.b .nil pass0 (pa_cons (pv 0) (pa_cons (pv 1) (pa_cons (pv 2) (pa_cons (pv 3) pa_nil))))) (pg_tupK (K := K) (n := 3) rfl rfl (pgs_cons (pg_name (i := 4) sc_told_way.nd rfl (Or.inl rfl)) (pgs_cons (pg_name (i := 5) sc_told_way.nd rfl (Or.inl rfl)) (pgs_cons (pg_name (i := 6) sc_told_way.nd rfl (Or.inl rfl)) pgs_nil)))))
    (pss_one (ps_ret (pe_call (ok_way_of T) (hr.mono (by decide)) (by rfl) T.d_way_of.m T.d_way_of.F.kp T.d_way_of.b .nil pass0 (pa_cons (pv 0) (pa_cons (pv 4) (pa_cons (pv 5) (pa_cons (pv 6) pa_nil)))))))), ?_⟩
    refine ⟨_, rfl, _, rfl, _, rfl, _, rfl, st, b, c, v, n, kinds, bs, cs, ws, rfl, Ar.st, Ar.b, Ar.c, Ar.v, Ar.F, fun H1 p b' c' v' s1 hp hb hc hv => ?_⟩
    refine ⟨p, _, rfl, SqT.of hp, rfl, _, _, rfl, _, _, rfl, _, _, rfl, rfl, ?_⟩
    have A1 : DArgs T.st.C H1 st b' c' v' n kinds bs cs ws := ⟨mStore.m s1 Ar.st, hb, hc, hv, Ar.F⟩
    exact ⟨_, rfl, _, rfl, _, rfl, _, rfl, st, b', c', v', n, kinds, bs, cs, ws, rfl, A1, fun H2 q way s2 h1 h2 h3 => kT _ q way (s1.trans s2) h1 h2 h3, fun H2 lot s2 hC => kF _ lot (s1.trans s2) hC⟩
theorem sc_is_dealing : FnScope ["store", "board", "counts", "wished", "value", "told", "some", "end"] ["store", "board", "counts", "wished", "value"] (defScope s_is_dealing) := ⟨rfl, rfl, rfl, by decide +kernel, rfl, by decide +kernel, by decide +kernel⟩
def sp_is_dealing (C : Addr) : Sp := fun vs H Q _ => ∃ (st b c v a : Addr) (n : Nat) (kinds : List (List Nat)) (bs cs ws : List Nat) (D : List (List Plc)), vs = [.ref st, .ref b, .ref c, .ref v, .ref a] ∧ CArgs C H st b c v n kinds bs cs ws ∧ IsPls H a D ∧ TA.IsDeal kinds bs cs ws D ∧ ∀ H', Same H H' → Q (.bl true) H'
theorem ok_is_dealing (T : Txt K mg) : FnOk P w K mg base CX0 7 T.d_is_dealing.f T.d_is_dealing.fd ["store", "board", "counts", "wished", "value"] (sp_is_dealing T.st.C) := by
  refine T.d_is_dealing.F.ok sc_is_dealing (fun vs H Q E h => ?_) (fun cdv A outer s H vs Q E hr h => ?_)
  · obtain ⟨st, b, c, v, a, n, kinds, bs, cs, ws, D, rfl, _⟩ := h
    rfl
  · obtain ⟨st, b, c, v, a, n, kinds, bs, cs, ws, D, rfl, Ar, ha, hD, k⟩ := h
    refine ⟨_, (pss_cons (ps_asg (pe_call (ok_want_ending T) (hr.mono (by decide)) (by rfl) T.d_want_ending.m T.d_want_ending.F.kp T.d_want_ending.b .nil pass0 (pa_cons (pv 0) (pa_cons (pv 1) (pa_cons (pv 2) (pa_cons (pv 3) pa_nil))))) (pg_tupK (K := K) (n := 3) rfl rfl (pgs_cons (pg_name (i := 5) sc_is_dealing.nd rfl (Or.inl rfl)) (pgs_cons (pg_name (i := 6) sc_is_dealing.nd rfl (Or.inl rfl)) (pgs_cons (pg_name (i := 7) sc_is_dealing.nd rfl (Or.inl rfl)) pgs_nil)))))
    (pss_one (ps_ret (pe_call (ok_is_dealing_of T) (hr.mono (by decide)) (by rfl) T.d_is_dealing_of.m T.d_is_dealing_of.F.kp T.d_is_dealing_of.b .nil pass0 (pa_cons (pv 0) (pa_cons (pv 5) (pa_cons (pv 6) (pa_cons (pv 7) (pa_cons (pv 4) pa_nil))))))))), ?_⟩
    refine ⟨_, rfl, _, rfl, _, rfl, _, rfl, st, b, c, v, n, kinds, bs, cs, ws, rfl, Ar.st, Ar.b, Ar.c, Ar.v, Ar.F, fun H1 p b' c' v' s1 hp hb hc hv => ?_⟩
    refine ⟨p, _, rfl, SqT.of hp, rfl, _, _, rfl, _, _, rfl, _, _, rfl, rfl, ?_⟩
    have A1 : DArgs T.st.C H1 st b' c' v' n kinds bs cs ws := ⟨mStore.m s1 Ar.st, hb, hc, hv, Ar.F⟩
    exact ⟨_, rfl, _, rfl, _, rfl, _, rfl, _, rfl, st, b', c', v', a, n, kinds, bs, cs, ws, D, rfl, A1, mPls.m s1 ha, hD, fun H2 s2 => k _ (s1.trans s2)⟩
theorem sc_is_crowd : FnScope ["store", "board", "counts", "wished", "value", "told", "some", "end"] ["store", "board", "counts", "wished", "value"] (defScope s_is_crowd) := ⟨rfl, rfl, rfl, by decide +kernel, rfl, by decide +kernel, by decide +kernel⟩
def sp_is_crowd (C : Addr) : Sp := fun vs H Q _ => ∃ (st b c v a : Addr) (n : Nat) (kinds : List (List Nat)) (bs cs ws : List Nat) (lot : List Nat), vs = [.ref st, .ref b, .ref c, .ref v, .ref a] ∧ CArgs C H st b c v n kinds bs cs ws ∧ IsN H a lot ∧ TA.IsCrowd kinds bs cs ws lot ∧ ∀ H', Same H H' → Q (.bl true) H'
theorem ok_is_crowd (T : Txt K mg) : FnOk P w K mg base CX0 7 T.d_is_crowd.f T.d_is_crowd.fd ["store", "board", "counts", "wished", "value"] (sp_is_crowd T.st.C) := by
  refine T.d_is_crowd.F.ok sc_is_crowd (fun vs H Q E h => ?_) (fun cdv A outer s H vs Q E hr h => ?_)
  · obtain ⟨st, b, c, v, a, n, kinds, bs, cs, ws, lot, rfl, _⟩ := h
    rfl
  · obtain ⟨st, b, c, v, a, n, kinds, bs, cs, ws, lot, rfl, Ar, ha, hD, k⟩ := h
    refine ⟨_, (pss_cons (ps_asg (pe_call (ok_want_ending T) (hr.mono (by decide)) (by rfl) T.d_want_ending.m T.d_want_ending.F.kp T.d_want_ending.b .nil pass0 (pa_cons (pv 0) (pa_cons (pv 1) (pa_cons (pv 2) (pa_cons (pv 3) pa_nil))))) (pg_tupK (K := K) (n := 3) rfl rfl (pgs_cons (pg_name (i := 5) sc_is_crowd.nd rfl (Or.inl rfl)) (pgs_cons (pg_name (i := 6) sc_is_crowd.nd rfl (Or.inl rfl)) (pgs_cons (pg_name (i := 7) sc_is_crowd.nd rfl (Or.inl rfl)) pgs_nil)))))
    (pss_one (ps_ret (pe_call (ok_is_crowd_of T) (hr.mono (by decide)) (by rfl) T.d_is_crowd_of.m T.d_is_crowd_of.F.kp T.d_is_crowd_of.b .nil pass0 (pa_cons (pv 0) (pa_cons (pv 5) (pa_cons (pv 6) (pa_cons (pv 7) (pa_cons (pv 4) pa_nil))))))))), ?_⟩
    refine ⟨_, rfl, _, rfl, _, rfl, _, rfl, st, b, c, v, n, kinds, bs, cs, ws, rfl, Ar.st, Ar.b, Ar.c, Ar.v, Ar.F, fun H1 p b' c' v' s1 hp hb hc hv => ?_⟩
    refine ⟨p, _, rfl, SqT.of hp, rfl, _, _, rfl, _, _, rfl, _, _, rfl, rfl, ?_⟩
    have A1 : DArgs T.st.C H1 st b' c' v' n kinds bs cs ws := ⟨mStore.m s1 Ar.st, hb, hc, hv, Ar.F⟩
    exact ⟨_, rfl, _, rfl, _, rfl, _, rfl, _, rfl, st, b', c', v', a, n, kinds, bs, cs, ws, lot, rfl, A1, mN.m s1 ha, hD, fun H2 s2 => k _ (s1.trans s2)⟩
end
end Tw
namespace Tw
open PySem PySem.Spec PyProof.Rows L2 TR
open TA (Plc zi Tk look put)
/-! ### the pot -/
def IsPot (H : Hp) (p : Addr) : Prop := ∃ x y : Int, H p = some (.lst [.int x, .int y]) ∧ 0 ≤ x ∧ 0 ≤ y ∧ y < 2147483587
theorem max0 (x : Int) : (0 : Int) ≤ if x > 0 then x else 0 := by
  by_cases h : x > 0
  · rw [if_pos h]; omega
  · rw [if_neg h]; omega
theorem mod0 (x : Int) : (0 : Int) ≤ x % 2147483563 + 1 := by omega
theorem mod1 (x : Int) : x % 2147483563 + 1 < 2147483587 := by omega
theorem same_pot {B H H' : Hp} {p : Addr} (s : Same B H) (hB : B p = none) (s2 : Same (cut H p) H') : Same B H' := (same_cut s hB).trans s2
theorem hide {H3 : Hp} {R : Hp → Prop} {G : Hp → Prop} (r : R H3) (g : ∀ H, R H → G H) : G H3 := g _ r
section
variable {P : Program} {w : World} {K : PySem.W.Frag} {mg : Str → Option Value} {base : Heap}
theorem sc__law_pot : FnScope ["_law_script", "_law_k", "_law_cell"] ["_law_script", "_law_k"] (defScope s__law_pot) := ⟨rfl, rfl, rfl, by decide +kernel, rfl, by decide +kernel, by decide +kernel⟩
def sp__law_pot (K : PySem.W.Frag) : Sp := fun vs H Q _ => ∃ (a : Addr) (ns : List Int), vs = [.ref a, vn 0] ∧ SqL K H a (ns.map V.int) ∧ ∀ p x y, H p = none → 0 ≤ x → 0 ≤ y → y < 2147483587 → Q (.ref p) (upd H p (.lst [.int x, .int y]))
theorem ok__law_pot (T : Txt K mg) : FnOk P w K mg base CX0 1 T.d__law_pot.f T.d__law_pot.fd ["_law_script", "_law_k"] (sp__law_pot K) := by
  refine T.d__law_pot.F.ok sc__law_pot (fun vs H Q E h => ?_) (fun cdv A outer s H vs Q E hr h => ?_)
  · obtain ⟨a, ns, rfl, _⟩ := h
    rfl
  · obtain ⟨a, ns, rfl, ha, k⟩ := h
    refine ⟨_, (pss_cons (ps_set (i := 2) sc__law_pot.nd rfl (Or.inl rfl) (pe_ifExp (pt_cmpR op_lt (pv 1) (pe_callB call_len_seq (by rfl) T.b_len bt_len (pa_cons (pv 0) pa_nil)) (nomark _)) (pe_callB call_abs (by rfl) T.b_abs bt_abs (pa_cons (pe_ix ix_list (pv 0) (pv 1) (fun _ _ => rfl)) pa_nil)) (pe_op op_add (pe_op op_mul pe_int (pv 1)) pe_int)))
    (pss_one (ps_ret (pe_lst (pa_cons (pe_callB (call_max2 rfl) (by rfl) T.b_max bt_max (pa_cons pe_int (pa_cons (pe_op op_sub (pv 2) (pe_op op_pow pe_int pe_int)) pa_nil))) (pa_cons (pe_op op_add (pe_op op_mod (pe_callTy call_int1 (by rfl) T.b_int bt_int (pa_cons (pe_op op_add (pe_op op_add (pe_op op_mul (pe_op op_mod (pe_callTy call_int1 (by rfl) T.b_int bt_int (pa_cons (pv 2) pa_nil)) pe_int) pe_int) (pe_op op_mul pe_int (pv 1))) pe_int) pa_nil)) pe_int) pe_int) pa_nil)))))), ?_⟩
    refine ⟨_, rfl, _, rfl, a, _, rfl, .inl ha, _, _, rfl, rfl, ?_⟩
    by_cases c : 0 < ns.length
    · refine ⟨true, b_bl (decide_eq_true (by rw [List.length_map]; omega)), iteT ?_⟩
      have hg : (ns.map V.int)[0]? = some (V.int ns[0]) := by rw [List.getElem?_map, List.getElem?_eq_getElem c]; rfl
      refine ⟨_, rfl, _, rfl, a, _, _, _, rfl, rfl, ha, atI_nat hg, _, rfl, ?_⟩
      refine ⟨_, rfl, _, _, rfl, rfl, ⟨by decide, by decide, by decide⟩, _, _, rfl, rfl, _, _, rfl, ?_⟩
      refine ⟨_, rfl, .inl ⟨_, rfl, _, _, rfl, rfl, (show (0 : Int) < 2147483549 by decide), _, _, rfl, rfl, .inr ⟨by decide, by decide⟩, _, rfl, _, _, rfl, rfl, .inl ⟨by decide, by decide⟩, _, _, rfl, rfl, _, _, rfl, rfl, .inl ⟨_, rfl, _, _, rfl, rfl, (show (0 : Int) < 2147483563 by decide), _, _, rfl, rfl, by show 2 ≤ sizeLine; decide, fun p hp => ?_⟩⟩⟩
      exact k p _ _ hp (max0 _) (mod0 _) (mod1 _)
    · refine ⟨false, b_bl (decide_eq_false (by rw [List.length_map]; omega)), iteF ?_⟩
      refine ⟨_, rfl, _, _, rfl, rfl, .inl ⟨by decide, by decide⟩, _, _, rfl, rfl, ?_⟩
      refine ⟨_, rfl, _, _, rfl, rfl, ⟨by decide, by decide, by decide⟩, _, _, rfl, rfl, _, _, rfl, ?_⟩
      refine ⟨_, rfl, .inl ⟨_, rfl, _, _, rfl, rfl, (show (0 : Int) < 2147483549 by decide), _, _, rfl, rfl, .inr ⟨by decide, by decide⟩, _, rfl, _, _, rfl, rfl, .inl ⟨by decide, by decide⟩, _, _, rfl, rfl, _, _, rfl, rfl, .inl ⟨_, rfl, _, _, rfl, rfl, (show (0 : Int) < 2147483563 by decide), _, _, rfl, rfl, by show 2 ≤ sizeLine; decide, fun p hp => ?_⟩⟩⟩
      exact k p _ _ hp (max0 _) (mod0 _) (mod1 _)
theorem sc__law_draw : FnScope ["_law_pot_here", "_law_many", "_law_digit"] ["_law_pot_here", "_law_many"] (defScope s__law_draw) := ⟨rfl, rfl, rfl, by decide +kernel, rfl, by decide +kernel, by decide +kernel⟩
def sp__law_draw : Sp := fun vs H Q _ => ∃ (p : Addr) (m : Nat), vs = [.ref p, vn m] ∧ IsPot H p ∧ 0 < m ∧ m < 1000000000 ∧ ∀ H' d, Same (cut H p) H' → IsPot H' p → d < m → Q (vn d) H'
theorem ok__law_draw (T : Txt K mg) : FnOk P w K mg base CX0 1 T.d__law_draw.f T.d__law_draw.fd ["_law_pot_here", "_law_many"] sp__law_draw := by
  refine T.d__law_draw.F.ok sc__law_draw (fun vs H Q E h => ?_) (fun cdv A outer s H vs Q E hr h => ?_)
  · obtain ⟨p, m, rfl, _⟩ := h
    rfl
  · obtain ⟨p, m, rfl, ⟨x, y, hp, hx, hy, hy2⟩, h0, h1, k⟩ := h
    refine ⟨_, (pss_cons (ps_if (pt_cmpR op_gt (pe_ix ix_list (pv 0) pe_int (fun _ _ => rfl)) pe_int (nomark _)) (pss_cons (ps_asg (pe_callB call_divmodW (by rfl) T.b_divmod bt_divmod (pa_cons (pe_ix ix_list (pv 0) pe_int (fun _ _ => rfl)) (pa_cons (pv 1) pa_nil))) (pg_tupK (K := K) (n := 2) rfl rfl (pgs_cons (pg_sub (pv 0) pe_int set_list) (pgs_cons (pg_name (i := 2) sc__law_draw.nd rfl (Or.inl rfl)) pgs_nil))))
    (pss_one (ps_ret (pv 2)))) pss_nil)
    (pss_cons (ps_asg (pe_op op_mod (pe_callTy call_int1 (by rfl) T.b_int bt_int (pa_cons (pe_op op_add (pe_op op_mul (pe_ix ix_list (pv 0) pe_int (fun _ _ => rfl)) pe_int) pe_int) pa_nil)) pe_int) (pg_sub (pv 0) pe_int set_list))
    (pss_one (ps_ret (pe_op op_mod (pe_callTy call_int1 (by rfl) T.b_int bt_int (pa_cons (pe_op op_fdiv (pe_op op_mod (pe_callTy call_int1 (by rfl) T.b_int bt_int (pa_cons (pe_op op_mul (pe_ix ix_list (pv 0) pe_int (fun _ _ => rfl)) (pe_ix ix_list (pv 0) pe_int (fun _ _ => rfl))) pa_nil)) pe_int) pe_int) pa_nil)) (pv 1)))))), ?_⟩
    refine ⟨_, rfl, p, _, _, _, rfl, rfl, SqL.of hp, rfl, _, _, rfl, rfl, ?_⟩
    by_cases c : 0 < x
    · refine ⟨true, b_bl (decide_eq_true c), iteT ?_⟩
      refine ⟨_, rfl, p, _, _, _, rfl, rfl, SqL.of hp, rfl, _, rfl, x, (m : Int), rfl, ?_, fun q hq => ?_⟩
      · exact ⟨by omega, PyProof.noPylong_small (by omega)⟩
      have hp1 := same_upd (o := .tup [.int (x / (m : Int)), .int (x % (m : Int))]) hq _ _ hp
      obtain ⟨d, hd⟩ := Int.eq_ofNat_of_zero_le (Int.emod_nonneg x (show (m : Int) ≠ 0 by omega))
      have hd2 := Int.emod_lt_of_pos x (show (0 : Int) < m by omega)
      refine ⟨q, _, rfl, SqT.of upd_same, rfl, _, _, rfl, _, rfl, p, _, _, 0, rfl, rfl, hp1, rfl, _, _, rfl, rfl, ?_⟩
      refine ⟨_, rfl, ?_⟩
      rw [hd]
      refine k _ d (same_mut (cut_same.trans (same_upd hq)) cut_self) ⟨x / (m : Int), y, upd_same, Int.ediv_nonneg hx (by omega), hy, hy2⟩ (by omega)
    · refine ⟨false, b_bl (decide_eq_false c), iteF ?_⟩
      refine ⟨_, rfl, p, _, _, _, rfl, rfl, SqL.of hp, rfl, _, _, rfl, rfl, .inr ⟨by decide, by decide⟩, _, _, rfl, rfl, .inl ⟨_, rfl, _, _, rfl, rfl, (show (0 : Int) < 2147483587 by decide), _, rfl, p, _, _, 1, rfl, rfl, hp, rfl, ?_⟩⟩
      have y0 := Int.emod_nonneg (y * 39373 + 7001) (show (2147483587 : Int) ≠ 0 by decide)
      have y1 := Int.emod_lt_of_pos (y * 39373 + 7001) (show (0 : Int) < 2147483587 by decide)
      have hp1 : upd H p (.lst [.int x, .int ((y * 39373 + 7001) % 2147483587)]) p = some (.lst [.int x, .int ((y * 39373 + 7001) % 2147483587)]) := upd_same
      have sp : Same (cut H p) (upd H p (.lst [.int x, .int ((y * 39373 + 7001) % 2147483587)])) := same_mut cut_same cut_self
      refine hide (H3 := upd H p (.lst [.int x, .int ((y * 39373 + 7001) % 2147483587)])) (R := fun H1 => H1 p = some (.lst [.int x, .int ((y * 39373 + 7001) % 2147483587)]) ∧ Same (cut H p) H1) ⟨hp1, sp⟩ fun H1 hz => ?_
      clear hp1 sp
      obtain ⟨hp1, sp⟩ := hz
      generalize (y * 39373 + 7001) % 2147483587 = y' at *
      refine ⟨_, rfl, p, _, _, _, rfl, rfl, SqL.of hp1, rfl, _, rfl, p, _, _, _, rfl, rfl, SqL.of hp1, rfl, _, _, rfl, rfl, .inr ⟨by omega, by omega⟩, .inl ⟨_, rfl, _, _, rfl, rfl, (show (0 : Int) < 2147483549 by decide), _, _, rfl, rfl, ⟨by decide, by decide⟩, .inl ⟨_, rfl, _, rfl, _, _, rfl, rfl, (show (0 : Int) < m by omega), ?_⟩⟩⟩
      obtain ⟨d, hd⟩ := Int.eq_ofNat_of_zero_le (Int.emod_nonneg (y' * y' % 2147483549 / 19) (show (m : Int) ≠ 0 by omega))
      have hd2 := Int.emod_lt_of_pos (y' * y' % 2147483549 / 19) (show (0 : Int) < m by omega)
      exact q_int (Q := Q) hd (k _ d sp ⟨x, y', hp1, hx, y0, y1⟩ (by omega))
theorem sc__law_pick : FnScope ["_law_pot_here", "_law_some"] ["_law_pot_here", "_law_some"] (defScope s__law_pick) := ⟨rfl, rfl, rfl, by decide +kernel, rfl, by decide +kernel, by decide +kernel⟩
def sp__law_pick : Sp := fun vs H Q _ => ∃ (p a : Addr) (xs : List V), vs = [.ref p, .ref a] ∧ p ≠ a ∧ IsPot H p ∧ H a = some (.lst xs) ∧ 0 < xs.length ∧ xs.length < 1000000000 ∧ ∀ (H' : Hp) (d : Nat) (v : V), Same (cut H p) H' → IsPot H' p → xs[d]? = some v → Q v H'
theorem ok__law_pick (T : Txt K mg) : FnOk P w K mg base CX0 2 T.d__law_pick.f T.d__law_pick.fd ["_law_pot_here", "_law_some"] sp__law_pick := by
  refine T.d__law_pick.F.ok sc__law_pick (fun vs H Q E h => ?_) (fun cdv A outer s H vs Q E hr h => ?_)
  · obtain ⟨p, a, xs, rfl, _⟩ := h
    rfl
  · obtain ⟨p, a, xs, rfl, hne, hp, ha, h0, h1, k⟩ := h
    refine ⟨_, (pss_one (ps_ret (pe_ix ix_list (pv 1) (pe_call (ok__law_draw T) (hr.mono (by decide)) (by rfl) T.d__law_draw.m T.d__law_draw.F.kp T.d__law_draw.b .nil pass0 (pa_cons (pv 0) (pa_cons (pe_callB call_len_seq (by rfl) T.b_len bt_len (pa_cons (pv 1) pa_nil)) pa_nil))) (fun _ _ => rfl)))), ?_⟩
    refine ⟨_, rfl, _, rfl, _, rfl, a, xs, rfl, .inl (SqL.of ha), p, xs.length, rfl, hp, h0, h1, fun H1 d s1 hp1 hd => ?_⟩
    have ha1 : H1 a = some (.lst xs) := s1 _ _ ((cut_ne (Ne.symm hne)).trans ha)
    have hv : xs[d]? = some xs[d] := List.getElem?_eq_getElem hd
    exact ⟨a, xs, _, _, rfl, rfl, SqL.of ha1, atI_nat hv, k _ d _ s1 hp1 hv⟩
end
end Tw
namespace Tw
open PySem PySem.Spec PyProof.Rows L2 TR
open TA (Plc zi Tk look put)
theorem IsPot.upd {H : Hp} {p f : Addr} {o : HO} (h : IsPot H p) (ne : p ≠ f) : IsPot (L2.upd H f o) p :=
  let ⟨x, y, h1, h2⟩ := h
  ⟨x, y, (upd_ne ne).trans h1, h2⟩
theorem IsPot.same {H H' : Hp} {p : Addr} (h : IsPot H p) (s : Same H H') : IsPot H' p :=
  let ⟨x, y, h1, h2⟩ := h
  ⟨x, y, s _ _ h1, h2⟩
theorem IsPot.ne {H : Hp} {p f : Addr} (h : IsPot H p) (hf : H f = none) : p ≠ f := fun e => by
  obtain ⟨x, y, h1, _⟩ := h
  rw [e, hf] at h1; cases h1
theorem cut_none {H : Hp} {p f : Addr} (h : H f = none) : cut H p f = none := by
  by_cases e : f = p
  · rw [e]; exact cut_self
  · exact (cut_ne e).trans h
theorem bump_ge {l : List Nat} {i s : Nat} (h : i < l.length) : TA.g l s ≤ TA.g (TA.bump l i) s := by
  rw [TA.g_bump h]
  by_cases e : s = i
  · rw [if_pos e, e]; omega
  · rw [if_neg e]; exact Nat.le_refl _
theorem cut_upd {H : Hp} {f : Addr} {o : HO} : cut (upd H f o) f = cut H f := funext fun c => by
  by_cases e : c = f
  · rw [e, cut_self, cut_self]
  · rw [cut_ne e, cut_ne e, upd_ne e]
theorem cut_cut {H : Hp} {f p : Addr} : Same (cut (cut H f) p) (cut H p) := fun c o e => by
  by_cases ep : c = p
  · rw [ep, cut_self] at e; cases e
  · rw [cut_ne ep] at e ⊢
    exact cut_same _ _ e
theorem cut_two {H H' : Hp} {f p : Addr} (ne : f ≠ p) (s : Same (cut H p) H') : Same (cut (cut H f) p) (cut (cut H' f) p) :=
  same_cut (same_cut (cut_cut.trans s) ((cut_ne ne).trans cut_self)) cut_self
section
variable {P : Program} {w : World} {K : PySem.W.Frag} {mg : Str → Option Value} {base : Heap}
theorem sc__law_more : FnScope ["_law_pot_here", "_law_board", "_law_many", "_law_found", "_law_turn", "_law_shelf"] ["_law_pot_here", "_law_board", "_law_many"] (defScope s__law_more) := ⟨rfl, rfl, rfl, by decide +kernel, rfl, by decide +kernel, by decide +kernel⟩
def sp__law_more : Sp := fun vs H Q _ => ∃ (p b : Addr) (bs : List Nat) (m : Nat), vs = [.ref p, .ref b, vn m] ∧ p ≠ b ∧ IsPot H p ∧ IsN H b bs ∧ 0 < bs.length ∧ bs.length ≤ 8 ∧ m ≤ 60 ∧
  ∀ (H' : Hp) (f : Addr) (ws : List Nat), Same (cut H p) H' → IsPot H' p → H f = none → IsN H' f ws → ws.length = bs.length → (∀ s, TA.g bs s ≤ TA.g ws s) → ws.sum = bs.sum + m → Q (.ref f) H'
theorem ok__law_more (T : Txt K mg) : FnOk P w K mg base CX0 2 T.d__law_more.f T.d__law_more.fd ["_law_pot_here", "_law_board", "_law_many"] sp__law_more := by
  refine T.d__law_more.F.ok sc__law_more (fun vs H Q E h => ?_) (fun cdv A outer s H vs Q E hr h => ?_)
  · obtain ⟨p, b, bs, m, rfl, _⟩ := h
    rfl
  · obtain ⟨p, b, bs, m, rfl, hne, hp, hb, h0, h8, h60, k⟩ := h
    refine ⟨_, (pss_cons (ps_set (i := 3) sc__law_more.nd rfl (Or.inl rfl) (pe_callTy call_list_of (by rfl) T.b_list bt_list (pa_cons (pv 1) pa_nil)))
    (pss_cons (ps_for PassesOwn.never rfl (pi_range1 (by rfl) T.b_range (pa_cons (pv 2) pa_nil)) (pg_name (i := 4) sc__law_more.nd rfl (Or.inl rfl)) (pss_cons (ps_set (i := 5) sc__law_more.nd rfl (Or.inl rfl) (pe_call (ok__law_draw T) (hr.mono (by decide)) (by rfl) T.d__law_draw.m T.d__law_draw.F.kp T.d__law_draw.b .nil pass0 (pa_cons (pv 0) (pa_cons (pe_callB call_len_seq (by rfl) T.b_len bt_len (pa_cons (pv 1) pa_nil)) pa_nil))))
    (pss_one (ps_asg (pe_op op_add (pe_ix ix_list (pv 3) (pv 5) (fun _ _ => rfl)) pe_int) (pg_sub (pv 3) (pv 5) set_list)))))
    (pss_one (ps_ret (pv 3))))), ?_⟩
    refine ⟨_, rfl, b, nl bs, rfl, .inl (SqL.of hb), fun f hf => ?_⟩
    have npf := hp.ne hf
    have hBf : cut H p f = none := cut_none hf
    have hBp : cut H p p = none := cut_self
    have hBb : IsN (cut H p) b bs := (cut_ne (Ne.symm hne)).trans hb
    refine ⟨_, rfl, m, rfl, by omega, by omega, ?_⟩
    refine for_it walk_range (fun i σ H' => ∃ (x4 x5 : Option V) (ws : List Nat), σ = [some (.ref p), some (.ref b), some (vn m), some (.ref f), x4, x5] ∧ Same (cut H p) H' ∧ IsPot H' p ∧ IsN H' f ws ∧ ws.length = bs.length ∧ (∀ s, TA.g bs s ≤ TA.g ws s) ∧ ws.sum = bs.sum + i)
      ⟨none, none, bs, rfl, same_mut cut_same hBf, hp.upd npf, upd_same, rfl, fun _ => Nat.le_refl _, rfl⟩ (fun _ _ _ _ _ => trivial) ?_ ?_
    · rintro i x σ H2 H3 hi ⟨x4, x5, ws, rfl, s2, hp2, hf2, hl, hle, hsum⟩ ⟨rfl, hx⟩
      refine ⟨_, rfl, _, rfl, b, nl bs, rfl, .inl (SqL.of (s2 _ _ hBb)), p, bs.length, (by rw [nl_length]; rfl), hp2, h0, by omega, fun H4 d s4 hp4 hd => ?_⟩
      have s5 := same_pot s2 hBp s4
      have hf4 : IsN H4 f ws := s4 _ _ ((cut_ne (Ne.symm npf)).trans hf2)
      refine ⟨_, rfl, _, rfl, f, nl ws, _, _, rfl, rfl, SqL.of hf4, at_nl (by omega), _, _, rfl, rfl, ?_⟩
      refine ⟨_, rfl, _, rfl, f, nl ws, _, d, rfl, rfl, hf4, ixN_nat (by rw [nl_length]; omega), ?_⟩
      have e : (nl ws).set d (V.int ((TA.g ws d : Int) + 1)) = nl (TA.bump ws d) := nl_set ws d (TA.g ws d + 1)
      have hd' : d < ws.length := by omega
      rw [e]
      refine ⟨_, _, TA.bump ws d, rfl, same_mut s5 hBf, hp4.upd npf, upd_same, by rw [TA.bump_length, hl], fun s => Nat.le_trans (hle s) (bump_ge hd'), ?_⟩
      rw [TA.sum_bump hd', hsum]; omega
    · rintro σ H2 ⟨x4, x5, ws, rfl, s2, hp2, hf2, hl, hle, hsum⟩
      exact ⟨_, rfl, k _ f ws s2 hp2 hf hf2 hl hle (by rw [hsum]; simp)⟩
theorem sc__law_kinds : FnScope ["_law_pot_here", "_law_shelves", "_law_least", "_law_most", "_law_found", "_law_turn", "_law_kind", "_law_shelf"] ["_law_pot_here", "_law_shelves", "_law_least", "_law_most"] (defScope s__law_kinds) := ⟨rfl, rfl, rfl, by decide +kernel, rfl, by decide +kernel, by decide +kernel⟩
def sp__law_kinds : Sp := fun vs H Q _ => ∃ (p : Addr) (n : Nat), vs = [.ref p, vn n, vn 1, vn 3] ∧ IsPot H p ∧ 2 ≤ n ∧ n ≤ 8 ∧
  ∀ (H' : Hp) (f : Addr) (kinds : List (List Nat)), Same (cut H p) H' → IsPot H' p → f ≠ p → IsRows (cut H' p) f kinds → TA.KindsOk n kinds → 1 ≤ kinds.length → kinds.length ≤ 3 → Q (.ref f) H'
/-- the kinds found so far: told without p and f -/
structure KSt (B : Hp) (n : Nat) (p f : Addr) (H : Hp) (ks : List (List Nat)) : Prop where
  same : Same B H
  pot : IsPot H p
  at_ : ∃ ps, H f = some (.lst (ps.map V.ref)) ∧ Paired (IsN (cut (cut H f) p)) ps ks
  ok : ∀ k ∈ ks, k ≠ [] ∧ (∀ s ∈ k, s < n) ∧ k.Pairwise (· < ·)
  nd : ks.Nodup
theorem ok__law_kinds (T : Txt K mg) : FnOk P w K mg base CX0 2 T.d__law_kinds.f T.d__law_kinds.fd ["_law_pot_here", "_law_shelves", "_law_least", "_law_most"] sp__law_kinds := by
  refine T.d__law_kinds.F.ok sc__law_kinds (fun vs H Q E h => ?_) (fun cdv A outer s H vs Q E hr h => ?_)
  · obtain ⟨p, n, rfl, _⟩ := h
    rfl
  · obtain ⟨p, n, rfl, hp, hn2, hn8, k⟩ := h
    refine ⟨_, (pss_cons (ps_set (i := 4) sc__law_kinds.nd rfl (Or.inl rfl) (pe_lst pa_nil))
    (pss_cons (ps_for PassesOwn.never rfl (pi_range1 (by rfl) T.b_range (pa_cons (pe_op op_add (pv 2) (pe_call (ok__law_draw T) (hr.mono (by decide)) (by rfl) T.d__law_draw.m T.d__law_draw.F.kp T.d__law_draw.b .nil pass0 (pa_cons (pv 0) (pa_cons (pe_op op_add (pe_op op_sub (pv 3) (pv 2)) pe_int) pa_nil)))) pa_nil)) (pg_name (i := 5) sc__law_kinds.nd rfl (Or.inl rfl)) (pss_cons (ps_set (i := 6) sc__law_kinds.nd rfl (Or.inl rfl) (pe_lst pa_nil))
    (pss_cons (ps_for PassesOwn.never rfl (pi_range1 (by rfl) T.b_range (pa_cons (pv 1) pa_nil)) (pg_name (i := 7) sc__law_kinds.nd rfl (Or.inl rfl)) (pss_one (ps_if (pt_cmpR op_eq (pe_call (ok__law_draw T) (hr.mono (by decide)) (by rfl) T.d__law_draw.m T.d__law_draw.F.kp T.d__law_draw.b .nil pass0 (pa_cons (pv 0) (pa_cons pe_int pa_nil))) pe_int (nomark _)) (pss_one (ps_expr (pe_bm PySem.F.plainAttrs_list PySem.F.slot_list_append PySem.F.type_list_append mt_append (pv 6) (pa_cons (pv 7) pa_nil)))) pss_nil)))
    (pss_cons (ps_set (i := 6) sc__law_kinds.nd rfl (Or.inl rfl) (pe_ifExp (pt_cmpR (op_neD hr.units) (pv 6) (pe_lst pa_nil) (nomark _)) (pv 6) (pe_lst (pa_cons (pe_call (ok__law_draw T) (hr.mono (by decide)) (by rfl) T.d__law_draw.m T.d__law_draw.F.kp T.d__law_draw.b .nil pass0 (pa_cons (pv 0) (pa_cons (pv 1) pa_nil))) pa_nil))))
    (pss_one (ps_if (pt_cmpR (op_notInD (hu65 hr)) (pv 6) (pv 4) (by rfl)) (pss_one (ps_expr (pe_bm PySem.F.plainAttrs_list PySem.F.slot_list_append PySem.F.type_list_append mt_append (pv 4) (pa_cons (pv 6) pa_nil)))) pss_nil))))))
    (pss_one (ps_ret (pe_callB (cr_sortedR hr.units) (by rfl) T.b_sorted bt_sorted (pa_cons (pv 4) pa_nil)))))), ?_⟩
    refine ⟨by show 0 ≤ sizeLine; decide, fun f hf => ?_⟩
    have npf := hp.ne hf
    have hBf : cut H p f = none := cut_none hf
    have hBp : cut H p p = none := cut_self
    have s1 : Same (cut H p) (upd H f (.lst [])) := same_mut cut_same hBf
    have hp1 : IsPot (upd H f (.lst [])) p := hp.upd npf
    have hf1 : upd H f (.lst []) f = some (.lst (([] : List Addr).map V.ref)) := upd_same
    generalize upd H f (.lst []) = H1 at *
    generalize cut H p = B at *
    refine ⟨_, rfl, _, rfl, _, rfl, _, rfl, _, _, rfl, rfl, _, _, rfl, rfl, p, 3, rfl, hp1, by decide, by decide, fun H2 d s2 hp2 hd => ?_⟩
    refine ⟨_, _, rfl, rfl, _, rfl, by omega, by omega, ?_⟩
    refine for_it walk_range (fun i σ H' => ∃ (x5 x6 x7 : Option V) (ks : List (List Nat)), σ = [some (.ref p), some (vn n), some (vn 1), some (vn 3), some (.ref f), x5, x6, x7] ∧ KSt B n p f H' ks ∧ ks.length ≤ i ∧ (1 ≤ i → 1 ≤ ks.length))
      ⟨none, none, none, [], rfl, ⟨same_pot s1 hBp s2, hp2, ⟨[], s2 _ _ ((cut_ne (Ne.symm npf)).trans hf1), .nil⟩, fun _ h => by simp at h, .nil⟩, Nat.le_refl _, fun h => by omega⟩ (fun _ _ _ _ _ => trivial) ?_ ?_
    · rintro i x σ H3 H4 hi ⟨x5, x6, x7, ks, rfl, S, hks, hk1⟩ ⟨rfl, hx⟩
      refine ⟨by show 0 ≤ sizeLine; decide, fun kd hkd => ?_⟩
      have npk := S.pot.ne hkd
      have hCk : cut H4 p kd = none := cut_none hkd
      have hCp : cut H4 p p = none := cut_self
      refine ⟨_, rfl, n, rfl, by omega, by omega, ?_⟩
      refine for_it walk_range (fun j σ H' => ∃ (x7 : Option V) (xs : List Nat), σ = [some (.ref p), some (vn n), some (vn 1), some (vn 3), some (.ref f), some x, some (.ref kd), x7] ∧ Same (cut H4 p) H' ∧ IsPot H' p ∧ IsN H' kd xs ∧ xs.Pairwise (· < ·) ∧ ∀ s ∈ xs, s < j)
        ⟨x7, [], rfl, same_mut cut_same hCk, S.pot.upd npk, upd_same, .nil, fun _ h => by simp at h⟩ (fun _ _ _ _ _ => trivial) ?_ ?_
      · rintro j y σ H5 H6 hj ⟨y7, xs, rfl, s6, hp6, hk6, hinc, hlt⟩ ⟨rfl, hy⟩
        have hy : y = vn j := hy.trans (congrArg V.int (Int.zero_add _))
        subst hy
        rw [Int.toNat_natCast] at hj
        refine ⟨_, rfl, p, 2, rfl, hp6, by decide, by decide, fun H7 e s7 hp7 he => ?_⟩
        have hk7 : IsN H7 kd xs := s7 _ _ ((cut_ne (Ne.symm npk)).trans hk6)
        have s8 := same_pot s6 hCp s7
        refine ⟨rfl, _, rfl, ?_⟩
        have hxl := TA.kind_length hinc hlt
        by_cases c : e = 0
        · refine iteP (vn_inj c) ?_
          refine ⟨_, rfl, .inl ⟨rfl, _, SqL.of hk7⟩, _, rfl, kd, _, _, rfl, rfl, hk7, (by rw [nl_length]; exact Nat.lt_of_le_of_lt (show _ ≤ 63 by omega) (by decide)), ?_⟩
          refine ⟨_, xs ++ [j], rfl, same_mut s8 hCk, hp7.upd npk, (upd_same.trans (congrArg (fun z => some (HO.lst z)) (nl_append xs [j]).symm)), ?_, fun s hs => ?_⟩
          · exact List.pairwise_append.mpr ⟨hinc, by simp, fun a ha b hb => by have h1 := hlt a ha; have h2 : b = j := (List.mem_singleton.mp hb); omega⟩
          · rcases List.mem_append.mp hs with h | h
            · have := hlt s h; omega
            · have : s = j := by simpa using h
              omega
        · refine iteN (fun z => c (by injection z with z; omega)) ?_
          exact ⟨_, xs, rfl, s8, hp7, hk7, hinc, fun s hs => by have := hlt s hs; omega⟩
      · rintro σ H5 ⟨y7, xs, rfl, s6, hp6, hk6, hinc, hlt⟩
        rw [Int.toNat_natCast] at hlt
        refine ⟨_, rfl, by show 0 ≤ sizeLine; decide, fun em hem => ?_⟩
        have nkf : kd ≠ f := fun e => by
          obtain ⟨ps, h, _⟩ := S.at_
          rw [e, h] at hkd; cases hkd
        have sem : Same H5 (upd H5 em (.lst [])) := same_upd hem
        refine ⟨eN.f xs, eN.f [], dp_n (mN.m sem hk6), dp_n (xs := []) upd_same, eN.shaped (by decide) _, eN.shaped (by decide) _, ?_⟩
        have hk5 := mN.m sem hk6
        have hp5 := hp6.same sem
        have s5 := s6.trans sem
        generalize upd H5 em (.lst []) = H6 at hk5 hp5 s5 ⊢
        by_cases cx : xs = []
        · refine ⟨false, nbl (eN.eqvT cx), iteF ?_⟩
          refine ⟨_, rfl, _, rfl, p, n, rfl, hp5, by omega, by omega, fun H7 d s7 hp7 hd => ⟨by show 1 ≤ sizeLine; decide, fun k2 hk2 => ?_⟩⟩
          have s8 : Same (cut H4 p) (upd H7 k2 (.lst [vn d])) := (same_pot s5 hCp s7).trans (same_upd hk2)
          have hp8 : IsPot (upd H7 k2 (.lst [vn d])) p := hp7.same (same_upd hk2)
          have hk8 : IsN (upd H7 k2 (.lst [vn d])) k2 [d] := upd_same
          have nkp : k2 ≠ p := Ne.symm (hp7.ne hk2)
          have nkf : k2 ≠ f := fun e => by
            obtain ⟨ps, h, _⟩ := S.at_
            have := (same_pot s5 hCp s7) _ _ ((cut_ne (Ne.symm npf)).trans h)
            rw [e, this] at hk2; cases hk2
          have hrow : [d] ≠ [] ∧ (∀ s ∈ [d], s < n) ∧ [d].Pairwise (· < ·) := ⟨by simp, fun s hs => by have : s = d := List.mem_singleton.mp hs; omega, by simp⟩
          refine hide (H3 := upd H7 k2 (.lst [vn d])) (R := fun H8 => Same (cut H4 p) H8 ∧ IsPot H8 p ∧ IsN H8 k2 [d]) ⟨s8, hp8, hk8⟩ fun H8 hz => ?_
          clear s8 hp8 hk8
          obtain ⟨s8, hp8, hk8⟩ := hz
          generalize hkk : k2 = kk at *
          generalize hrr : [d] = row at *
          have s9 := same_pot S.same hBp s8
          obtain ⟨ps, hps, hpp⟩ := S.at_
          have hf8 : H8 f = some (.lst (ps.map V.ref)) := s8 _ _ ((cut_ne (Ne.symm npf)).trans hps)
          have hpp8 := paired_mono (fun _ _ h => mN.m (cut_two (Ne.symm npf) s8) h) hpp
          refine ⟨_, rfl, _, rfl, eN.f row, ks.map eN.f, dp_n hk8, dp_rows ⟨ps, hf8, paired_mono (fun _ _ h => mN.m (cut_same.trans cut_same) h) hpp8⟩, eN.shaped (by decide) _, eRows.shaped (by decide) _, ?_⟩
          by_cases cin : row ∈ ks
          · refine ⟨false, nbl (eN.anyT cin), iteF ?_⟩
            exact ⟨_, _, _, ks, rfl, ⟨s9, hp8, ⟨ps, hf8, hpp8⟩, S.ok, S.nd⟩, by omega, fun _ => List.length_pos_of_mem cin⟩
          · refine ⟨true, pbl (eN.anyF cin), iteT ?_⟩
            refine ⟨_, rfl, .inl ⟨rfl, _, SqL.of hf8⟩, _, rfl, f, _, _, rfl, rfl, hf8, (by rw [List.length_map, hpp8.length]; exact Nat.lt_of_le_of_lt (show _ ≤ 63 by omega) (by decide)), ?_⟩
            refine ⟨_, _, _, ks ++ [row], rfl, ⟨same_mut s9 hBf, hp8.upd npf, ⟨ps ++ [kk], by rw [upd_same, List.map_append]; rfl, ?_⟩, fun k' hk' => ?_, ?_⟩, ?_, fun _ => ?_⟩
            · rw [cut_upd]
              exact paired_snoc hpp8 (IsN.cut (IsN.cut hk8 nkf) nkp)
            · rcases List.mem_append.mp hk' with h | h
              · exact S.ok k' h
              · have : k' = row := by simpa using h
                rw [this]; exact hrow
            · exact List.nodup_append.mpr ⟨S.nd, by simp, fun a ha b hb e => by
                have : b = row := by simpa using hb
                rw [e, this] at ha; exact cin ha⟩
            · rw [List.length_append]; show _ + 1 ≤ _; omega
            · rw [List.length_append]; show 1 ≤ _ + 1; omega
        · refine ⟨true, pbl (eN.eqvF cx), iteT ?_⟩
          refine ⟨_, rfl, ?_⟩
          have hrow : xs ≠ [] ∧ (∀ s ∈ xs, s < n) ∧ xs.Pairwise (· < ·) := ⟨cx, hlt, hinc⟩
          have nkp : kd ≠ p := Ne.symm npk
          have s8 := s5
          have hp8 := hp5
          have hk8 := hk5
          generalize hkk : kd = kk at *
          generalize hrr : xs = row at *
          generalize H6 = H8 at *
          have s9 := same_pot S.same hBp s8
          obtain ⟨ps, hps, hpp⟩ := S.at_
          have hf8 : H8 f = some (.lst (ps.map V.ref)) := s8 _ _ ((cut_ne (Ne.symm npf)).trans hps)
          have hpp8 := paired_mono (fun _ _ h => mN.m (cut_two (Ne.symm npf) s8) h) hpp
          refine ⟨_, rfl, _, rfl, eN.f row, ks.map eN.f, dp_n hk8, dp_rows ⟨ps, hf8, paired_mono (fun _ _ h => mN.m (cut_same.trans cut_same) h) hpp8⟩, eN.shaped (by decide) _, eRows.shaped (by decide) _, ?_⟩
          by_cases cin : row ∈ ks
          · refine ⟨false, nbl (eN.anyT cin), iteF ?_⟩
            exact ⟨_, _, _, ks, rfl, ⟨s9, hp8, ⟨ps, hf8, hpp8⟩, S.ok, S.nd⟩, by omega, fun _ => List.length_pos_of_mem cin⟩
          · refine ⟨true, pbl (eN.anyF cin), iteT ?_⟩
            refine ⟨_, rfl, .inl ⟨rfl, _, SqL.of hf8⟩, _, rfl, f, _, _, rfl, rfl, hf8, (by rw [List.length_map, hpp8.length]; exact Nat.lt_of_le_of_lt (show _ ≤ 63 by omega) (by decide)), ?_⟩
            refine ⟨_, _, _, ks ++ [row], rfl, ⟨same_mut s9 hBf, hp8.upd npf, ⟨ps ++ [kk], by rw [upd_same, List.map_append]; rfl, ?_⟩, fun k' hk' => ?_, ?_⟩, ?_, fun _ => ?_⟩
            · rw [cut_upd]
              exact paired_snoc hpp8 (IsN.cut (IsN.cut hk8 nkf) nkp)
            · rcases List.mem_append.mp hk' with h | h
              · exact S.ok k' h
              · have : k' = row := by simpa using h
                rw [this]; exact hrow
            · exact List.nodup_append.mpr ⟨S.nd, by simp, fun a ha b hb e => by
                have : b = row := by simpa using hb
                rw [e, this] at ha; exact cin ha⟩
            · rw [List.length_append]; show _ + 1 ≤ _; omega
            · rw [List.length_append]; show 1 ≤ _ + 1; omega
    · rintro σ H3 ⟨x5, x6, x7, ks, rfl, S, hks, hk1⟩
      obtain ⟨ps, hps, hpp⟩ := S.at_
      have hperm : (TA.sortRows (ks.map zi)).Perm (ks.map zi) := TA.sortRows_perm _
      obtain ⟨ms, hms, hmp⟩ := TA.map_zi_of hperm
      refine ⟨_, rfl, f, _, _, _, rfl, SqL.of hps, rows_of (F := fun q ns => IsN (cut (cut H3 f) p) q ns) hpp, rowF_lst fun _ _ h => mN.m (cut_same.trans cut_same) h, fun ys q hys hq => ?_⟩
      rw [show (ks.map zi).mergeSort (fun p q => decide (p ≤ q)) = ms.map zi from hms] at hys
      obtain ⟨qs, rfl, hqs⟩ := of_rows hys
      have sq : Same H3 (upd H3 q (.lst (qs.map V.ref))) := same_upd hq
      have nqp : q ≠ p := Ne.symm (S.pot.ne hq)
      refine k _ q ms (S.same.trans sq) (S.pot.same sq) nqp ⟨qs, (cut_ne nqp).trans upd_same, paired_mono (fun a b h => ?_) hqs⟩ ⟨?_, ?_, ?_, ?_, ?_⟩ ?_ ?_
      · have h2 : Same (cut (cut H3 f) p) (cut (upd H3 q (.lst (qs.map V.ref))) p) := same_cut ((cut_same.trans cut_same).trans sq) cut_self
        exact mN.m h2 h
      · exact fun k hk => (S.ok k (hmp.mem_iff.mp hk)).1
      · exact fun k hk => (S.ok k (hmp.mem_iff.mp hk)).2.1
      · exact fun k hk => (S.ok k (hmp.mem_iff.mp hk)).2.2
      · exact hmp.nodup_iff.mpr S.nd
      · rw [← hms]; exact TA.sortRows_sorted _
      · rw [hmp.length_eq]; exact hk1 (by omega)
      · rw [hmp.length_eq]; omega
end
end Tw
namespace Tw
open PySem PySem.Spec PyProof.Rows L2 TR
open TA (Plc zi Tk look put)
def abAt' (b w kind : List Nat) (s : Nat) : List Plc := ((List.range' (TA.g b s) (TA.g w s - TA.g b s)).filter fun l => decide (l ≤ TA.minOn w kind)).map fun l => (s, l)
theorem able'_len {b w kind : List Nat} {i : Nat} : ((kind.take i).flatMap (abAt' b w kind)).length ≤ (TA.able' kind b w).length := by
  have e : TA.able' kind b w = (kind.take i).flatMap (abAt' b w kind) ++ (kind.drop i).flatMap (abAt' b w kind) := by
    unfold TA.able'
    rw [← List.flatMap_append, List.take_append_drop]; rfl
  rw [e, List.length_append]; omega
theorem able'_small {b w kind : List Nat} {M : Nat} (h : ∀ s, TA.g w s ≤ M) : ∀ l : List Nat, (l.flatMap (abAt' b w kind)).length ≤ l.length * M
  | [] => Nat.zero_le _
  | s :: l => by
    rw [List.flatMap_cons, List.length_append, List.length_cons, Nat.succ_mul, Nat.add_comm]
    refine Nat.add_le_add (able'_small h l) ?_
    unfold abAt'
    rw [List.length_map]
    refine Nat.le_trans (List.length_filter_le _ _) ?_
    rw [List.length_range']
    exact Nat.le_trans (Nat.sub_le _ _) (h s)
theorem range_putF {lo i s m : Nat} (c : lo + i ≤ m) : ((List.range' lo (i + 1)).filter fun l => decide (l ≤ m)).map (fun l => (s, l)) = ((List.range' lo i).filter fun l => decide (l ≤ m)).map (fun l => (s, l)) ++ [((s, lo + i) : Plc)] := by
  rw [List.range'_1_concat, filter_put (f := fun l => decide (l ≤ m)) (decide_eq_true c), List.map_append]; rfl
theorem range_skipF {lo i s m : Nat} (c : ¬ lo + i ≤ m) : ((List.range' lo (i + 1)).filter fun l => decide (l ≤ m)).map (fun l => ((s, l) : Plc)) = ((List.range' lo i).filter fun l => decide (l ≤ m)).map (fun l => (s, l)) := by
  rw [List.range'_1_concat, filter_skip (f := fun l => decide (l ≤ m)) (decide_eq_false c)]
theorem paired_rev {α β : Type} {F : α → β → Prop} : ∀ {as : List α} {bs : List β}, Paired F as bs → Paired F as.reverse bs.reverse
  | _, _, .nil => .nil
  | _, _, .cons h t => by
    rw [List.reverse_cons, List.reverse_cons]
    exact paired_snoc (paired_rev t) h
section
variable {P : Program} {w : World} {K : PySem.W.Frag} {mg : Str → Option Value} {base : Heap}
theorem sc__law_store : FnScope ["_law_shelves", "_law_kinds_here", "_law_kind"] ["_law_shelves", "_law_kinds_here"] (defScope s__law_store) := ⟨rfl, rfl, rfl, by decide +kernel, rfl, by decide +kernel, by decide +kernel⟩
def sp__law_store (C : Addr) : Sp := fun vs H Q _ => ∃ (n : Nat) (a : Addr) (kinds : List (List Nat)), vs = [vn n, .ref a] ∧ IsRows H a kinds ∧ TA.KindsOk n kinds ∧ 2 ≤ n ∧ n ≤ 8 ∧ kinds.length ≤ 8 ∧ ∀ H' st, Same H H' → IsStore C n H' st kinds → Q (.ref st) H'
theorem ok__law_store (T : Txt K mg) : FnOk P w K mg base CX0 8 T.d__law_store.f T.d__law_store.fd ["_law_shelves", "_law_kinds_here"] (sp__law_store T.st.C) := by
  refine T.d__law_store.F.ok sc__law_store (fun vs H Q E h => ?_) (fun cdv A outer s H vs Q E hr h => ?_)
  · obtain ⟨n, a, kinds, rfl, _⟩ := h
    rfl
  · obtain ⟨n, a, kinds, rfl, ⟨ps, ha1, ha2⟩, hK, hn2, hn8, hkl, k⟩ := h
    have hpl := ha2.length
    refine ⟨_, (pss_one (ps_ret (pe_make T.st.M (ok_init T) (hr.mono (by decide)) (by rfl) T.st.mgC T.st.b .nil pass0 (pa_cons (pv 0) (pa_cons (pe_lc (own := [("_law_kind", 2)]) rfl sc__law_store.nd (pi_list (pe_revL (pv 1))) (blkOk_by (own := [("_law_kind", 2)]) (N := ["_law_shelves", "_law_kinds_here", "_law_kind"]) (sc := defScope s__law_store) (by decide +kernel)) (fun _ _ _ _ _ => (pg_name (i := 2) sc__law_store.nd rfl (Or.inl rfl))) (fun _ _ _ _ _ => pts_nil) (fun _ _ _ _ _ => (pe_callTy (call_tuple_ofK (K := K) rfl) (by rfl) T.b_tuple bt_tuple (pa_cons (pe_revLK (K := K) rfl (pv 2)) pa_nil)))) (pa_cons (pe_lst pa_nil) pa_nil)))))), ?_⟩
    refine ⟨_, rfl, _, rfl, a, ps.map V.ref, rfl, SqL.of ha1, fun r hr => ⟨r, rfl, ⟨_, SqL.of upd_same⟩, fun D hD => ?_⟩⟩
    have s1 : Same H (upd H r (.lst (ps.map V.ref).reverse)) := same_upd hr
    have hr1 : upd H r (.lst (ps.map V.ref).reverse) r = some (.lst (ps.reverse.map V.ref)) := by rw [upd_same, List.map_reverse]
    have hrr : (ps.map V.ref).reverse = ps.reverse.map V.ref := List.map_reverse.symm
    have ha3 : Paired (IsN (upd H r (.lst (ps.map V.ref).reverse))) ps.reverse kinds.reverse := paired_rev (paired_mono (fun _ _ h => mN.m s1 h) ha2)
    generalize upd H r (.lst (ps.map V.ref).reverse) = H1 at *
    have L : Lc H1 D (ps.map V.ref).reverse.length (fun i => (kinds.reverse.take i).map List.reverse) (RefTo IsNT D) :=
      Lc.refs mNT hD rfl (fun i => by rw [List.length_map, List.length_take]; exact Nat.min_le_left _ _) (by rw [List.length_reverse, List.length_map, hpl]; exact Nat.le_trans hkl (by decide))
    refine lc_gen L walk_list (fun H2 s2 => SqL.of (by rw [hrr]; exact s2 _ _ hr1)) (fun i x H2 H3 hi pi hx => ?_) (fun H2 ys s2 hd hpy => ?_)
    · obtain ⟨rfl, hx'⟩ := hx
      rw [hrr] at hx'
      obtain ⟨q, hq, rfl⟩ := refs_at hx'
      obtain ⟨row, hrow, hqr⟩ := paired_at' ha3 hq
      refine ⟨rfl, ?_⟩
      refine ⟨_, rfl, q, nl row, rfl, SqL.of (pi.same _ _ hqr), fun l hl => ?_⟩
      refine ⟨l, _, rfl, .inl ⟨SqL.of upd_same, fun t ht => ?_⟩⟩
      refine L.put hi pi ((same_upd hl).trans (same_upd ht)) (take_snoc hrow) ⟨t, rfl, IsNT.cut ?_ (ne_at ((same_upd hl).free ht) pi.no)⟩
      refine upd_same.trans ?_
      show some (HO.tup (nl row).reverse) = some (HO.tup (nl row.reverse))
      unfold nl zi
      rw [← List.map_reverse, ← List.map_reverse]
    · obtain ⟨zs, rfl, hzs⟩ := paired_refs mNT hpy
      rw [List.length_reverse, List.length_map, hpl, show kinds.reverse.take kinds.length = kinds.reverse from List.take_of_length_le (by rw [List.length_reverse]; exact Nat.le_refl _)] at hzs
      refine ⟨by show 0 ≤ sizeLine; decide, fun e he => ?_⟩
      intro x dx hx hdx hxd
      have s3 : Same H2 (upd (upd (upd H2 e (.lst [])) dx (.own x)) x (.ins T.st.C dx [])) := ((same_upd he).trans (same_upd hdx)).trans (same_upd (by rw [upd_ne (Ne.symm hxd)]; exact hx))
      have he3 : upd (upd (upd H2 e (.lst [])) dx (.own x)) x (.ins T.st.C dx []) e = some (.lst []) := by
        have n1 : e ≠ x := fun z => by rw [← z, upd_same] at hx; cases hx
        have n2 : e ≠ dx := fun z => by rw [← z, upd_same] at hdx; cases hdx
        rw [upd_ne n1, upd_ne n2, upd_same]
      refine ⟨x, dx, D, e, n, kinds.reverse.map List.reverse, kinds, rfl, upd_same, hn2, hn8, mOf mNT |>.m s3 ⟨zs, hd, hzs⟩, (by rw [List.length_map, List.length_reverse]; exact hkl), (fun k' hk' => ?_), he3, (fun L' inc hL => TA.plain_rows hn8 hK inc fun z => (hL z).trans ?_), (fun r hr z hz => by have := hK.lt r hr z hz; omega), fun H' d e' k' h1 h2 h3 => ⟨rfl, ?_⟩⟩
      · obtain ⟨k0, hk0, rfl⟩ := List.mem_map.mp hk'
        have hk0 := List.mem_reverse.mp hk0
        have hinc := hK.inc k0 hk0
        refine ⟨fun z hz => hK.lt k0 hk0 z (List.mem_reverse.mp hz), (List.reverse_perm k0).nodup_iff.mpr (hinc.imp fun h => Nat.ne_of_lt h), ?_, fun z => hK.ne k0 hk0 (List.reverse_eq_nil_iff.mp z)⟩
        have := TA.kind_length hinc (hK.lt k0 hk0)
        rw [List.length_reverse]; omega
      · rw [List.map_map]
        have e1 : kinds.reverse.map (TA.bitsOf ∘ List.reverse) = kinds.reverse.map TA.bitsOf := List.map_congr_left fun k0 _ => TA.bits_reverse k0
        rw [e1, List.map_reverse, List.mem_reverse]
      · refine k H' x (fun c o hc => h3 c o (fun z => ?_) (s3 _ _ (s2 _ _ (s1 _ _ hc)))) ⟨dx, d, e', k', h1, h2⟩
        have := s2 _ _ (s1 _ _ hc)
        rw [z] at this
        have h5 := same_upd (o := .lst []) he _ _ this
        rw [h5] at hx; cases hx
theorem sc__law_places : FnScope ["_law_kinds_here", "_law_board", "_law_wished", "_law_position", "_law_kind", "_law_found", "_law_least", "_law_shelf", "_law_level"] ["_law_kinds_here", "_law_board", "_law_wished", "_law_position"] (defScope s__law_places) := ⟨rfl, rfl, rfl, by decide +kernel, rfl, by decide +kernel, by decide +kernel⟩
def sp__law_places : Sp := fun vs H Q _ => ∃ (a b v : Addr) (n : Nat) (kinds : List (List Nat)) (bs cs ws : List Nat) (p : Nat), vs = [.ref a, .ref b, .ref v, vn p] ∧ IsRows H a kinds ∧ IsN H b bs ∧ IsN H v ws ∧ TA.Fit n kinds bs cs ws ∧ p < kinds.length ∧
  ∀ H' q, Same H H' → H q = none → IsPl H' q (TA.able' (TA.gk kinds p) bs ws) → Q (.ref q) H'
theorem ok__law_places (T : Txt K mg) : FnOk P w K mg base CX0 1 T.d__law_places.f T.d__law_places.fd ["_law_kinds_here", "_law_board", "_law_wished", "_law_position"] sp__law_places := by
  refine T.d__law_places.F.ok sc__law_places (fun vs H Q E h => ?_) (fun cdv A outer s H vs Q E hr h => ?_)
  · obtain ⟨a, b, v, n, kinds, bs, cs, ws, p, rfl, _⟩ := h
    rfl
  · obtain ⟨a, b, v, n, kinds, bs, cs, ws, p, rfl, ⟨ks, ha1, ha2⟩, hb, hv, F, hp, k⟩ := h
    refine ⟨_, (pss_cons (ps_par (i := 4) (j := 5) rfl sc__law_places.nd rfl rfl (by decide) rfl rfl (pa_cons (pe_ix ix_list (pv 0) (pv 3) (fun _ _ => rfl)) (pa_cons (pe_lst pa_nil) pa_nil)) (by rfl))
    (pss_cons (ps_set (i := 6) sc__law_places.nd rfl (Or.inr rfl) (pe_callB (cr_min rfl) (by rfl) T.b_min bt_min (pa_cons (pe_lc (own := [("_law_shelf", 7)]) rfl sc__law_places.nd (pi_list (pv 4)) (blkOk_by (own := [("_law_shelf", 7)]) (N := ["_law_kinds_here", "_law_board", "_law_wished", "_law_position", "_law_kind", "_law_found", "_law_least", "_law_shelf", "_law_level"]) (sc := defScope s__law_places) (by decide +kernel)) (fun _ _ _ _ _ => (pg_name (i := 7) sc__law_places.nd rfl (Or.inl rfl))) (fun _ _ _ _ _ => pts_nil) (fun _ _ _ _ _ => (pe_ix (ix_listK (K := K) rfl) (pv 2) (pv 7) (fun _ _ => rfl)))) pa_nil)))
    (pss_cons (ps_for PassesOwn.never rfl (pi_list (pv 4)) (pg_name (i := 7) sc__law_places.nd rfl (Or.inr rfl)) (pss_one (ps_expr (pe_bm PySem.F.plainAttrs_list PySem.F.slot_list_extend PySem.F.type_list_extend mt_extend (pv 5) (pa_cons (pe_lc (own := [("_law_level", 8)]) rfl sc__law_places.nd (pi_range2 (by rfl) T.b_range (pa_cons (pe_ix ix_list (pv 1) (pv 7) (fun _ _ => rfl)) (pa_cons (pe_ix ix_list (pv 2) (pv 7) (fun _ _ => rfl)) pa_nil))) (blkOk_by (own := [("_law_level", 8)]) (N := ["_law_kinds_here", "_law_board", "_law_wished", "_law_position", "_law_kind", "_law_found", "_law_least", "_law_shelf", "_law_level"]) (sc := defScope s__law_places) (by decide +kernel)) (fun _ _ _ _ _ => (pg_name (i := 8) sc__law_places.nd rfl (Or.inl rfl))) (fun _ _ _ _ _ => (pts_one (pt_cmpR op_le (pv 8) (pv 6) (nomark _)))) (fun _ _ _ _ _ => (pe_tup (pa_cons (pv 7) (pa_cons (pv 8) pa_nil))))) pa_nil)))))
    (pss_one (ps_ret (pv 5)))))), ?_⟩
    have hkm := TA.getD_mem [] hp
    have hne := F.ne _ hkm
    have hlt := F.lt _ hkm
    have hinc := F.inc _ hkm
    have hn4 := F.n4
    have hkp : kinds[p]? = some (TA.gk kinds p) := TA.some_getD [] hp
    obtain ⟨kd, hkd, hkk⟩ := paired_at ha2 hkp
    generalize hkd' : TA.gk kinds p = kind at *
    rw [show kinds.getD p [] = kind from hkd'] at hne hlt hinc
    have hkl : kind.length ≤ 4 := Nat.le_trans (TA.kind_length hinc hlt) hn4
    refine ⟨_, rfl, _, rfl, a, _, _, _, rfl, rfl, SqL.of ha1, atI_nat (refs_get hkd), by show 0 ≤ sizeLine; decide, fun f hf => ⟨_, _, rfl, ?_⟩⟩
    have s1 : Same H (upd H f (.lst [])) := same_upd hf
    have hf1 : IsPl (upd H f (.lst [])) f [] := ⟨[], upd_same, .nil⟩
    show tSeq _ _ _ _ (upd H f (.lst []))
    generalize upd H f (.lst []) = H1 at s1 hf1 ⊢
    refine ⟨_, rfl, kd, rfl, ⟨_, SqL.of (s1 _ _ hkk)⟩, fun D2 hD2 => ?_⟩
    have L2 : Lc H1 D2 (nl kind).length (fun i => (kind.take i).map (TA.g ws)) (fun y b _ => y = vn b) := ⟨hD2, rfl, (fun i => by rw [List.length_map, List.length_take]; exact Nat.min_le_left _ _), by rw [nl_length]; exact small64 (by omega), fun _ _ _ _ h _ => h⟩
    refine lc_gen L2 walk_list (fun H2 s2 => SqL.of (s2 _ _ (s1 _ _ hkk))) (fun i x H8 H9 hi pi hx => ?_) (fun H2 ys s2 hd2 hp2 => ?_)
    · obtain ⟨rfl, hx'⟩ := hx
      obtain ⟨m, hm, rfl⟩ := nl_of hx'
      refine ⟨rfl, ?_⟩
      exact ⟨_, rfl, _, rfl, v, nl ws, _, _, rfl, rfl, SqL.of ((s1.trans pi.same) _ _ hv), at_nl (by rw [F.wl]; exact hlt m (List.mem_of_getElem? hm)), L2.put hi pi (Same.refl _) (take_snoc hm) rfl⟩
    rw [paired_vn hp2, nl_length, List.take_length] at hd2
    refine ⟨D2, zi (kind.map (TA.g ws)), rfl, SqL.of hd2, (by rw [zi_length, List.length_map]; exact List.length_pos_iff.mpr hne), fun l' hl' hmin => ?_⟩
    obtain ⟨l, hl, rfl⟩ := zi_mem hl'
    obtain rfl : l = TA.minOn ws kind := TA.mn_eq hl fun y hy => by
      have := hmin (y : Int) (mem_zi.mpr hy)
      omega
    have s02 := s1.trans s2
    have hf2 := mPl.m s2 hf1
    refine ⟨_, rfl, kd, rfl, ⟨_, SqL.of (s02 _ _ hkk)⟩, ?_⟩
    refine for_it walk_list (fun i σ H' => ∃ a7 : Option V, σ = [some (.ref a), some (.ref b), some (.ref v), some (vn p), some (.ref kd), some (.ref f), some (vn (TA.minOn ws kind)), a7, none] ∧ Same H H' ∧ IsPl H' f ((kind.take i).flatMap (abAt' bs ws kind)))
      ⟨none, rfl, s02, hf2⟩ (fun i σ H' _ ⟨_, _, s4, _⟩ => SqL.of (s4 _ _ hkk)) ?_ ?_
    · rintro i x σ H4 H5 hi ⟨a7, rfl, s4, ps, hps, hpq⟩ ⟨rfl, hx⟩
      obtain ⟨s', hs', rfl⟩ := nl_of hx
      have hsk := List.mem_of_getElem? hs'
      have hsn := hlt s' hsk
      refine ⟨_, rfl, .inl ⟨rfl, _, SqL.of hps⟩, ?_⟩
      have wl := F.wle s'
      have bl := F.le s'
      refine ⟨_, rfl, _, rfl, b, nl bs, _, _, rfl, rfl, SqL.of (s4 _ _ hb), at_nl (by rw [F.bl]; exact hsn), ?_⟩
      refine ⟨_, rfl, _, rfl, v, nl ws, _, _, rfl, rfl, SqL.of (s4 _ _ hv), at_nl (by rw [F.wl]; exact hsn), ?_⟩
      refine ⟨_, _, rfl, by omega, fun D hD => ?_⟩
      have L : Lc H5 D (((TA.g ws s' : Nat) : Int) - (TA.g bs s' : Int)).toNat (fun j => ((List.range' (TA.g bs s') j).filter fun l => decide (l ≤ TA.minOn ws kind)).map fun l => (s', l)) (RefTo IsQ D) :=
        Lc.refs mQ hD rfl (fun j => by rw [List.length_map]; exact Nat.le_trans (List.length_filter_le _ _) (by simp)) (Nat.le_trans (show _ ≤ 63 by omega) (by decide))
      refine lc_gen L walk_range (fun _ _ => trivial) ?_ ?_
      · rintro j y H6 H7 hj pj ⟨rfl, hy⟩
        have hy : y = vn (TA.g bs s' + j) := hy
        subst hy
        refine ⟨rfl, _, rfl, _, rfl, _, _, rfl, rfl, _, rfl, ?_⟩
        by_cases c : TA.g bs s' + j ≤ TA.minOn ws kind
        · refine iteP (by omega) ⟨_, rfl, _, rfl, by show 2 ≤ sizeLine; decide, fun t ht => ?_⟩
          refine L.put hj pj (same_upd ht) ?_ ⟨t, rfl, IsQ.cut (q := (s', TA.g bs s' + j)) upd_same (ne_at ht pj.no)⟩
          exact range_putF c
        · refine iteN (by omega) (L.skip pj (Same.refl _) ?_)
          exact range_skipF c
      · intro H6 ys s6 hd hpy
        obtain ⟨zs, rfl, hzs⟩ := paired_refs mQ hpy
        have en : (((TA.g ws s' : Nat) : Int) - (TA.g bs s' : Int)).toNat = TA.g ws s' - TA.g bs s' := Int.toNat_sub ..
        rw [en] at hzs
        have hps6 : H6 f = some (.lst (ps.map V.ref)) := s6 _ _ hps
        have hE := flat_snoc (f := abAt' bs ws kind) hs'
        refine ⟨f, D, _, _, rfl, rfl, hps6, hd, ?_, ?_⟩
        · have l1 := hpq.length
          have l2 := hzs.length
          have l3 := able'_small (b := bs) (kind := kind) F.wle (kind.take (i + 1))
          have l5 : (kind.take (i + 1)).length ≤ 4 := Nat.le_trans (List.length_take_le' _ _) hkl
          rw [hE, List.length_append] at l3
          have l4 : zs.length = (abAt' bs ws kind s').length := l2
          rw [List.length_map, List.length_map]
          have l6 := Nat.mul_le_mul_right 14 l5
          exact Nat.le_trans (show _ ≤ 63 by omega) (by decide)
        · refine ⟨_, rfl, same_mut (s4.trans s6) hf, ?_⟩
          rw [hE]
          exact pl_ext hps6 (paired_mono (fun _ _ h => mQ.m s6 h) hpq) hzs
    · rintro σ H' ⟨a7, rfl, s4, hpl⟩
      rw [nl_length, List.take_length] at hpl
      exact ⟨_, rfl, k _ f s4 hf hpl⟩
end
end Tw
namespace Tw
open PySem PySem.Spec PyProof.Rows L2 TR
open TA (Plc zi Tk look put)
theorem cut_lo (xs : List V) (k : Nat) : cutV xs none (some (k : Int)) = xs.take k := by
  unfold cutV
  rw [HT.sIx_none, HT.sIx_nat, List.drop_zero, Nat.sub_zero]
  by_cases h : k ≤ xs.length
  · rw [Nat.min_eq_left h]
  · rw [Nat.min_eq_right (by omega), List.take_of_length_le (Nat.le_refl _), List.take_of_length_le (by omega)]
theorem cut_hi (xs : List V) (k : Nat) : cutV xs (some (k : Int)) none = xs.drop k := by
  unfold cutV
  rw [HT.sIx_none, HT.sIx_nat]
  by_cases h : k ≤ xs.length
  · rw [Nat.min_eq_left h, List.take_of_length_le (by rw [List.length_drop]; exact Nat.le_refl _)]
  · rw [Nat.min_eq_right (by omega), List.drop_of_length_le (Nat.le_refl _), List.drop_of_length_le (by omega), List.take_nil]
theorem nl_take (xs : List Nat) (i : Nat) : (nl xs).take i = nl (xs.take i) := by unfold nl zi; rw [List.map_take, List.map_take]
theorem nl_drop (xs : List Nat) (i : Nat) : (nl xs).drop i = nl (xs.drop i) := by unfold nl zi; rw [List.map_drop, List.map_drop]
/-- what stands where one item is replaced by slices -/
theorem splice {xs : List Nat} {i v : Nat} (h : i < xs.length) : (cutV (nl xs) none (some (i : Int)) ++ [vn v]) ++ cutV (nl xs) (some ((i + 1 : Nat) : Int)) none = nl (xs.set i v) := by
  rw [cut_lo, cut_hi, nl_take, nl_drop, List.set_eq_take_append_cons_drop, if_pos h, nl_append, List.append_assoc]; rfl
theorem splice_len {xs : List Nat} {i : Nat} : (cutV (nl xs) none (some (i : Int))).length ≤ xs.length := by
  have := cutV_length (nl xs) none (some (i : Int))
  rw [nl_length] at this; exact this
theorem paired_in {α β : Type} {F G : α → β → Prop} : ∀ {as : List α} {bs : List β}, Paired F as bs → (∀ a b, a ∈ as → F a b → G a b) → Paired G as bs
  | _, _, .nil, _ => .nil
  | _, _, .cons r t, h => .cons (h _ _ List.mem_cons_self r) (paired_in t fun a b ha => h a b (List.mem_cons_of_mem _ ha))
section
variable {P : Program} {w : World} {K : PySem.W.Frag} {mg : Str → Option Value} {base : Heap}
theorem sc__law_after : FnScope ["_law_board", "_law_kind", "_law_least", "_law_found", "_law_shelf"] ["_law_board", "_law_kind"] (defScope s__law_after) := ⟨rfl, rfl, rfl, by decide +kernel, rfl, by decide +kernel, by decide +kernel⟩
def sp__law_after : Sp := fun vs H Q _ => ∃ (b kd : Addr) (bs kind : List Nat), vs = [.ref b, .ref kd] ∧ IsN H b bs ∧ IsN H kd kind ∧ (∀ s ∈ kind, s < bs.length) ∧ kind ≠ [] ∧ bs.length ≤ 8 ∧ kind.length ≤ 8 ∧
  ∀ (H' : Hp) (f : Addr) (ps : List Addr), Same H H' → H f = none → H' f = some (.lst (ps.map V.ref)) → Paired (IsN H') ps (TA.after bs kind) → (∀ q ∈ ps, H q = none) → Q (.ref f) H'
theorem ok__law_after (T : Txt K mg) : FnOk P w K mg base CX0 1 T.d__law_after.f T.d__law_after.fd ["_law_board", "_law_kind"] sp__law_after := by
  refine T.d__law_after.F.ok sc__law_after (fun vs H Q E h => ?_) (fun cdv A outer s H vs Q E hr h => ?_)
  · obtain ⟨b, kd, bs, kind, rfl, _⟩ := h
    rfl
  · obtain ⟨b, kd, bs, kind, rfl, hb, hk, hlt, hne, h8, hk8, k⟩ := h
    refine ⟨_, (pss_cons (ps_par (i := 2) (j := 3) rfl sc__law_after.nd rfl rfl (by decide) rfl rfl (pa_cons (pe_callB (cr_min rfl) (by rfl) T.b_min bt_min (pa_cons (pe_lc (own := [("_law_shelf", 4)]) rfl sc__law_after.nd (pi_list (pv 1)) (blkOk_by (own := [("_law_shelf", 4)]) (N := ["_law_board", "_law_kind", "_law_least", "_law_found", "_law_shelf"]) (sc := defScope s__law_after) (by decide +kernel)) (fun _ _ _ _ _ => (pg_name (i := 4) sc__law_after.nd rfl (Or.inl rfl))) (fun _ _ _ _ _ => pts_nil) (fun _ _ _ _ _ => (pe_ix (ix_listK (K := K) rfl) (pv 0) (pv 4) (fun _ _ => rfl)))) pa_nil)) (pa_cons (pe_lst pa_nil) pa_nil)) (by rfl))
    (pss_cons (ps_for PassesOwn.never rfl (pi_list (pv 1)) (pg_name (i := 4) sc__law_after.nd rfl (Or.inl rfl)) (pss_one (ps_if (pt_cmpR op_eq (pe_ix ix_list (pv 0) (pv 4) (fun _ _ => rfl)) (pv 2) (nomark _)) (pss_one (ps_expr (pe_bm PySem.F.plainAttrs_list PySem.F.slot_list_append PySem.F.type_list_append mt_append (pv 3) (pa_cons (pe_op op_cat (pe_op op_cat (pe_slice sl_list (pv 0) po_none (po_some (pv 4))) (pe_lst (pa_cons (pe_op op_add (pe_ix ix_list (pv 0) (pv 4) (fun _ _ => rfl)) pe_int) pa_nil))) (pe_slice sl_list (pv 0) (po_some (pe_op op_add (pv 4) pe_int)) po_none)) pa_nil)))) pss_nil)))
    (pss_one (ps_ret (pv 3))))), ?_⟩
    refine ⟨_, rfl, kd, rfl, ⟨_, SqL.of hk⟩, fun D2 hD2 => ?_⟩
    have L2 : Lc H D2 (nl kind).length (fun i => (kind.take i).map (TA.g bs)) (fun y b _ => y = vn b) := ⟨hD2, rfl, (fun i => by rw [List.length_map, List.length_take]; exact Nat.min_le_left _ _), by rw [nl_length]; exact small64 (by omega), fun _ _ _ _ h _ => h⟩
    refine lc_gen L2 walk_list (fun H2 s2 => SqL.of (s2 _ _ hk)) (fun i x H8 H9 hi pi hx => ?_) (fun H2 ys s2 hd2 hp2 => ?_)
    · obtain ⟨rfl, hx'⟩ := hx
      obtain ⟨m, hm, rfl⟩ := nl_of hx'
      refine ⟨rfl, ?_⟩
      exact ⟨_, rfl, _, rfl, b, nl bs, _, _, rfl, rfl, SqL.of (pi.same _ _ hb), at_nl (hlt m (List.mem_of_getElem? hm)), L2.put hi pi (Same.refl _) (take_snoc hm) rfl⟩
    rw [paired_vn hp2, nl_length, List.take_length] at hd2
    refine ⟨D2, zi (kind.map (TA.g bs)), rfl, SqL.of hd2, (by rw [zi_length, List.length_map]; exact List.length_pos_iff.mpr hne), fun l' hl' hmin => ?_⟩
    obtain ⟨l, hl, rfl⟩ := zi_mem hl'
    obtain rfl : l = TA.minOn bs kind := TA.mn_eq hl fun y hy => by
      have := hmin (y : Int) (mem_zi.mpr hy)
      omega
    refine ⟨by show 0 ≤ sizeLine; decide, fun f hf => ⟨_, _, rfl, ?_⟩⟩
    have hf0 : H f = none := s2.free hf
    have s3 : Same H (upd H2 f (.lst [])) := s2.trans (same_upd hf)
    refine ⟨_, rfl, kd, rfl, ⟨_, SqL.of (s3 _ _ hk)⟩, ?_⟩
    refine for_it walk_list (fun i σ H' => ∃ a4 : Option V, σ = [some (.ref b), some (.ref kd), some (vn (TA.minOn bs kind)), some (.ref f), a4] ∧ Same H H' ∧ ∃ ps, H' f = some (.lst (ps.map V.ref)) ∧ Paired (IsN H') ps (((kind.take i).filter fun s => decide (TA.g bs s = TA.minOn bs kind)).map (TA.bump bs)) ∧ ∀ q ∈ ps, H q = none ∧ q ≠ f)
      ⟨none, rfl, s3, [], upd_same, .nil, fun _ h => by simp at h⟩ (fun i σ H' _ ⟨_, _, s4, _⟩ => SqL.of (s4 _ _ hk)) ?_ ?_
    · rintro i x σ H4 H5 hi ⟨a4, rfl, s5, ps, hps, hpp, hpn⟩ ⟨rfl, hx⟩
      obtain ⟨m, hm, rfl⟩ := nl_of hx
      rw [nl_length] at hi
      have hml := hlt m (List.mem_of_getElem? hm)
      have hb5 := s5 _ _ hb
      refine ⟨_, rfl, _, rfl, b, nl bs, _, _, rfl, rfl, SqL.of hb5, at_nl hml, _, rfl, rfl, _, rfl, ?_⟩
      by_cases c : TA.g bs m = TA.minOn bs kind
      · refine iteP (vn_inj c) ?_
        refine ⟨_, rfl, .inl ⟨rfl, _, SqL.of hps⟩, ?_⟩
        refine ⟨_, rfl, _, rfl, _, rfl, b, nl bs, rfl, SqL.of hb5, fun p1 hp1 => ?_⟩
        have z1 : Same H5 (upd H5 p1 (.lst (cutV (nl bs) none (some (m : Int))))) := same_upd hp1
        have e1 : upd H5 p1 (.lst (cutV (nl bs) none (some (m : Int)))) p1 = some (.lst (cutV (nl bs) none (some (m : Int)))) := upd_same
        generalize upd H5 p1 (.lst (cutV (nl bs) none (some (m : Int)))) = H6 at z1 e1 ⊢
        refine ⟨_, rfl, _, rfl, b, nl bs, _, _, rfl, rfl, SqL.of (z1 _ _ hb5), at_nl hml, _, _, rfl, rfl, by show 1 ≤ sizeLine; decide, fun p2 hp2 => ?_⟩
        have z2 : Same H6 (upd H6 p2 (.lst [vn (TA.g bs m + 1)])) := same_upd hp2
        refine ⟨p1, p2, _, [vn (TA.g bs m + 1)], rfl, rfl, z2 _ _ e1, upd_same, Nat.le_trans (Nat.add_le_add_right splice_len 1) (Nat.le_trans (show _ ≤ 63 by omega) (by decide)), fun p3 hp3 => ?_⟩
        have z3 := (z1.trans z2).trans (same_upd (o := .lst (cutV (nl bs) none (some (m : Int)) ++ [vn (TA.g bs m + 1)])) hp3)
        refine ⟨_, rfl, _, rfl, _, _, rfl, rfl, _, rfl, b, nl bs, rfl, SqL.of (z3 _ _ hb5), fun p4 hp4 => ?_⟩
        have z4 := z3.trans (same_upd (o := .lst (cutV (nl bs) (some ((m : Int) + 1)) none)) hp4)
        refine ⟨p3, p4, _, _, rfl, rfl, same_upd hp4 _ _ upd_same, upd_same, ?_, fun p5 hp5 => ?_⟩
        · have := cutV_length (nl bs) (some ((m : Int) + 1)) none
          have h2 := splice_len (xs := bs) (i := m)
          rw [nl_length] at this
          rw [List.length_append]
          exact Nat.le_trans (show _ ≤ 63 by show _ + 1 + _ ≤ _; omega) (by decide)
        · have esp := splice (v := TA.g bs m + 1) hml
          have esp : (cutV (nl bs) none (some (m : Int)) ++ [vn (TA.g bs m + 1)]) ++ cutV (nl bs) (some ((m : Int) + 1)) none = nl (TA.bump bs m) := esp
          rw [esp]
          have z5 := z4.trans (same_upd (o := .lst (nl (TA.bump bs m))) hp5)
          have hps5 := z5 _ _ hps
          have hp5' : H5 p5 = none := z4.free hp5
          have n5 : p5 ≠ f := fun e => by rw [e, hps] at hp5'; cases hp5'
          refine ⟨f, _, _, rfl, rfl, hps5, (by rw [List.length_map, hpp.length, List.length_map]; exact Nat.lt_of_le_of_lt (Nat.le_trans (List.length_filter_le _ _) (Nat.le_trans (List.length_take_le _ _) (show i ≤ 63 by omega))) (by decide)), ?_⟩
          refine ⟨_, rfl, same_mut (s5.trans z5) hf0, ps ++ [p5], by rw [upd_same, List.map_append]; rfl, ?_, fun q hq => ?_⟩
          · rw [take_snoc' hm, filter_put (f := fun s => decide (TA.g bs s = TA.minOn bs kind)) (decide_eq_true c), List.map_append]
            have hmem := hpn
            refine paired_snoc (paired_in hpp fun a b' ha h => ?_) ?_
            · exact (upd_ne (hmem a ha).2).trans (z5 _ _ h)
            · exact (upd_ne n5).trans upd_same
          · rcases List.mem_append.mp hq with h | h
            · exact hpn q h
            · have : q = p5 := List.mem_singleton.mp h
              rw [this]; exact ⟨s5.free hp5', n5⟩
      · refine iteN (fun z => c (by injection z with z; omega)) ?_
        refine ⟨_, rfl, s5, ps, hps, ?_, hpn⟩
        rw [take_snoc' hm, filter_skip (f := fun s => decide (TA.g bs s = TA.minOn bs kind)) (decide_eq_false c)]
        exact hpp
    · rintro σ H' ⟨a4, rfl, s4, ps, hps, hpp, hpn⟩
      rw [nl_length, List.take_length] at hpp
      exact ⟨_, rfl, k _ f ps s4 hf0 hps hpp fun q hq => (hpn q hq).1⟩
end
end Tw
namespace Tw
open PySem PySem.Spec PyProof.Rows L2 TR
open TA (Plc zi Tk look put Stg)
/-! ### the standings -/
theorem stand_lens {kinds : List (List Nat)} {b c : List Nat} : ∀ {i : Nat} {x : Stg}, x ∈ TA.stand kinds (b, c) i → x.1.length = b.length ∧ x.2.length = c.length ∧ x.2.sum + i = c.sum
  | 0, x, h => by
    have : x = (b, c) := List.mem_singleton.mp h
    rw [this]; exact ⟨rfl, rfl, rfl⟩
  | i + 1, x, h => by
    obtain ⟨y, hy, p, hp, hx⟩ := TA.mem_turn.mp h
    obtain ⟨h0, s, hs, _, rfl⟩ := TA.mem_steps.mp hx
    obtain ⟨l1, l2, l3⟩ := stand_lens hy
    refine ⟨by rw [TA.bump_length]; exact l1, by rw [List.length_set]; exact l2, ?_⟩
    have hpl : p < y.2.length := Classical.byContradiction fun z => by
      have : TA.g y.2 p = 0 := by
        unfold TA.g
        rw [List.getD_eq_getElem?_getD, List.getElem?_eq_none (by omega)]; rfl
      omega
    have h1 := TA.sum_set_le (l := y.2) (v := TA.g y.2 p - 1) hpl
    have h2 : TA.g y.2 p ≤ y.2.sum := TA.g_le_sum
    show (y.2.set p (TA.g y.2 p - 1)).sum + (i + 1) = c.sum
    omega
theorem pos_of_sum : ∀ {l : List Nat}, 0 < l.sum → ∃ p, p < l.length ∧ 0 < TA.g l p
  | [], h => by simp at h
  | x :: l, h => by
    by_cases hx : 0 < x
    · exact ⟨0, by simp, hx⟩
    · rw [List.sum_cons] at h
      obtain ⟨p, h1, h2⟩ := pos_of_sum (l := l) (by omega)
      exact ⟨p + 1, by simpa using h1, h2⟩
theorem stand_some {kinds : List (List Nat)} {b c : List Nat} (hne : ∀ k ∈ kinds, k ≠ []) (hl : c.length = kinds.length) : ∀ {i : Nat}, i ≤ c.sum → ∃ x, x ∈ TA.stand kinds (b, c) i
  | 0, _ => ⟨(b, c), List.mem_singleton.mpr rfl⟩
  | i + 1, h => by
    obtain ⟨x, hx⟩ := stand_some hne hl (i := i) (by omega)
    obtain ⟨l1, l2, l3⟩ := stand_lens hx
    obtain ⟨p, hp, h0⟩ := pos_of_sum (l := x.2) (by omega)
    have hpk : p < kinds.length := by omega
    obtain ⟨s, hs, hm⟩ := TA.minOn_mem (h := x.1) (hne _ (TA.getD_mem [] hpk))
    exact ⟨_, TA.mem_turn.mpr ⟨x, hx, p, hpk, TA.mem_steps.mpr ⟨h0, s, hs, hm, rfl⟩⟩⟩
theorem ends_ne {kinds : List (List Nat)} {b c : List Nat} (hne : ∀ k ∈ kinds, k ≠ []) (hl : c.length = kinds.length) : 0 < (TA.endsOf kinds b c).length := by
  obtain ⟨x, hx⟩ := stand_some (b := b) hne hl (Nat.le_refl c.sum)
  unfold TA.endsOf
  rw [List.length_map]
  exact List.length_pos_of_mem hx
theorem steps_pos {kinds : List (List Nat)} {st : Stg} {p : Nat} (h : 0 < TA.g st.2 p) : TA.stepsOf kinds st p = (TA.after st.1 (TA.gk kinds p)).map fun o => (o, st.2.set p (TA.g st.2 p - 1)) := if_pos h
theorem steps_zero {kinds : List (List Nat)} {st : Stg} {p : Nat} (h : ¬ 0 < TA.g st.2 p) : TA.stepsOf kinds st p = [] := if_neg h
def turnTo (kinds : List (List Nat)) (sts : List Stg) (j : Nat) : List Stg := (sts.take j).foldl (fun f st => TA.turnIn kinds f st kinds.length) []
theorem turnTo_succ {kinds : List (List Nat)} {sts : List Stg} {j : Nat} {st : Stg} (h : sts[j]? = some st) : turnTo kinds sts (j + 1) = TA.turnIn kinds (turnTo kinds sts j) st kinds.length := by
  unfold turnTo
  rw [take_snoc' h, List.foldl_append]; rfl
theorem turnTo_len {kinds : List (List Nat)} {sts : List Stg} {j : Nat} (hk : kinds.length ≤ 3) (hM : ∀ p, (TA.gk kinds p).length ≤ 4) (hj : j ≤ sts.length) : (turnTo kinds sts j).length ≤ 12 * j := by
  have h1 : (turnTo kinds sts j).length ≤ 0 + (sts.take j).length * (kinds.length * 4) := TA.turn_length_aux hM (sts.take j) []
  rw [List.length_take, Nat.min_eq_left hj] at h1
  have h2 : kinds.length * 4 ≤ 12 := by omega
  have h3 := Nat.mul_le_mul_left j h2
  omega
/-- a standing; its board is none of H0's -/
def IsStg (H0 : Hp) (H : Hp) (q : Addr) (st : Stg) : Prop := ∃ h l, H q = some (.tup [.ref h, .ref l]) ∧ IsN H h st.1 ∧ IsN H l st.2 ∧ H0 h = none
theorem mStg {H0 : Hp} : Mono (IsStg H0) := ⟨fun s ⟨h, l, h1, h2, h3, h4⟩ => ⟨h, l, s _ _ h1, s _ _ h2, s _ _ h3, h4⟩⟩
/-- a row that is none of H0's -/
def IsNew (H0 : Hp) (H : Hp) (q : Addr) (ns : List Nat) : Prop := IsN H q ns ∧ H0 q = none
theorem mNew {H0 : Hp} : Mono (IsNew H0) := ⟨fun s h => ⟨mN.m s h.1, h.2⟩⟩
/-- told without fu -/
def Off {β : Type} (Rel : Hp → Addr → β → Prop) (fu : Addr) : Hp → Addr → β → Prop := fun H p b => Rel (cut H fu) p b
theorem mOff {β : Type} {Rel : Hp → Addr → β → Prop} (m : Mono Rel) {fu : Addr} : Mono (Off Rel fu) := ⟨fun s h => m.m (same_cut (cut_same.trans s) cut_self) h⟩
/-- the list at fu, its items told without it -/
def Mine {β : Type} (Rel : Hp → Addr → β → Prop) (H : Hp) (fu : Addr) (bs : List β) : Prop := ∃ ps : List Addr, H fu = some (.lst (ps.map V.ref)) ∧ Paired (Off Rel fu H) ps bs
theorem mMine {β : Type} {Rel : Hp → Addr → β → Prop} (m : Mono Rel) : Mono (Mine Rel) := ⟨fun s ⟨ps, h1, h2⟩ => ⟨ps, s _ _ h1, paired_mono (fun _ _ h => (mOff m).m s h) h2⟩⟩
theorem Mine.of {β : Type} {Rel : Hp → Addr → β → Prop} (m : Mono Rel) {H : Hp} {fu : Addr} {bs : List β} (h : Mine Rel H fu bs) : IsOf Rel H fu bs :=
  let ⟨ps, h1, h2⟩ := h
  ⟨ps, h1, paired_mono (fun _ _ h => m.m cut_same h) h2⟩
theorem dpAll_of' {K : PySem.W.Frag} {H : Hp} {α : Type} {Rel : Hp → Addr → α → Prop} {E : Enc α} (hd : ∀ {p a}, Rel H p a → Dp K H (.ref p) (E.f a)) : ∀ {ps : List Addr} {as : List α}, Paired (Rel H) ps as → DpAll K H (ps.map V.ref) (as.map E.f) := dpAll_of hd
theorem dp_pr {K : PySem.W.Frag} {H : Hp} {p h l : Addr} {st : Stg} (h1 : H p = some (.tup [.ref h, .ref l])) (h2 : IsN H h st.1) (h3 : IsN H l st.2) : Dp K H (.ref p) (eSt.f st) :=
  .tup (SqT.of h1) (.cons (dp_n h2) (.cons (dp_n h3) .nil))
theorem dp_stg {K : PySem.W.Frag} {H0 H : Hp} {p : Addr} {st : Stg} (h : IsStg H0 H p st) : Dp K H (.ref p) (eSt.f st) :=
  let ⟨_, _, h1, h2, h3, _⟩ := h
  dp_pr h1 h2 h3
theorem dp_sts {K : PySem.W.Frag} {H0 H : Hp} {p : Addr} {sts : List Stg} (h : IsOf (IsStg H0) H p sts) : Dp K H (.ref p) (eSts.f sts) := dp_of (E := eSt) dp_stg h
theorem off_base {H H' : Hp} {D fu : Addr} (s : Same H H') (hD : H D = none) : Same (cut H fu) (cut (cut H' D) fu) := same_cut (cut_same.trans (same_cut s hD)) cut_self
section
variable {P : Program} {w : World} {K : PySem.W.Frag} {mg : Str → Option Value} {base : Heap}
theorem sc__law_ends : FnScope ["_law_kinds_here", "_law_board", "_law_counts", "_law_standings", "_law_turn", "_law_further", "_law_here", "_law_left", "_law_position", "_law_many", "_law_rest", "_law_one"] ["_law_kinds_here", "_law_board", "_law_counts"] (defScope s__law_ends) := ⟨rfl, rfl, rfl, by decide +kernel, rfl, by decide +kernel, by decide +kernel⟩
def sp__law_ends : Sp := fun vs H Q _ => ∃ (a b c : Addr) (kinds : List (List Nat)) (bs cs : List Nat), vs = [.ref a, .ref b, .ref c] ∧ IsRows H a kinds ∧ IsN H b bs ∧ IsN H c cs ∧ kinds.length ≤ 3 ∧ (∀ k ∈ kinds, k ≠ []) ∧ (∀ k ∈ kinds, ∀ s ∈ k, s < bs.length) ∧ (∀ k ∈ kinds, k.length ≤ 4) ∧ bs.length ≤ 8 ∧ cs.length = kinds.length ∧ cs.sum ≤ 6 ∧
  ∀ H' e ws, Same H H' → IsOf (IsNew H) H' e ws → ws.Perm (TA.endsOf kinds bs cs) → Q (.ref e) H'
theorem ok__law_ends (T : Txt K mg) : FnOk P w K mg base CX0 2 T.d__law_ends.f T.d__law_ends.fd ["_law_kinds_here", "_law_board", "_law_counts"] sp__law_ends := by
  refine T.d__law_ends.F.ok sc__law_ends (fun vs H Q E h => ?_) (fun cdv A outer s H vs Q E hr h => ?_)
  · obtain ⟨a, b, c, kinds, bs, cs, rfl, _⟩ := h
    rfl
  · obtain ⟨a, b, c, kinds, bs, cs, rfl, ⟨ks, ha1, ha2⟩, hb, hc, hk3, hne, hlt, hk4, hb8, hcl, hcs, k⟩ := h
    have hM : ∀ p, (TA.gk kinds p).length ≤ 4 := fun p => by
      by_cases hp : p < kinds.length
      · exact hk4 _ (TA.getD_mem [] hp)
      · unfold TA.gk
        rw [List.getD_eq_getElem?_getD, List.getElem?_eq_none (by omega)]; simp
    refine ⟨_, (pss_cons (ps_set (i := 3) sc__law_ends.nd rfl (Or.inl rfl) (pe_lst (pa_cons (pe_tup (pa_cons (pe_callTy call_list_of (by rfl) T.b_list bt_list (pa_cons (pv 1) pa_nil)) (pa_cons (pe_callTy call_list_of (by rfl) T.b_list bt_list (pa_cons (pv 2) pa_nil)) pa_nil))) pa_nil)))
    (pss_cons (ps_for PassesOwn.never rfl (pi_range1 (by rfl) T.b_range (pa_cons (pe_callB (cr_sum rfl) (by rfl) T.b_sum bt_sum (pa_cons (pv 2) pa_nil)) pa_nil)) (pg_name (i := 4) sc__law_ends.nd rfl (Or.inl rfl)) (pss_cons (ps_set (i := 5) sc__law_ends.nd rfl (Or.inr rfl) (pe_lst pa_nil))
    (pss_cons (ps_for PassesOwn.never rfl (pi_list (pv 3)) (pg_tupK (K := K) (n := 2) rfl rfl (pgs_cons (pg_name (i := 6) sc__law_ends.nd rfl (Or.inl rfl)) (pgs_cons (pg_name (i := 7) sc__law_ends.nd rfl (Or.inl rfl)) pgs_nil))) (pss_one (ps_for PassesOwn.never rfl (pi_enumK (kdL _) (by rfl) T.b_enumerate (pa_cons (pv 7) pa_nil)) (pg_tupK (K := K) (n := 2) rfl rfl (pgs_cons (pg_name (i := 8) sc__law_ends.nd rfl (Or.inl rfl)) (pgs_cons (pg_name (i := 9) sc__law_ends.nd rfl (Or.inl rfl)) pgs_nil))) (pss_one (ps_if (pt_cmpR op_gt (pv 9) pe_int (nomark _)) (pss_cons (ps_set (i := 10) sc__law_ends.nd rfl (Or.inr rfl) (pe_op op_cat (pe_op op_cat (pe_slice sl_list (pv 7) po_none (po_some (pv 8))) (pe_lst (pa_cons (pe_op op_sub (pv 9) pe_int) pa_nil))) (pe_slice sl_list (pv 7) (po_some (pe_op op_add (pv 8) pe_int)) po_none)))
    (pss_one (ps_expr (pe_bm PySem.F.plainAttrs_list PySem.F.slot_list_extend PySem.F.type_list_extend mt_extend (pv 5) (pa_cons (pe_lc (own := [("_law_one", 11)]) rfl sc__law_ends.nd (pi_list (pe_call (ok__law_after T) (hr.mono (by decide)) (by rfl) T.d__law_after.m T.d__law_after.F.kp T.d__law_after.b .nil pass0 (pa_cons (pv 6) (pa_cons (pe_ix ix_list (pv 0) (pv 8) (fun _ _ => rfl)) pa_nil)))) (blkOk_by (own := [("_law_one", 11)]) (N := ["_law_kinds_here", "_law_board", "_law_counts", "_law_standings", "_law_turn", "_law_further", "_law_here", "_law_left", "_law_position", "_law_many", "_law_rest", "_law_one"]) (sc := defScope s__law_ends) (by decide +kernel)) (fun _ _ _ _ _ => (pg_name (i := 11) sc__law_ends.nd rfl (Or.inl rfl))) (fun _ _ _ _ _ => (pts_one (pt_cmpR (op_notInDK (K := K) rfl (hu65 hr)) (pe_tup (pa_cons (pv 11) (pa_cons (pv 10) pa_nil))) (pv 5) (by rfl)))) (fun _ _ _ _ _ => (pe_tup (pa_cons (pv 11) (pa_cons (pv 10) pa_nil))))) pa_nil))))) pss_nil)))))
    (pss_one (ps_set (i := 3) sc__law_ends.nd rfl (Or.inl rfl) (pv 5))))))
    (pss_one (ps_ret (pe_callB (cr_sortedR hr.units) (by rfl) T.b_sorted bt_sorted (pa_cons (pe_lc (own := [("_law_here", 6), ("_law_left", 7)]) rfl sc__law_ends.nd (pi_list (pv 3)) (blkOk_by (own := [("_law_here", 6), ("_law_left", 7)]) (N := ["_law_kinds_here", "_law_board", "_law_counts", "_law_standings", "_law_turn", "_law_further", "_law_here", "_law_left", "_law_position", "_law_many", "_law_rest", "_law_one"]) (sc := defScope s__law_ends) (by decide +kernel)) (fun _ _ _ _ _ => (pg_tupK (K := K) (n := 2) rfl rfl (pgs_cons (pg_name (i := 6) sc__law_ends.nd rfl (Or.inl rfl) (Or.inr rfl)) (pgs_cons (pg_name (i := 7) sc__law_ends.nd rfl (Or.inl rfl) (Or.inr rfl)) pgs_nil)))) (fun _ _ _ _ _ => pts_nil) (fun _ _ _ _ _ => (pv 6))) pa_nil)))))), ?_⟩
    refine ⟨_, rfl, b, nl bs, rfl, .inl (SqL.of hb), fun h0 hh0 => ⟨_, rfl, c, nl cs, rfl, .inl (SqL.of (same_upd hh0 _ _ hc)), fun l0 hl0 => ⟨by show 2 ≤ sizeLine; decide, fun t0 ht0 => ⟨by show 1 ≤ sizeLine; decide, fun sl hsl => ?_⟩⟩⟩⟩
    have z1 : Same H (upd H h0 (.lst (nl bs))) := same_upd hh0
    have z2 := z1.trans (same_upd (o := .lst (nl cs)) hl0)
    have z3 := z2.trans (same_upd (o := .tup [.ref h0, .ref l0]) ht0)
    have z4 := z3.trans (same_upd (o := .lst [.ref t0]) hsl)
    have hst := (mStg (H0 := H)).m (same_upd (o := .lst [.ref t0]) hsl) (a := (bs, cs)) ⟨h0, l0, upd_same, same_upd ht0 _ _ (same_upd hl0 _ _ upd_same), same_upd ht0 _ _ upd_same, hh0⟩
    refine ⟨_, rfl, c, zi cs, rfl, SqL.of (z4 _ _ hc), _, rfl, (by rw [zi_sum]; omega), (by rw [zi_sum]; omega), ?_⟩
    have hn : (zi cs).sum.toNat = cs.sum := by rw [zi_sum, Int.toNat_natCast]
    refine for_it walk_range (fun i σ H' => ∃ (x4 x5 x6 x7 x8 x9 x10 : Option V) (sl : Addr), σ = [some (.ref a), some (.ref b), some (.ref c), some (.ref sl), x4, x5, x6, x7, x8, x9, x10, none] ∧ Same H H' ∧ IsOf (IsStg H) H' sl (TA.stand kinds (bs, cs) i))
      ⟨none, none, none, none, none, none, none, sl, rfl, z4, [t0], upd_same, .cons hst .nil⟩ (fun _ _ _ _ _ => trivial) ?_ ?_
    · rintro i x σ H2 H1 hi ⟨x4, x5, x6, x7, x8, x9, x10, sl, rfl, s1, hsts⟩ ⟨rfl, hx⟩
      rw [hn] at hi
      have hlens := fun st (hst : st ∈ TA.stand kinds (bs, cs) i) => stand_lens hst
      have hlen := TA.stand_length (st := (bs, cs)) hk3 hM i
      generalize hsts' : TA.stand kinds (bs, cs) i = sts at hsts hlens hlen
      have hi6 : 12 ^ i ≤ 12 ^ 5 := Nat.pow_le_pow_right (by decide) (by omega)
      have e125 : 12 ^ 5 = 248832 := by decide
      obtain ⟨ps0, hs1, hs2⟩ := hsts
      have hps0 := hs2.length
      refine ⟨by show 0 ≤ sizeLine; decide, fun fu hfu => ?_⟩
      have hfu0 : H fu = none := s1.free hfu
      have y1 : Same H1 (upd H1 fu (.lst [])) := same_upd hfu
      refine ⟨_, rfl, sl, rfl, ⟨_, SqL.of (y1 _ _ hs1)⟩, ?_⟩
      refine for_it walk_list (fun j σ H' => ∃ (x6 x7 x8 x9 x10 : Option V), σ = [some (.ref a), some (.ref b), some (.ref c), some (.ref sl), some x, some (.ref fu), x6, x7, x8, x9, x10, none] ∧ Same H1 H' ∧ Mine (IsStg H) H' fu (turnTo kinds sts j))
        ⟨x6, x7, x8, x9, x10, rfl, y1, [], upd_same, .nil⟩ (fun i σ H' _ ⟨_, _, _, _, _, _, s4, _⟩ => SqL.of (s4 _ _ hs1)) ?_ ?_
      · rintro j x' σ H3 H4 hj ⟨x6, x7, x8, x9, x10, rfl, s4, hm4⟩ ⟨rfl, hx'⟩
        rw [List.length_map, hps0] at hj
        obtain ⟨q, hq, rfl⟩ := refs_at hx'
        obtain ⟨st, hst, h, l, hq1, hq2, hq3, hq4⟩ := paired_at' hs2 hq
        obtain ⟨ln1, ln2, ln3⟩ := hlens st (List.mem_of_getElem? hst)
        refine ⟨q, _, rfl, SqT.of (s4 _ _ hq1), rfl, _, _, rfl, _, _, rfl, rfl, ?_⟩
        refine ⟨_, rfl, l, nl st.2, rfl, SqL.of (s4 _ _ hq3), ?_⟩
        have htl := turnTo_len (kinds := kinds) (sts := sts) hk3 hM (Nat.le_of_lt hj)
        refine for_it (walk_enumK (k := kdL K)) (fun p σ H' => ∃ (x8 x9 x10 : Option V), σ = [some (.ref a), some (.ref b), some (.ref c), some (.ref sl), some x, some (.ref fu), some (.ref h), some (.ref l), x8, x9, x10, none] ∧ Same H1 H' ∧ Mine (IsStg H) H' fu (TA.turnIn kinds (turnTo kinds sts j) st p))
          ⟨x8, x9, x10, rfl, s4, hm4⟩ (fun i σ H' _ ⟨_, _, _, _, s5, _⟩ => SqL.of (s5 _ _ hq3)) ?_ ?_
        · rintro p x' σ H5 H6 hp ⟨x8, x9, x10, rfl, s5, hm5⟩ ⟨t, u, v', rfl, ht, rfl, hu1, hv1⟩
          obtain ⟨m, hm, rfl⟩ := nl_of hv1
          obtain rfl := Option.some.inj hu1
          rw [nl_length] at hp
          have em : TA.g st.2 p = m := TA.getD_some 0 hm
          refine ⟨t, _, rfl, SqT.of upd_same, rfl, _, _, rfl, _, _, rfl, rfl, ?_⟩
          have s6 := s5.trans (same_upd (o := .tup [vn p, vn m]) ht)
          have hm6 := (mMine mStg).m (same_upd (o := .tup [vn p, vn m]) ht) hm5
          refine ⟨_, rfl, _, _, rfl, rfl, _, rfl, ?_⟩
          by_cases c0 : 0 < m
          · refine iteP (by omega) ?_
            generalize upd H5 t (.tup [vn p, vn m]) = H6 at s6 hm6 ⊢
            have hl6 := s6 _ _ hq3
            obtain ⟨psf, hfu6, hpf6⟩ := id hm6
            refine ⟨_, rfl, _, rfl, _, rfl, l, nl st.2, rfl, SqL.of hl6, fun p1 hp1 => ?_⟩
            have z1 : Same H6 (upd H6 p1 (.lst (cutV (nl st.2) none (some (p : Int))))) := same_upd hp1
            have e1 : upd H6 p1 (.lst (cutV (nl st.2) none (some (p : Int)))) p1 = some (.lst (cutV (nl st.2) none (some (p : Int)))) := upd_same
            generalize upd H6 p1 (.lst (cutV (nl st.2) none (some (p : Int)))) = H7 at z1 e1 ⊢
            refine ⟨_, rfl, _, _, rfl, rfl, by show 1 ≤ sizeLine; decide, fun p2 hp2 => ?_⟩
            have z2 : Same H7 (upd H7 p2 (.lst [V.int ((m : Int) - 1)])) := same_upd hp2
            have hl3 : st.2.length ≤ 3 := by omega
            refine ⟨p1, p2, _, [V.int ((m : Int) - 1)], rfl, rfl, z2 _ _ e1, upd_same, Nat.le_trans (Nat.add_le_add_right splice_len 1) (Nat.le_trans (show _ ≤ 63 by omega) (by decide)), fun p3 hp3 => ?_⟩
            have z3 := (z1.trans z2).trans (same_upd (o := .lst (cutV (nl st.2) none (some (p : Int)) ++ [V.int ((m : Int) - 1)])) hp3)
            refine ⟨_, rfl, _, rfl, _, _, rfl, rfl, _, rfl, l, nl st.2, rfl, SqL.of (z3 _ _ hl6), fun p4 hp4 => ?_⟩
            have z4 := z3.trans (same_upd (o := .lst (cutV (nl st.2) (some ((p : Int) + 1)) none)) hp4)
            refine ⟨p3, p4, _, _, rfl, rfl, same_upd hp4 _ _ upd_same, upd_same, ?_, fun r hr => ?_⟩
            · have := cutV_length (nl st.2) (some ((p : Int) + 1)) none
              have h2 := splice_len (xs := st.2) (i := p)
              rw [nl_length] at this
              rw [List.length_append]
              exact Nat.le_trans (show _ ≤ 63 by show _ + 1 + _ ≤ _; omega) (by decide)
            have ev : V.int ((m : Int) - 1) = vn (m - 1) := v_int (by omega)
            have esp : (cutV (nl st.2) none (some (p : Int)) ++ [V.int ((m : Int) - 1)]) ++ cutV (nl st.2) (some ((p : Int) + 1)) none = nl (st.2.set p (m - 1)) := by
              rw [ev]; exact splice hp
            rw [esp]
            have hr6 : H6 r = none := z4.free hr
            have nrf : r ≠ fu := fun e => by rw [e, hfu6] at hr6; cases hr6
            have z5 := z4.trans (same_upd (o := .lst (nl (st.2.set p (m - 1)))) hr)
            refine hide (H3 := upd _ r (.lst (nl (st.2.set p (m - 1))))) (R := fun H8 => Same H6 H8 ∧ IsN H8 r (st.2.set p (m - 1))) ⟨z5, upd_same⟩ fun H8 hz => ?_
            clear z1 z2 z3 z4 z5 e1 hp1 hp2 hp3 hp4 hr
            obtain ⟨z5, hr8⟩ := hz
            have hpk : p < kinds.length := by omega
            obtain ⟨kd, hkd, hkk⟩ := paired_at ha2 (TA.some_getD [] hpk)
            have hkm := TA.getD_mem [] hpk
            have s8 := s6.trans z5
            have s08 := s1.trans s8
            have hfu8 := z5 _ _ hfu6
            refine ⟨_, rfl, .inl ⟨rfl, _, SqL.of hfu8⟩, ?_⟩
            refine ⟨_, rfl, _, rfl, _, rfl, a, _, _, _, rfl, rfl, SqL.of (s08 _ _ ha1), atI_nat (refs_get hkd), h, kd, st.1, TA.gk kinds p, rfl, s8 _ _ hq2, s08 _ _ hkk, (fun s hs => by rw [ln1]; exact hlt _ hkm s hs), hne _ hkm, (by rw [ln1]; exact hb8), Nat.le_trans (hM p) (by decide), fun H9 af pa s9 haf ha9 hpa hpn => ?_⟩
            have hpal := hpa.length
            have hAl : (TA.after st.1 (TA.gk kinds p)).length ≤ 4 := by
              unfold TA.after
              rw [List.length_map]
              exact Nat.le_trans (List.length_filter_le _ _) (hM p)
            refine ⟨af, rfl, ⟨_, SqL.of ha9⟩, fun D hD => ?_⟩
            have z9 := z5.trans s9
            have hm9 := (mMine mStg).m z9 hm6
            have hfl := TA.turnIn_length (f := turnTo kinds sts j) (st := st) hM p
            generalize hf : TA.turnIn kinds (turnTo kinds sts j) st p = f at hm9 hm6 hm5 hpf6 hfl
            generalize hA : TA.after st.1 (TA.gk kinds p) = A at hpa hpal hAl
            generalize hrest : st.2.set p (m - 1) = rest at hr8
            have hr9 : IsN (cut H9 fu) r rest := IsN.cut (mN.m s9 hr8) nrf
            have L : Lc H9 D (pa.map V.ref).length (fun i => ((A.take i).filter fun o => !decide ((o, rest) ∈ f)).map fun o => (o, rest)) (RefTo (Off (IsStg H) fu) D) :=
              Lc.refs (mOff mStg) hD rfl (fun i => by rw [List.length_map]; exact Nat.le_trans (List.length_filter_le _ _) (by rw [List.length_take]; exact Nat.min_le_left _ _)) (by rw [List.length_map, hpal]; exact Nat.le_trans hAl (by decide))
            refine lc_gen L walk_list (fun H2 s2 => SqL.of (s2 _ _ ha9)) (fun i y H10 H11 hi pi hy => ?_) (fun H10 ys s10 hd hpy => ?_)
            · obtain ⟨rfl, hy'⟩ := hy
              obtain ⟨q', hq', rfl⟩ := refs_at hy'
              obtain ⟨o, ho, hqo⟩ := paired_at' hpa hq'
              have nqf : q' ≠ fu := fun e => by have := hpn q' (List.mem_of_getElem? hq'); rw [e, hfu8] at this; cases this
              have hqo9 : IsN (cut H9 fu) q' o := IsN.cut hqo nqf
              refine ⟨rfl, _, rfl, _, rfl, by show 2 ≤ sizeLine; decide, fun t1 ht1 => ?_⟩
              have s11 := pi.same.trans (same_upd (o := .tup [.ref q', .ref r]) ht1)
              refine ⟨_, rfl, eSt.f (o, rest), f.map eSt.f, dp_pr upd_same (mN.m (cut_same.trans s11) hqo9) (mN.m (cut_same.trans s11) hr9), dp_sts (((mMine mStg).m s11 hm9).of mStg), eSt.shaped (by decide) _, eSts.shaped (by decide) _, _, rfl, ?_⟩
              by_cases cin : (o, rest) ∈ f
              · refine iteBF (by rw [eSt.anyT cin]; rfl) (L.skip pi (same_upd ht1) ?_)
                show ((A.take (i + 1)).filter _).map _ = _
                rw [take_snoc' ho, filter_skip (f := fun o => !decide ((o, rest) ∈ f)) (by rw [decide_eq_true cin]; rfl)]
              · refine iteB (by rw [eSt.anyF cin]; rfl) ⟨_, rfl, _, rfl, by show 2 ≤ sizeLine; decide, fun t2 ht2 => ?_⟩
                have s12 := s11.trans (same_upd (o := .tup [.ref q', .ref r]) ht2)
                have hb2 := off_base (fu := fu) s12 hD
                have nt2 : t2 ≠ D := ne_at ht2 (let ⟨o, ho⟩ := pi.no; ⟨o, same_upd ht1 _ _ ho⟩)
                have nt3 : t2 ≠ fu := ne_at ht2 ⟨_, s11 _ _ (z9 _ _ hfu6)⟩
                refine L.put (b := (o, rest)) hi pi ((same_upd ht1).trans (same_upd ht2)) ?_ ⟨t2, rfl, q', r, ?_, mN.m hb2 hqo9, mN.m hb2 hr9, s08.free (hpn q' (List.mem_of_getElem? hq'))⟩
                · show ((A.take (i + 1)).filter _).map _ = _
                  rw [take_snoc' ho, filter_put (f := fun o => !decide ((o, rest) ∈ f)) (by rw [decide_eq_false cin]; rfl), List.map_append]; rfl
                · rw [cut_ne nt3, cut_ne nt2]; exact upd_same
            · obtain ⟨zs, rfl, hzs⟩ := paired_refs (mOff mStg) hpy
              rw [List.length_map, hpal, List.take_length] at hzs
              have hfu10 := s10 _ _ (z9 _ _ hfu6)
              have hzl := hzs.length
              have hfl2 := hpf6.length
              refine ⟨fu, D, _, _, rfl, rfl, hfu10, hd, ?_, ?_⟩
              · rw [List.length_map] at hzl
                have h5 : ((A.filter fun o => !decide ((o, rest) ∈ f))).length ≤ 4 := Nat.le_trans (List.length_filter_le _ _) hAl
                rw [List.length_map, List.length_map]
                exact Nat.le_trans (show _ ≤ 3000000 by omega) (by decide)
              · refine ⟨_, _, _, rfl, same_mut ((s6.trans z9).trans s10) hfu, psf ++ zs, by rw [upd_same, List.map_append], ?_⟩
                show Paired (fun p b => IsStg H (cut (upd H10 fu _) fu) p b) _ _
                rw [cut_upd, TA.turnIn_succ, hf, steps_pos (by rw [em]; exact c0), hA, em, hrest]
                refine paired_append (paired_mono (fun _ _ h => (mOff mStg).m (z9.trans s10) h) hpf6) ?_
                rw [List.filter_map]
                exact hzs
          · refine iteN (by omega) ?_
            refine ⟨_, _, _, rfl, s6, ?_⟩
            rw [TA.turnIn_succ, steps_zero (by rw [em]; exact c0)]
            show Mine (IsStg H) _ fu (_ ++ List.filter _ [])
            rw [List.filter_nil, List.append_nil]
            exact hm6
        · rintro σ H5 ⟨x8, x9, x10, rfl, s5, hm5⟩
          rw [nl_length, ln2, hcl] at hm5
          refine ⟨_, _, _, _, _, rfl, s5, ?_⟩
          rw [turnTo_succ hst]
          exact hm5
      · rintro σ H3 ⟨x6, x7, x8, x9, x10, rfl, s4, hm4⟩
        rw [List.length_map, hps0] at hm4
        refine ⟨_, rfl, _, _, _, _, _, _, _, fu, rfl, s1.trans s4, ?_⟩
        have : TA.stand kinds (bs, cs) (i + 1) = turnTo kinds sts sts.length := by
          unfold turnTo
          rw [List.take_length, ← hsts']; rfl
        rw [this]
        exact hm4.of mStg
    · rintro σ H3 ⟨x4, x5, x6, x7, x8, x9, x10, sl, rfl, s4, hsts⟩
      rw [hn] at hsts
      have hlen : (TA.stand kinds (bs, cs) cs.sum).length ≤ 2985984 := Nat.le_trans (TA.stand_length (st := (bs, cs)) hk3 hM cs.sum) (Nat.le_trans (Nat.pow_le_pow_right (by decide) hcs) (by decide))
      have hends : TA.endsOf kinds bs cs = (TA.stand kinds (bs, cs) cs.sum).map (·.1) := rfl
      generalize TA.stand kinds (bs, cs) cs.sum = sts at hsts hlen hends
      obtain ⟨ps, hs1, hs2⟩ := hsts
      have hpl := hs2.length
      refine ⟨_, rfl, sl, rfl, ⟨_, SqL.of hs1⟩, fun D hD => ?_⟩
      have L : Lc H3 D (ps.map V.ref).length (fun i => (sts.take i).map fun st => st.1) (RefTo (IsNew H) D) :=
        Lc.refs mNew hD rfl (fun i => by rw [List.length_map, List.length_take]; exact Nat.min_le_left _ _) (by rw [List.length_map, hpl]; exact Nat.le_trans hlen (by decide))
      refine lc_gen L walk_list (fun H2 s2 => SqL.of (s2 _ _ hs1)) (fun i y H5 H6 hi pi hy => ?_) (fun H5 ys s5 hd hpy => ?_)
      · obtain ⟨rfl, hy'⟩ := hy
        obtain ⟨q, hq, rfl⟩ := refs_at hy'
        obtain ⟨st, hst, h, l, hq1, hq2, hq3, hq4⟩ := paired_at' hs2 hq
        have nD : ∀ (h : Addr) {xs : List Nat}, IsN H3 h xs → h ≠ D := fun h xs hx e => by
          have z : H3 h = some (.lst (nl xs)) := hx
          rw [e, hD] at z; cases z
        refine ⟨q, _, rfl, SqT.of (pi.same _ _ hq1), rfl, _, _, rfl, _, _, rfl, rfl, rfl, _, rfl, ?_⟩
        exact L.put hi pi (Same.refl _) (take_snoc hst) ⟨h, rfl, IsN.cut (mN.m pi.same hq2) (nD h hq2), hq4⟩
      · obtain ⟨zs, rfl, hzs⟩ := paired_refs mNew hpy
        rw [List.length_map, hpl, List.take_length] at hzs
        obtain ⟨ms, hms, hmp⟩ := TA.map_zi_of (TA.sortRows_perm ((sts.map fun st => st.1).map zi))
        refine ⟨D, _, _, _, rfl, SqL.of hd, rows_of (F := fun q ns => IsNew H H5 q ns) hzs, rowF_lst fun _ _ h => h.1, fun ys q hys hq => ?_⟩
        rw [show ((sts.map fun st => st.1).map zi).mergeSort (fun p q => decide (p ≤ q)) = ms.map zi from hms] at hys
        obtain ⟨qs, rfl, hqs⟩ := of_rows hys
        have sq : Same H5 (upd H5 q (.lst (qs.map V.ref))) := same_upd hq
        exact k _ q ms ((s4.trans s5).trans sq) ⟨qs, upd_same, paired_mono (fun _ _ h => mNew.m sq h) hqs⟩ (by rw [hends]; exact hmp)
end
end Tw
namespace Tw
open PySem PySem.Spec PyProof.Rows L2 TR
open TA (Plc zi Tk look put Stg)
section
variable {P : Program} {w : World} {K : PySem.W.Frag} {mg : Str → Option Value} {base : Heap}
theorem nl_flat (xs : List Nat) : (nl xs).all flatV = true := by
  rw [List.all_eq_true]
  intro v hv
  obtain ⟨i, hi⟩ := List.getElem?_of_mem hv
  obtain ⟨n, _, rfl⟩ := nl_of hi
  rfl
theorem hist_take {kinds : List (List Nat)} {here ws : List Nat} {way : List (Nat × Nat)} {i : Nat} {e : Nat × Nat} (he : way[i]? = some e) (h : TA.Hist kinds here (way.drop i) ws) : TA.Legal kinds here e.1 e.2 ∧ TA.Hist kinds (TA.bump here e.2) (way.drop (i + 1)) ws := by
  have e1 : way.drop i = e :: way.drop (i + 1) := by
    obtain ⟨hi, hv⟩ := List.getElem?_eq_some_iff.mp he
    rw [List.drop_eq_getElem_cons hi, hv]
  rw [e1] at h
  exact h
theorem sc__law_played : FnScope ["_law_kinds_here", "_law_board", "_law_history", "_law_here", "_law_used", "_law_deed", "_law_kind", "_law_shelf", "_law_one"] ["_law_kinds_here", "_law_board", "_law_history"] (defScope s__law_played) := ⟨rfl, rfl, rfl, by decide +kernel, rfl, by decide +kernel, by decide +kernel⟩
def sp__law_played : Sp := fun vs H Q _ => ∃ (a b v : Addr) (kinds : List (List Nat)) (bs ws : List Nat) (way : List (Nat × Nat)), vs = [.ref a, .ref b, .ref v] ∧ IsRows H a kinds ∧ IsN H b bs ∧ IsWay H v way ∧ TA.Hist kinds bs way ws ∧ kinds.length ≤ 8 ∧ (∀ k ∈ kinds, ∀ s ∈ k, s < bs.length) ∧ (∀ k ∈ kinds, k.length ≤ 8) ∧
  ∀ H' p h u, Same H H' → H' p = some (.tup [.ref h, .ref u]) → IsN H' h ws → IsN H' u (TA.usedOf kinds.length way) → Q (.ref p) H'
theorem ok__law_played (T : Txt K mg) : FnOk P w K mg base CX0 1 T.d__law_played.f T.d__law_played.fd ["_law_kinds_here", "_law_board", "_law_history"] sp__law_played := by
  refine T.d__law_played.F.ok sc__law_played (fun vs H Q E h => ?_) (fun cdv A outer s H vs Q E hr h => ?_)
  · obtain ⟨a, b, v, kinds, bs, ws, way, rfl, _⟩ := h
    rfl
  · obtain ⟨a, b, v, kinds, bs, ws, way, rfl, ⟨ks, ha1, ha2⟩, hb, ⟨qs, hv1, hv2⟩, hH, hk8, hlt, hk8', k⟩ := h
    have hksl := ha2.length
    refine ⟨_, (pss_cons (ps_asg (pe_tup (pa_cons (pe_callTy call_list_of (by rfl) T.b_list bt_list (pa_cons (pv 1) pa_nil)) (pa_cons (pe_op op_rep (pe_lst (pa_cons pe_int pa_nil)) (pe_callB call_len_seq (by rfl) T.b_len bt_len (pa_cons (pv 0) pa_nil))) pa_nil))) (pg_tupK (K := K) (n := 2) rfl rfl (pgs_cons (pg_name (i := 3) sc__law_played.nd rfl (Or.inr rfl)) (pgs_cons (pg_name (i := 4) sc__law_played.nd rfl (Or.inl rfl)) pgs_nil))))
    (pss_cons (ps_for PassesOwn.never rfl (pi_list (pv 2)) (pg_name (i := 5) sc__law_played.nd rfl (Or.inl rfl)) (pss_cons (ps_if (PW.pt (pw_or (pt_not (pt_val (pe_callB call_isi (by rfl) T.b_isinstance bt_isinstance (pa_cons (pv 5) (pa_cons (pe_bltn (v := .ty "tuple") (by rfl) T.b_tuple bt_tuple rfl) pa_nil))))) (pw_or (pt_cmpR op_ne (pe_callB call_len_seq (by rfl) T.b_len bt_len (pa_cons (pv 5) pa_nil)) pe_int (nomark _)) (pw_or (pt_cmpR op_ne (pe_ix ix_tup (pv 5) pe_int (fun _ _ => rfl)) pe_str (nomark _)) (pw_or1 (pt_not (pt_chain op_le op_lt pe_int (pe_ix ix_tup (pv 5) pe_int (fun _ _ => rfl)) (pe_callB call_len_seq (by rfl) T.b_len bt_len (pa_cons (pv 0) pa_nil))))))))) (pss_one (ps_ret (pe_tup (pa_cons pe_non (pa_cons (pv 4) pa_nil))))) pss_nil)
    (pss_cons (ps_par (i := 6) (j := 7) rfl sc__law_played.nd rfl rfl (by decide) rfl rfl (pa_cons (pe_ix ix_list (pv 0) (pe_ix ix_tup (pv 5) pe_int (fun _ _ => rfl)) (fun _ _ => rfl)) (pa_cons (pe_ix ix_tup (pv 5) pe_int (fun _ _ => rfl)) pa_nil)) (by rfl))
    (pss_cons (ps_if (PW.pt (pw_or (pt_cmpR op_notIn_seq (pv 7) (pv 6) (by rfl)) (pw_or1 (pt_cmpR op_ne (pe_ix ix_list (pv 3) (pv 7) (fun _ _ => rfl)) (pe_callB (cr_min rfl) (by rfl) T.b_min bt_min (pa_cons (pe_lc (own := [("_law_one", 8)]) rfl sc__law_played.nd (pi_list (pv 6)) (blkOk_by (own := [("_law_one", 8)]) (N := ["_law_kinds_here", "_law_board", "_law_history", "_law_here", "_law_used", "_law_deed", "_law_kind", "_law_shelf", "_law_one"]) (sc := defScope s__law_played) (by decide +kernel)) (fun _ _ _ _ _ => (pg_name (i := 8) sc__law_played.nd rfl (Or.inl rfl))) (fun _ _ _ _ _ => pts_nil) (fun _ _ _ _ _ => (pe_ix (ix_listK (K := K) rfl) (pv 3) (pv 8) (fun _ _ => rfl)))) pa_nil)) (nomark _))))) (pss_one (ps_ret (pe_tup (pa_cons pe_non (pa_cons (pv 4) pa_nil))))) pss_nil)
    (pss_cons (ps_asg (pe_op op_add (pe_ix ix_list (pv 3) (pv 7) (fun _ _ => rfl)) pe_int) (pg_sub (pv 3) (pv 7) set_list))
    (pss_one (ps_asg (pe_op op_add (pe_ix ix_list (pv 4) (pe_ix ix_tup (pv 5) pe_int (fun _ _ => rfl)) (fun _ _ => rfl)) pe_int) (pg_sub (pv 4) (pe_ix ix_tup (pv 5) pe_int (fun _ _ => rfl)) set_list))))))))
    (pss_one (ps_ret (pe_tup (pa_cons (pv 3) (pa_cons (pv 4) pa_nil))))))), ?_⟩
    refine ⟨_, rfl, b, nl bs, rfl, .inl (SqL.of hb), fun h hh => ⟨by show 1 ≤ sizeLine; decide, fun z hz => ?_⟩⟩
    have z1 : Same H (upd H h (.lst (nl bs))) := same_upd hh
    have hh0 : H h = none := hh
    have z2 : Same H (upd (upd H h (.lst (nl bs))) z (.lst [vn 0])) := z1.trans (same_upd hz)
    refine ⟨_, rfl, a, _, rfl, .inl (SqL.of (z2 _ _ ha1)), z, _, [vn 0], rfl, rfl, upd_same, by omega, (by rw [List.length_map]; omega), ?_, fun u hu => ?_⟩
    · rw [List.length_map, Int.toNat_natCast]
      show 1 * _ ≤ sizeLine
      exact Nat.le_trans (show _ ≤ 63 by omega) (by decide)
    rw [rep_flat, List.length_map, hksl]
    have z3 := z2.trans (same_upd (o := .lst (nl (List.replicate kinds.length 0))) hu)
    have hh3 : IsN (upd (upd (upd H h (.lst (nl bs))) z (.lst [vn 0])) u (.lst (nl (List.replicate kinds.length 0)))) h bs := same_upd hu _ _ (same_upd hz _ _ upd_same)
    have hu3 : IsN (upd (upd (upd H h (.lst (nl bs))) z (.lst [vn 0])) u (.lst (nl (List.replicate kinds.length 0)))) u (List.replicate kinds.length 0) := upd_same
    have nhu : h ≠ u := fun e => by
      have h1 := same_upd (o := .lst [vn 0]) hz h (.lst (nl bs)) upd_same
      rw [← e] at hu
      exact nomatch (h1.symm.trans hu)
    have hu0 : H u = none := z2.free hu
    generalize upd (upd (upd H h (.lst (nl bs))) z (.lst [vn 0])) u (.lst (nl (List.replicate kinds.length 0))) = H3 at z3 hh3 hu3 ⊢
    refine ⟨by show 2 ≤ sizeLine; decide, fun tp htp => ⟨tp, _, rfl, SqT.of upd_same, rfl, _, _, rfl, _, _, rfl, rfl, ?_⟩⟩
    have z4 := z3.trans (same_upd (o := .tup [.ref h, .ref u]) htp)
    refine ⟨_, rfl, v, rfl, ⟨_, SqL.of (z4 _ _ hv1)⟩, ?_⟩
    refine for_it walk_list (fun i σ H' => ∃ (x5 x6 x7 : Option V) (here : List Nat), σ = [some (.ref a), some (.ref b), some (.ref v), some (.ref h), some (.ref u), x5, x6, x7, none] ∧ Same H H' ∧ IsN H' h here ∧ IsN H' u (TA.usedOf kinds.length (way.take i)) ∧ TA.Hist kinds here (way.drop i) ws ∧ here.length = bs.length)
      ⟨none, none, none, bs, rfl, z4, mN.m (same_upd htp) hh3, mN.m (same_upd htp) hu3, hH, rfl⟩ (fun i σ H' _ ⟨_, _, _, _, _, s4, _⟩ => SqL.of (s4 _ _ hv1)) ?_ ?_
    · rintro i x σ H4 H5 hi ⟨x5, x6, x7, here, rfl, s4, hh4, hu4, hHi, hhl⟩ ⟨rfl, hx⟩
      obtain ⟨q, hq, rfl⟩ := refs_at hx
      obtain ⟨e, he, hqe⟩ := paired_at' hv2 hq
      have hq5 : H5 q = some (.tup [.str "put", vn e.1, vn e.2]) := s4 _ _ hqe
      obtain ⟨Lg, hHn⟩ := hist_take he hHi
      have hkp : kinds[e.1]? = some (TA.gk kinds e.1) := TA.some_getD [] Lg.hp
      obtain ⟨kd, hkd, hkk⟩ := paired_at ha2 hkp
      have hkm := TA.getD_mem [] Lg.hp
      have hsl : e.2 < here.length := by rw [hhl]; exact hlt _ hkm _ Lg.hs
      have hul : (TA.usedOf kinds.length (way.take i)).length = kinds.length := by
        unfold TA.usedOf
        rw [TA.usedFrom_length, List.length_replicate]
      refine ⟨_, rfl, _, _, _, _, true, rfl, .ty _, .base (.tup hq5), kit_ty (by decide +kernel), true, rfl, ?_⟩
      refine iteF ⟨_, rfl, q, _, rfl, .inr (SqT.of hq5), rfl, false, nbl (decide_eq_true rfl), ?_⟩
      refine iteF ⟨_, rfl, q, _, _, _, rfl, rfl, SqT.of hq5, rfl, rfl, false, nbl (decide_eq_true rfl), ?_⟩
      refine iteF ⟨_, rfl, q, _, _, _, rfl, rfl, SqT.of hq5, (atI_nat (xs := [V.str "put", vn e.1, vn e.2]) (j := 1) rfl), _, _, rfl, rfl, true, b_bl (decide_eq_true (by omega)), iteT ⟨_, rfl, a, _, rfl, .inl (SqL.of (s4 _ _ ha1)), ?_⟩⟩
      refine ⟨_, _, rfl, rfl, true, b_bl (decide_eq_true (by rw [List.length_map, hksl]; have := Lg.hp; omega)), iteF ?_⟩
      refine ⟨_, rfl, _, rfl, q, _, _, _, rfl, rfl, SqT.of hq5, (atI_nat (xs := [V.str "put", vn e.1, vn e.2]) (j := 1) rfl), a, _, _, _, rfl, rfl, SqL.of (s4 _ _ ha1), atI_nat (refs_get hkd), _, rfl, q, _, _, _, rfl, rfl, SqT.of hq5, (atI_nat (xs := [V.str "put", vn e.1, vn e.2]) (j := 2) rfl), _, _, rfl, ?_⟩
      have hin : inV (vn e.2) (nl (TA.gk kinds e.1)) = true := by
        unfold inV
        rw [List.any_eq_true]
        obtain ⟨j, hj⟩ := List.getElem?_of_mem Lg.hs
        exact ⟨vn e.2, List.mem_of_getElem? (nl_get hj), by show ((e.2 : Int) == (e.2 : Int)) = true; simp⟩
      refine ⟨_, rfl, _, rfl, kd, _, rfl, .inl (SqL.of (s4 _ _ hkk)), rfl, nl_flat _, false, by rw [hin]; rfl, iteF ?_⟩
      refine ⟨_, rfl, _, rfl, h, nl here, _, _, rfl, rfl, SqL.of hh4, at_nl hsl, _, rfl, kd, rfl, ⟨_, SqL.of (s4 _ _ hkk)⟩, fun D2 hD2 => ?_⟩
      have hkl : (TA.gk kinds e.1).length ≤ 8 := hk8' _ hkm
      have hlk := hlt _ hkm
      have Lgs := Lg.hs
      have Lga := Lg.at_
      rw [show kinds.getD e.1 [] = TA.gk kinds e.1 from rfl] at hlk
      generalize TA.gk kinds e.1 = kind at hkk hkl hlk Lgs Lga
      have L2 : Lc H5 D2 (nl kind).length (fun i => (kind.take i).map (TA.g here)) (fun y b _ => y = vn b) := ⟨hD2, rfl, (fun i => by rw [List.length_map, List.length_take]; exact Nat.min_le_left _ _), by rw [nl_length]; exact small64 (by omega), fun _ _ _ _ h _ => h⟩
      refine lc_gen L2 walk_list (fun H2 s2 => SqL.of (s2 _ _ (s4 _ _ hkk))) (fun i x H8 H9 hi pi hx => ?_) (fun H6 ys s6 hd2 hp2 => ?_)
      · obtain ⟨rfl, hx'⟩ := hx
        obtain ⟨m, hm, rfl⟩ := nl_of hx'
        refine ⟨rfl, ?_⟩
        exact ⟨_, rfl, _, rfl, h, nl here, _, _, rfl, rfl, SqL.of (pi.same _ _ hh4), at_nl (by rw [hhl]; exact hlk m (List.mem_of_getElem? hm)), L2.put hi pi (Same.refl _) (take_snoc hm) rfl⟩
      rw [paired_vn hp2, nl_length, List.take_length] at hd2
      refine ⟨D2, zi (kind.map (TA.g here)), rfl, SqL.of hd2, (by rw [zi_length, List.length_map]; exact List.length_pos_of_mem Lgs), fun l' hl' hmin => ?_⟩
      obtain ⟨l, hl, rfl⟩ := zi_mem hl'
      obtain rfl : l = TA.minOn here kind := TA.mn_eq hl fun y hy => by
        have := hmin (y : Int) (mem_zi.mpr hy)
        omega
      refine ⟨rfl, false, nbl (decide_eq_true (vn_inj Lga)), iteF ?_⟩
      have s06 := s4.trans s6
      have hh6 := s6 _ _ hh4
      have hu6 := s6 _ _ hu4
      refine ⟨_, rfl, _, rfl, h, nl here, _, _, rfl, rfl, SqL.of hh6, at_nl hsl, _, _, rfl, rfl, _, rfl, _, rfl, h, nl here, _, e.2, rfl, rfl, hh6, ixN_nat (by rw [nl_length]; exact hsl), ?_⟩
      have eb : (nl here).set e.2 (V.int ((TA.g here e.2 : Int) + 1)) = nl (TA.bump here e.2) := nl_set here e.2 (TA.g here e.2 + 1)
      rw [eb]
      have hq7 : upd H6 h (.lst (nl (TA.bump here e.2))) q = some (.tup [.str "put", vn e.1, vn e.2]) := by
        have hq6 := s6 _ _ hq5
        rw [upd_ne (fun z => by rw [z, hh6] at hq6; cases hq6)]; exact hq6
      have hu7 : IsN (upd H6 h (.lst (nl (TA.bump here e.2)))) u (TA.usedOf kinds.length (way.take i)) := (upd_ne (Ne.symm nhu)).trans hu6
      have hel : e.1 < (TA.usedOf kinds.length (way.take i)).length := by rw [hul]; exact Lg.hp
      have s07 : Same H (upd H6 h (.lst (nl (TA.bump here e.2)))) := same_mut s06 hh0
      have hh7 : IsN (upd H6 h (.lst (nl (TA.bump here e.2)))) h (TA.bump here e.2) := upd_same
      generalize upd H6 h (.lst (nl (TA.bump here e.2))) = H7 at hq7 hu7 s07 hh7 ⊢
      refine ⟨_, rfl, _, rfl, q, _, _, _, rfl, rfl, SqT.of hq7, (atI_nat (xs := [V.str "put", vn e.1, vn e.2]) (j := 1) rfl), u, _, _, _, rfl, rfl, SqL.of hu7, at_nl hel, _, _, rfl, rfl, _, rfl, _, rfl, q, _, _, _, rfl, rfl, SqT.of hq7, (atI_nat (xs := [V.str "put", vn e.1, vn e.2]) (j := 1) rfl), u, _, _, e.1, rfl, rfl, hu7, ixN_nat (by rw [nl_length]; exact hel), ?_⟩
      have eu : (nl (TA.usedOf kinds.length (way.take i))).set e.1 (V.int ((TA.g (TA.usedOf kinds.length (way.take i)) e.1 : Int) + 1)) = nl (TA.usedOf kinds.length (way.take (i + 1))) := by
        rw [take_snoc' he]
        unfold TA.usedOf
        rw [TA.usedFrom_snoc]
        exact nl_set _ e.1 (TA.g _ e.1 + 1)
      rw [eu]
      exact ⟨_, _, _, TA.bump here e.2, rfl, same_mut s07 hu0, (upd_ne nhu).trans hh7, upd_same, hHn, by rw [TA.bump_length]; exact hhl⟩
    · rintro σ H4 ⟨x5, x6, x7, here, rfl, s4, hh4, hu4, hHi, hhl⟩
      rw [List.length_map, hv2.length] at hHi hu4
      rw [List.drop_length] at hHi
      rw [List.take_length] at hu4
      obtain rfl : here = ws := hHi
      refine ⟨_, rfl, _, rfl, by show 2 ≤ sizeLine; decide, fun r hr => ?_⟩
      exact k _ r h u (s4.trans (same_upd hr)) upd_same (mN.m (same_upd hr) hh4) (mN.m (same_upd hr) hu4)
end
end Tw
namespace Tw
open PySem PySem.Spec PyProof.Rows L2 TR
open TA (Plc zi Tk look put Stg)
theorem paired_take {α β : Type} {F : α → β → Prop} : ∀ {as : List α} {bs : List β}, Paired F as bs → ∀ i, Paired F (as.take i) (bs.take i)
  | _, _, .nil, i => by rw [List.take_nil, List.take_nil]; exact .nil
  | _, _, .cons r t, 0 => .nil
  | _, _, .cons r t, i + 1 => .cons r (paired_take t i)
theorem able'_nodup {b w kind : List Nat} : ∀ {l : List Nat}, l.Nodup → (l.flatMap (abAt' b w kind)).Nodup
  | [], _ => .nil
  | s :: l, h => by
    rw [List.nodup_cons] at h
    rw [List.flatMap_cons]
    refine List.nodup_append.mpr ⟨?_, able'_nodup h.2, fun x hx y hy e => ?_⟩
    · unfold abAt'
      refine List.pairwise_map.mpr (List.Pairwise.imp (fun {x y} hne e => hne ?_) ((List.nodup_range' (s := TA.g b s) (n := TA.g w s - TA.g b s) (step := 1)).filter _))
      exact (Prod.mk.inj e).2
    · unfold abAt' at hx
      obtain ⟨l1, _, e1⟩ := List.mem_map.mp hx
      obtain ⟨s2, hs2, h2⟩ := List.mem_flatMap.mp hy
      unfold abAt' at h2
      obtain ⟨l2, _, e2⟩ := List.mem_map.mp h2
      rw [← e1, ← e2] at e
      exact h.1 (by rw [(Prod.mk.inj e).1]; exact hs2)
/-- what the law hands its own checks -/
structure LArgs (H : Hp) (a b c v : Addr) (n : Nat) (kinds : List (List Nat)) (bs cs ws : List Nat) : Prop where
  a : IsRows H a kinds
  b : IsN H b bs
  c : IsN H c cs
  v : IsN H v ws
  F : TA.Fit n kinds bs cs ws
section
variable {P : Program} {w : World} {K : PySem.W.Frag} {mg : Str → Option Value} {base : Heap}
theorem sc__law_is_dealing : FnScope ["_law_kinds_here", "_law_board", "_law_counts", "_law_wished", "_law_value", "_law_dealt", "_law_position", "_law_many", "_law_able", "_law_at", "_law_place"] ["_law_kinds_here", "_law_board", "_law_counts", "_law_wished", "_law_value"] (defScope s__law_is_dealing) := ⟨rfl, rfl, rfl, by decide +kernel, rfl, by decide +kernel, by decide +kernel⟩
def sp__law_is_dealing : Sp := fun vs H Q _ => ∃ (a b c v d : Addr) (n : Nat) (kinds : List (List Nat)) (bs cs ws : List Nat) (D : List (List Plc)), vs = [.ref a, .ref b, .ref c, .ref v, .ref d] ∧ LArgs H a b c v n kinds bs cs ws ∧ IsPls H d D ∧ TA.IsDeal kinds bs cs ws D ∧ ∀ H', Same H H' → Q (.bl true) H'
theorem ok__law_is_dealing (T : Txt K mg) : FnOk P w K mg base CX0 2 T.d__law_is_dealing.f T.d__law_is_dealing.fd ["_law_kinds_here", "_law_board", "_law_counts", "_law_wished", "_law_value"] sp__law_is_dealing := by
  refine T.d__law_is_dealing.F.ok sc__law_is_dealing (fun vs H Q E h => ?_) (fun cdv A outer s H vs Q E hr h => ?_)
  · obtain ⟨a, b, c, v, d, n, kinds, bs, cs, ws, D, rfl, _⟩ := h
    rfl
  · obtain ⟨a, b, c, v, d, n, kinds, bs, cs, ws, D, rfl, Ar, hd, hD, k⟩ := h
    have F := Ar.F
    have hDf := TA.deal_lengths hD
    have hcs := F.csum
    have hck := F.cl
    obtain ⟨ps, ha1, ha2⟩ := id hd
    have hpl := ha2.length
    refine ⟨_, (pss_cons (ps_set (i := 5) sc__law_is_dealing.nd rfl (Or.inr rfl) (pe_lst pa_nil))
    (pss_cons (ps_if (pt_cmpR op_ne (pe_callB call_len_seq (by rfl) T.b_len bt_len (pa_cons (pv 4) pa_nil)) (pe_callB call_len_seq (by rfl) T.b_len bt_len (pa_cons (pv 2) pa_nil)) (nomark _)) (pss_one (ps_ret pe_bl)) pss_nil)
    (pss_cons (ps_for PassesOwn.never rfl (pi_enumK (kdL _) (by rfl) T.b_enumerate (pa_cons (pv 2) pa_nil)) (pg_tupK (K := K) (n := 2) rfl rfl (pgs_cons (pg_name (i := 6) sc__law_is_dealing.nd rfl (Or.inl rfl)) (pgs_cons (pg_name (i := 7) sc__law_is_dealing.nd rfl (Or.inl rfl)) pgs_nil))) (pss_cons (ps_set (i := 8) sc__law_is_dealing.nd rfl (Or.inr rfl) (pe_call (ok__law_places T) (hr.mono (by decide)) (by rfl) T.d__law_places.m T.d__law_places.F.kp T.d__law_places.b .nil pass0 (pa_cons (pv 0) (pa_cons (pv 1) (pa_cons (pv 3) (pa_cons (pv 6) pa_nil))))))
    (pss_cons (ps_if (PW.pt (pw_or (pt_cmpR op_ne (pe_callB call_len_seq (by rfl) T.b_len bt_len (pa_cons (pe_ix ix_list (pv 4) (pv 6) (fun _ _ => rfl)) pa_nil)) (pv 7) (nomark _)) (pw_or1 (pt_not (pt_val (pe_callB (cr_all rfl) (by rfl) T.b_all bt_all (pa_cons (pe_lc (own := [("_law_place", 10)]) rfl sc__law_is_dealing.nd (pi_list (pe_ix ix_list (pv 4) (pv 6) (fun _ _ => rfl))) (blkOk_by (own := [("_law_place", 10)]) (N := ["_law_kinds_here", "_law_board", "_law_counts", "_law_wished", "_law_value", "_law_dealt", "_law_position", "_law_many", "_law_able", "_law_at", "_law_place"]) (sc := defScope s__law_is_dealing) (by decide +kernel)) (fun _ _ _ _ _ => (pg_name (i := 10) sc__law_is_dealing.nd rfl (Or.inl rfl))) (fun _ _ _ _ _ => pts_nil) (fun _ _ _ _ _ => (pe_and (pe_callB (call_isiK' (K := K) rfl) (by rfl) T.b_isinstance bt_isinstance (pa_cons (pv 10) (pa_cons (pe_bltn (v := .ty "tuple") (by rfl) T.b_tuple bt_tuple rfl) pa_nil))) (pe_one (pe_cmpR (op_inDK (K := K) rfl (hu65 hr)) (pv 10) (pv 8) (by rfl)))))) pa_nil))))))) (pss_one (ps_ret pe_bl)) pss_nil)
    (pss_one (ps_expr (pe_bm PySem.F.plainAttrs_list PySem.F.slot_list_extend PySem.F.type_list_extend mt_extend (pv 5) (pa_cons (pe_ix ix_list (pv 4) (pv 6) (fun _ _ => rfl)) pa_nil)))))))
    (pss_one (ps_ret (pe_cmpR op_eq (pe_callB call_len_seq (by rfl) T.b_len bt_len (pa_cons (pe_lc (own := [("_law_at", 9), ("_law_place", 10)]) rfl sc__law_is_dealing.nd (pi_enumK (kdL _) (by rfl) T.b_enumerate (pa_cons (pv 5) pa_nil)) (blkOk_by (own := [("_law_at", 9), ("_law_place", 10)]) (N := ["_law_kinds_here", "_law_board", "_law_counts", "_law_wished", "_law_value", "_law_dealt", "_law_position", "_law_many", "_law_able", "_law_at", "_law_place"]) (sc := defScope s__law_is_dealing) (by decide +kernel)) (fun _ _ _ _ _ => (pg_tupK (K := K) (n := 2) rfl rfl (pgs_cons (pg_name (i := 9) sc__law_is_dealing.nd rfl (Or.inl rfl) (Or.inr rfl)) (pgs_cons (pg_name (i := 10) sc__law_is_dealing.nd rfl (Or.inl rfl) (Or.inr rfl)) pgs_nil)))) (fun _ _ _ _ _ => (pts_one (pt_cmpR (op_inDK (K := K) rfl (hu65 hr)) (pv 10) (pe_slice (sl_listK (K := K) rfl) (pv 5) po_none (po_some (pv 9))) (by rfl)))) (fun _ _ _ _ _ => (pv 10))) pa_nil)) pe_int (nomark _))))))), ?_⟩
    refine ⟨by show 0 ≤ sizeLine; decide, fun dl hdl => ?_⟩
    have s1 : Same H (upd H dl (.lst [])) := same_upd hdl
    refine ⟨_, rfl, d, _, rfl, .inl (SqL.of (s1 _ _ ha1)), _, rfl, c, nl cs, rfl, .inl (SqL.of (s1 _ _ Ar.c)), rfl, false, nbl (decide_eq_true (v_int (by rw [List.length_map, nl_length, hpl, hD.len]))), iteF ?_⟩
    refine ⟨_, rfl, c, nl cs, rfl, SqL.of (s1 _ _ Ar.c), ?_⟩
    refine for_it (walk_enumK (k := kdL K)) (fun i σ H' => ∃ x6 x7 x8 : Option V, σ = [some (.ref a), some (.ref b), some (.ref c), some (.ref v), some (.ref d), some (.ref dl), x6, x7, x8, none, none] ∧ Same H H' ∧ IsPl H' dl ((D.take i).flatten)) ⟨none, none, none, rfl, s1, [], upd_same, .nil⟩ (fun i σ H' _ ⟨_, _, _, _, s3, _⟩ => SqL.of (s3 _ _ Ar.c)) ?_ ?_
    · rintro i x σ H3 H4 hi ⟨x6, x7, x8, rfl, s3, hd3⟩ ⟨t, u, v', rfl, ht, rfl, hu1, hv1⟩
      obtain ⟨m, hm, rfl⟩ := nl_of hv1
      obtain rfl := Option.some.inj hu1
      rw [nl_length] at hi
      have em : TA.g cs i = m := TA.getD_some 0 hm
      have hm2 := F.c2 m (List.mem_of_getElem? hm)
      refine ⟨t, _, rfl, SqT.of upd_same, rfl, _, _, rfl, _, _, rfl, rfl, ?_⟩
      have s4 := s3.trans (same_upd (o := .tup [vn i, vn m]) ht)
      have hd4 : IsPl (upd H3 t (.tup [vn i, vn m])) dl ((D.take i).flatten) := mPl.m (same_upd ht) hd3
      show tSeq _ _ _ _ (upd H3 t (.tup [vn i, vn m]))
      generalize upd H3 t (.tup [vn i, vn m]) = H4 at s4 hd4 ⊢
      have hDi : D[i]? = some (TA.gp D i) := TA.some_getD [] (by rw [hD.len]; exact hi)
      obtain ⟨q, hq, hqr⟩ := paired_at ha2 hDi
      refine ⟨_, rfl, _, rfl, _, rfl, _, rfl, a, b, v, n, kinds, bs, cs, ws, i, rfl, mRows.m s4 Ar.a, s4 _ _ Ar.b, s4 _ _ Ar.v, F, by omega, fun H5 r s5 _ hr => ?_⟩
      have s05 := s4.trans s5
      obtain ⟨zs, hz1, hz2⟩ := mPl.m s05 hqr
      have hzl := hz2.length
      refine ⟨_, rfl, _, rfl, d, _, _, _, rfl, rfl, SqL.of (s05 _ _ ha1), atI_nat (refs_get hq), q, _, rfl, .inl (SqL.of hz1), _, rfl, rfl, false, nbl (decide_eq_true (v_int (by rw [List.length_map, hzl, hD.many i hi, em]))), iteF ?_⟩
      refine ⟨_, rfl, _, rfl, d, _, _, _, rfl, rfl, SqL.of (s05 _ _ ha1), atI_nat (refs_get hq), q, rfl, ⟨_, SqL.of hz1⟩, fun D2 hD2 => ?_⟩
      have hz6 : zs.length ≤ 60 := by have := hD.many i hi; omega
      have L : Lc H5 D2 (zs.map V.ref).length (fun i => List.replicate i true) (fun y b _ => y = V.bl b) := ⟨hD2, rfl, fun i => by simp, by rw [List.length_map]; exact Nat.le_trans hz6 (by decide), fun _ _ _ _ h _ => h⟩
      refine lc_gen L walk_list (fun H2 s2 => SqL.of (s2 _ _ hz1)) (fun j y H6 H7 hj pj hy => ?_) (fun H6 ys s6 hd6 hp6 => ?_)
      · obtain ⟨rfl, hy'⟩ := hy
        obtain ⟨q0, hq0, rfl⟩ := refs_at hy'
        obtain ⟨qq, hqq, hqi⟩ := paired_at' hz2 hq0
        have hq7 := mQ.m pj.same hqi
        refine ⟨rfl, _, rfl, _, _, _, _, true, rfl, .ty _, .base (.tup hq7), kit_ty (by decide +kernel), true, rfl, ?_⟩
        refine ⟨_, rfl, _, rfl, eQ.f qq, (TA.able' (TA.gk kinds i) bs ws).map eQ.f, dp_q hq7, dp_pl (mPl.m pj.same hr), eQ.shaped (by decide) _, ePl.shaped (by decide) _, L.put hj pj (Same.refl _) (List.replicate_succ' ..) (b_bl (eQ.anyT ?_))⟩
        exact TA.able_iff.mpr (hD.each i hi qq (List.mem_of_getElem? hqq))
      · rw [paired_bl hp6] at hd6
        refine ⟨D2, _, rfl, SqL.of hd6, true, b_bl (all_true _), iteF ?_⟩
        have s06 := s05.trans s6
        have hz1' := s6 _ _ hz1
        have hz2' := paired_mono (fun _ _ h => mQ.m s6 h) hz2
        obtain ⟨ys', hy1, hy2⟩ := mPl.m (s5.trans s6) hd4
        refine ⟨_, rfl, .inl ⟨rfl, _, SqL.of hy1⟩, _, rfl, _, rfl, d, _, _, _, rfl, rfl, SqL.of (s06 _ _ ha1), atI_nat (refs_get hq), dl, q, _, _, rfl, rfl, hy1, hz1', ?_, ?_⟩
        · have l1 := hy2.length
          have l3 := flat_len (D := D) (i := i + 1)
          rw [flat_take hDi, List.length_append] at l3
          rw [List.length_map, List.length_map]
          exact Nat.le_trans (show _ ≤ 63 by omega) (by decide)
        · refine ⟨_, _, _, rfl, same_mut s06 hdl, ?_⟩
          rw [flat_take hDi]
          exact pl_ext hy1 hy2 hz2'
    · rintro σ H3 ⟨x6, x7, x8, rfl, s3, hd3⟩
      rw [nl_length, List.take_of_length_le (by rw [hD.len]; exact Nat.le_refl _)] at hd3
      obtain ⟨ys', hy1, hy2⟩ := id hd3
      have hyl := hy2.length
      refine ⟨_, rfl, dl, _, rfl, SqL.of hy1, fun D2 hD2 => ?_⟩
      have L : Lc H3 D2 (ys'.map V.ref).length (fun i => ([] : List Bool)) (fun y b _ => y = V.bl b) := ⟨hD2, rfl, fun i => Nat.zero_le _, by rw [List.length_map]; exact small64 (by omega), fun _ _ _ _ h _ => h⟩
      refine lc_gen L (walk_enumK (k := kdL K)) (fun H2 s2 => SqL.of (s2 _ _ hy1)) (fun j y H6 H7 hj pj hy => ?_) (fun H6 ys s6 hd6 hp6 => ?_)
      · obtain ⟨t, u, v', rfl, ht, rfl, hu1, hv1⟩ := hy
        obtain rfl := Option.some.inj hu1
        obtain ⟨q0, hq0, rfl⟩ := refs_at hv1
        obtain ⟨qq, hqq, hqi⟩ := paired_at' hy2 hq0
        refine ⟨t, _, rfl, SqT.of upd_same, rfl, _, _, rfl, _, _, rfl, rfl, rfl, ?_⟩
        have s7 := pj.same.trans (same_upd (o := .tup [vn j, .ref q0]) ht)
        refine ⟨_, rfl, _, rfl, _, rfl, _, rfl, dl, _, rfl, SqL.of (s7 _ _ hy1), fun p1 hp1 => ?_⟩
        have s8 := s7.trans (same_upd (o := .lst (cutV (ys'.map V.ref) none (some (j : Int)))) hp1)
        have hnin : qq ∉ D.flatten.take j := fun h => by
          have e := list_split hqq
          have hnd := hD.nd
          rw [e] at hnd
          exact (List.nodup_append.mp hnd).2.2 qq h qq List.mem_cons_self rfl
        refine ⟨eQ.f qq, (D.flatten.take j).map eQ.f, dp_q (mQ.m s8 hqi), dp_pl ⟨ys'.take j, ?_, paired_mono (fun _ _ h => mQ.m s8 h) (paired_take hy2 j)⟩, eQ.shaped (by decide) _, ePl.shaped (by decide) _, _, rfl, ?_⟩
        · rw [upd_same, cut_lo, List.map_take]
        · exact iteBF (eQ.anyF hnin) (L.skip pj ((same_upd ht).trans (same_upd hp1)) rfl)
      · cases hp6
        exact ⟨D2, _, rfl, .inl (SqL.of hd6), rfl, q_bl (Q := Q) (decide_eq_true rfl) (k _ (s3.trans s6))⟩
end
end Tw
namespace Tw
open PySem PySem.Spec PyProof.Rows L2 TR
open TA (Plc zi Tk look put Stg)
section
variable {P : Program} {w : World} {K : PySem.W.Frag} {mg : Str → Option Value} {base : Heap}
theorem sc__law_is_crowd : FnScope ["_law_kinds_here", "_law_board", "_law_counts", "_law_wished", "_law_lot", "_law_able", "_law_total", "_law_position", "_law_place"] ["_law_kinds_here", "_law_board", "_law_counts", "_law_wished", "_law_lot"] (defScope s__law_is_crowd) := ⟨rfl, rfl, rfl, by decide +kernel, rfl, by decide +kernel, by decide +kernel⟩
def sp__law_is_crowd : Sp := fun vs H Q _ => ∃ (a b c v l : Addr) (n : Nat) (kinds : List (List Nat)) (bs cs ws lot : List Nat), vs = [.ref a, .ref b, .ref c, .ref v, .ref l] ∧ LArgs H a b c v n kinds bs cs ws ∧ IsN H l lot ∧ TA.IsCrowd kinds bs cs ws lot ∧ ∀ H', Same H H' → Q (.bl true) H'
theorem ok__law_is_crowd (T : Txt K mg) : FnOk P w K mg base CX0 2 T.d__law_is_crowd.f T.d__law_is_crowd.fd ["_law_kinds_here", "_law_board", "_law_counts", "_law_wished", "_law_lot"] sp__law_is_crowd := by
  refine T.d__law_is_crowd.F.ok sc__law_is_crowd (fun vs H Q E h => ?_) (fun cdv A outer s H vs Q E hr h => ?_)
  · obtain ⟨a, b, c, v, l, n, kinds, bs, cs, ws, lot, rfl, _⟩ := h
    rfl
  · obtain ⟨a, b, c, v, l, n, kinds, bs, cs, ws, lot, rfl, Ar, hl, hL, k⟩ := h
    have F := Ar.F
    have hck := F.cl
    have hcs := F.csum
    have h3 := lot_small F hL
    have hlk : ∀ p ∈ lot, p < kinds.length := fun p hp => by rw [← hck]; exact hL.lt p hp
    refine ⟨_, (pss_cons (ps_asg (pe_tup (pa_cons (pe_lst pa_nil) (pa_cons pe_int pa_nil))) (pg_tupK (K := K) (n := 2) rfl rfl (pgs_cons (pg_name (i := 5) sc__law_is_crowd.nd rfl (Or.inr rfl)) (pgs_cons (pg_name (i := 6) sc__law_is_crowd.nd rfl (Or.inl rfl)) pgs_nil))))
    (pss_cons (ps_for PassesOwn.never rfl (pi_list (pv 4)) (pg_name (i := 7) sc__law_is_crowd.nd rfl (Or.inl rfl)) (pss_cons (ps_set (i := 6) sc__law_is_crowd.nd rfl (Or.inl rfl) (pe_op op_add (pv 6) (pe_ix ix_list (pv 2) (pv 7) (fun _ _ => rfl))))
    (pss_one (ps_expr (pe_bm PySem.F.plainAttrs_list PySem.F.slot_list_extend PySem.F.type_list_extend mt_extend (pv 5) (pa_cons (pe_lc (own := [("_law_place", 8)]) rfl sc__law_is_crowd.nd (pi_list (pe_call (ok__law_places T) (hr.mono (by decide)) (by rfl) T.d__law_places.m T.d__law_places.F.kp T.d__law_places.b .nil pass0 (pa_cons (pv 0) (pa_cons (pv 1) (pa_cons (pv 3) (pa_cons (pv 7) pa_nil)))))) (blkOk_by (own := [("_law_place", 8)]) (N := ["_law_kinds_here", "_law_board", "_law_counts", "_law_wished", "_law_lot", "_law_able", "_law_total", "_law_position", "_law_place"]) (sc := defScope s__law_is_crowd) (by decide +kernel)) (fun _ _ _ _ _ => (pg_name (i := 8) sc__law_is_crowd.nd rfl (Or.inl rfl))) (fun _ _ _ _ _ => (pts_one (pt_cmpR (op_notInDK (K := K) rfl (hu65 hr)) (pv 8) (pv 5) (by rfl)))) (fun _ _ _ _ _ => (pv 8))) pa_nil))))))
    (pss_one (ps_ret (pe_cmpR op_gt (pv 6) (pe_callB call_len_seq (by rfl) T.b_len bt_len (pa_cons (pv 5) pa_nil)) (nomark _)))))), ?_⟩
    refine ⟨by show 0 ≤ sizeLine; decide, fun f hf => ⟨by show 2 ≤ sizeLine; decide, fun tp htp => ⟨tp, _, rfl, SqT.of upd_same, rfl, _, _, rfl, _, _, rfl, rfl, ?_⟩⟩⟩
    have s1 : Same H (upd H f (.lst [])) := same_upd hf
    have s2 := s1.trans (same_upd (o := .tup [.ref f, V.int 0]) htp)
    have hf2 : IsPl (upd (upd H f (.lst [])) tp (.tup [.ref f, V.int 0])) f [] := ⟨[], same_upd htp _ _ upd_same, .nil⟩
    refine ⟨_, rfl, l, rfl, ⟨_, SqL.of (s2 _ _ hl)⟩, ?_⟩
    refine for_it walk_list (fun i σ H' => ∃ (x7 : Option V) (U : List Plc), σ = [some (.ref a), some (.ref b), some (.ref c), some (.ref v), some (.ref l), some (.ref f), some (vn ((lot.take i).map (TA.g cs)).sum), x7, none] ∧ Same H H' ∧ IsPl H' f U ∧ U.Nodup ∧ ∀ q ∈ U, ∃ p ∈ lot, q ∈ TA.able (TA.gk kinds p) bs ws)
      ⟨none, [], rfl, s2, hf2, .nil, fun _ h => by simp at h⟩ (fun i σ H' _ ⟨_, _, _, s3, _⟩ => SqL.of (s3 _ _ hl)) ?_ ?_
    · rintro i x σ H3 H4 hi ⟨x7, U, rfl, s3, hU, hUn, hUm⟩ ⟨rfl, hx⟩
      obtain ⟨m, hm, rfl⟩ := nl_of hx
      have hml := List.mem_of_getElem? hm
      have hmk := hlk m hml
      have hUl : U.length ≤ 18 := by
        have h1 := hUn.length_le_of_subset (l₂ := lot.flatMap fun p => TA.able (TA.gk kinds p) bs ws) fun q hq => List.mem_flatMap.mpr (hUm q hq)
        have h2 := flat_able F hlk
        omega
      refine ⟨_, rfl, _, rfl, _, rfl, c, nl cs, _, _, rfl, rfl, SqL.of (s3 _ _ Ar.c), at_nl (hL.lt m hml), _, _, rfl, rfl, ?_⟩
      obtain ⟨us, hu1, hu2⟩ := id hU
      refine ⟨_, rfl, .inl ⟨rfl, _, SqL.of hu1⟩, ?_⟩
      refine ⟨_, rfl, _, rfl, _, rfl, _, rfl, a, b, v, n, kinds, bs, cs, ws, m, rfl, mRows.m s3 Ar.a, s3 _ _ Ar.b, s3 _ _ Ar.v, F, hmk, fun H5 r s5 _ hr => ?_⟩
      obtain ⟨rs, hr1, hr2⟩ := id hr
      have hrl := hr2.length
      have hkm := TA.getD_mem [] hmk
      have hAl : (TA.able' (TA.gk kinds m) bs ws).length ≤ 56 := by
        have h1 := able'_small (b := bs) (kind := TA.gk kinds m) F.wle (TA.gk kinds m)
        have h2 : (TA.gk kinds m).length ≤ 4 := Nat.le_trans (TA.kind_length (F.inc _ hkm) (F.lt _ hkm)) F.n4
        have h3 := Nat.mul_le_mul_right 14 h2
        exact Nat.le_trans h1 h3
      have hAn : (TA.able' (TA.gk kinds m) bs ws).Nodup := able'_nodup ((F.inc _ hkm).imp fun h => Nat.ne_of_lt h)
      have hAm : ∀ q ∈ TA.able' (TA.gk kinds m) bs ws, q ∈ TA.able (TA.gk kinds m) bs ws := fun q h => TA.able_iff.mp h
      generalize TA.able' (TA.gk kinds m) bs ws = A at hr hr2 hrl hAl hAn hAm
      refine ⟨r, rfl, ⟨_, SqL.of hr1⟩, fun D hD => ?_⟩
      have L : Lc H5 D (rs.map V.ref).length (fun i => (A.take i).filter fun q => !decide (q ∈ U)) (RefTo IsQ D) :=
        Lc.refs mQ hD rfl (fun i => Nat.le_trans (List.length_filter_le _ _) (by rw [List.length_take]; exact Nat.min_le_left _ _)) (by rw [List.length_map, hrl]; exact Nat.le_trans hAl (by decide))
      refine lc_gen L walk_list (fun H2 s2 => SqL.of (s2 _ _ hr1)) (fun j y H6 H7 hj pj hy => ?_) (fun H6 ys s6 hd6 hp6 => ?_)
      · obtain ⟨rfl, hy'⟩ := hy
        obtain ⟨q0, hq0, rfl⟩ := refs_at hy'
        obtain ⟨qq, hqq, hqi⟩ := paired_at' hr2 hq0
        have hq7 := mQ.m pj.same hqi
        refine ⟨rfl, _, rfl, _, rfl, eQ.f qq, U.map eQ.f, dp_q hq7, dp_pl (mPl.m (s5.trans pj.same) hU), eQ.shaped (by decide) _, ePl.shaped (by decide) _, _, rfl, ?_⟩
        by_cases cin : qq ∈ U
        · refine iteBF (by rw [eQ.anyT cin]; rfl) (L.skip pj (Same.refl _) ?_)
          show (A.take (j + 1)).filter _ = _
          rw [take_snoc' hqq, filter_skip (f := fun q => !decide (q ∈ U)) (by rw [decide_eq_true cin]; rfl)]
        · refine iteB (by rw [eQ.anyF cin]; rfl) ⟨_, rfl, L.put hj pj (Same.refl _) ?_ ⟨q0, rfl, IsQ.cut hq7 ?_⟩⟩
          · show (A.take (j + 1)).filter _ = _
            rw [take_snoc' hqq, filter_put (f := fun q => !decide (q ∈ U)) (by rw [decide_eq_false cin]; rfl)]
          · obtain ⟨acc, hacc, _⟩ := pj.at_
            exact hq7.ne hacc
      · obtain ⟨zs, rfl, hzs⟩ := paired_refs mQ hp6
        rw [List.length_map, hrl, List.take_length] at hzs
        have hu6 := (s5.trans s6) _ _ hu1
        have hzl := hzs.length
        have hul := hu2.length
        refine ⟨f, D, _, _, rfl, rfl, hu6, hd6, ?_, ?_⟩
        · have h5 : (A.filter fun q => !decide (q ∈ U)).length ≤ A.length := List.length_filter_le _ _
          rw [List.length_map, List.length_map]
          exact Nat.le_trans (show _ ≤ 100 by omega) (by decide)
        · refine ⟨some (vn m), U ++ A.filter fun q => !decide (q ∈ U), ?_, same_mut ((s3.trans s5).trans s6) hf, pl_ext hu6 (paired_mono (fun _ _ h => mQ.m (s5.trans s6) h) hu2) hzs, ?_, fun q hq => ?_⟩
          · have eS : ((((lot.take i).map (TA.g cs)).sum : Nat) : Int) + (TA.g cs m : Int) = ((((lot.take (i + 1)).map (TA.g cs)).sum : Nat) : Int) := by
              rw [take_snoc hm, List.sum_append]; simp
            exact congrArg (fun z => [some (V.ref a), some (.ref b), some (.ref c), some (.ref v), some (.ref l), some (.ref f), some (V.int z), some (vn m), none]) eS
          · refine List.nodup_append.mpr ⟨hUn, hAn.filter _, fun x hx y hy e => ?_⟩
            have := (List.mem_filter.mp hy).2
            rw [← e, decide_eq_true hx] at this
            cases this
          · rcases List.mem_append.mp hq with h | h
            · exact hUm q h
            · exact ⟨m, hml, hAm q (List.mem_filter.mp h).1⟩
    · rintro σ H3 ⟨x7, U, rfl, s3, hU, hUn, hUm⟩
      rw [nl_length, List.take_length]
      obtain ⟨us, hu1, hu2⟩ := id hU
      have := hL.more U hUn hUm
      exact ⟨_, rfl, _, rfl, f, _, rfl, .inl (SqL.of hu1), _, _, rfl, rfl, q_bl (Q := Q) (decide_eq_true (by rw [List.length_map, hu2.length]; omega)) (k _ s3)⟩
end
end Tw
namespace Tw
open PySem PySem.Spec PyProof.Rows L2 TR
open TA (Plc zi Tk look put Stg)
/-! ### a dealing is a way -/
theorem deal_way {n : Nat} {kinds : List (List Nat)} {b c w : List Nat} {D : List (List Plc)} (F : TA.Fit n kinds b c w) (hD : TA.IsDeal kinds b c w D) : ∃ way, TA.Hist kinds b way w ∧ TA.usedOf kinds.length way = c := by
  have go : ∀ (m : Nat) (here : List Nat) (way : List (Nat × Nat)), w.sum - here.sum ≤ m → TA.WayInv kinds b c w D here way → ∃ way', TA.WayInv kinds b c w D w way' := by
    intro m
    induction m with
    | zero =>
      intro here way hm I
      by_cases e : here = w
      · subst e; exact ⟨way, I⟩
      · exfalso
        have hne := TA.left_ne I.len I.le e
        obtain ⟨s, hs⟩ := List.exists_mem_of_ne_nil _ hne
        obtain ⟨s1, s2⟩ := TA.mem_leftOf.mp hs
        have h1 := sum_le_of (here := TA.bump here s) (w := w) (by rw [TA.bump_length]; exact I.len) fun t => by
          rw [TA.g_bump s1]
          by_cases et : t = s
          · rw [if_pos et, et]; omega
          · rw [if_neg et]; exact I.le t
        rw [TA.sum_bump s1] at h1
        omega
    | succ m ih =>
      intro here way hm I
      by_cases e : here = w
      · subst e; exact ⟨way, I⟩
      · have hne := TA.left_ne I.len I.le e
        have hmm := TA.mn_mem (l := (TA.leftOf here w).map (TA.g here)) (by simpa using hne)
        obtain ⟨s, hs, hv⟩ := List.mem_map.mp hmm
        obtain ⟨s1, s2⟩ := TA.mem_leftOf.mp hs
        have hb := I.hist.le F.lt F.bl
        obtain ⟨p, hp, hq⟩ := TA.deal_covers F hD (s := s) (l := TA.g here s) (by rw [I.len, F.wl] at s1; exact s1) (hb.1 s) s2
        have I' := TA.way_step F hD I hs rfl (fun x hx => by rw [hv]; exact TA.mn_le (List.mem_map.mpr ⟨x, hx, rfl⟩)) hp hq
        refine ih _ _ ?_ I'
        rw [TA.sum_bump s1]
        omega
  obtain ⟨way, I⟩ := go _ b [] (Nat.le_refl _) (TA.way_start F hD)
  exact ⟨way, TA.way_end F hD I⟩
section
variable {P : Program} {w : World} {K : PySem.W.Frag} {mg : Str → Option Value} {base : Heap}
theorem sc__law_one_right : FnScope ["_law_store_here", "_law_kinds_here", "_law_board", "_law_counts", "_law_wished", "_law_due", "_law_dealt", "_law_lot", "_law_way"] ["_law_store_here", "_law_kinds_here", "_law_board", "_law_counts", "_law_wished", "_law_due"] (defScope s__law_one_right) := ⟨rfl, rfl, rfl, by decide +kernel, rfl, by decide +kernel, by decide +kernel⟩
def sp__law_one_right (C : Addr) : Sp := fun vs H Q _ => ∃ (st a b c v : Addr) (n : Nat) (kinds : List (List Nat)) (bs cs ws : List Nat) (due : Bool), vs = [.ref st, .ref a, .ref b, .ref c, .ref v, .bl due] ∧ IsStore C n H st kinds ∧ LArgs H a b c v n kinds bs cs ws ∧ (due = true ↔ ws ∈ TA.endsOf kinds bs cs) ∧ ∀ H', Same H H' → Q (.bl true) H'
theorem LArgs.mono {H H' : Hp} {a b c v : Addr} {n : Nat} {kinds : List (List Nat)} {bs cs ws : List Nat} (A : LArgs H a b c v n kinds bs cs ws) (s : Same H H') : LArgs H' a b c v n kinds bs cs ws :=
  ⟨mRows.m s A.a, mN.m s A.b, mN.m s A.c, mN.m s A.v, A.F⟩
theorem ok__law_one_right (T : Txt K mg) : FnG P w K mg base 8 T.d__law_one_right.f T.d__law_one_right.fd ["_law_store_here", "_law_kinds_here", "_law_board", "_law_counts", "_law_wished", "_law_due"] (sp__law_one_right T.st.C) := by
  refine okG T.d__law_one_right.F sc__law_one_right (fun vs H Q E h => ?_) (fun cdv A outer s H vs Q E hr hG h => ?_)
  · obtain ⟨st, a, b, c, v, n, kinds, bs, cs, ws, due, rfl, _⟩ := h
    rfl
  · obtain ⟨st, a, b, c, v, n, kinds, bs, cs, ws, due, rfl, hst, Ar, hdue, k⟩ := h
    have F := Ar.F
    have hme := TA.mem_ends (kinds := kinds) (b := bs) (c := cs) (w := ws) F.lt F.bl F.cl
    have hCA : ∀ {H1 : Hp} {v' : Addr}, Same H H1 → IsSeq H1 v' (nl ws) → CArgs T.st.C H1 st b c v' n kinds bs cs ws := fun s1 hv => ⟨mStore.m s1 hst, mN.m s1 Ar.b, mN.m s1 Ar.c, hv, F⟩
    have dl : ∀ D, TA.IsDeal kinds bs cs ws D → due = true := fun D hD => hdue.mpr (hme.mpr (deal_way F hD))
    have cr : ∀ lot, TA.IsCrowd kinds bs cs ws lot → due = false := fun lot hC => by
      cases hd : due with
      | false => rfl
      | true =>
        obtain ⟨hist, h1, h2⟩ := hme.mp (hdue.mp hd)
        exact (TA.hist_crowd F.ne F.lt F.bl h1 h2 hC).elim
    cases due with
    | true =>
      refine ⟨_, (pss_cons (ps_if (pt_cmpR op_ne (pe_callB (cr_reprB hG hr.units) (by rfl) T.b_repr bt_repr (pa_cons (pe_lst (pa_cons (pe_call (ok_can_end T) (hr.mono (by decide)) (by rfl) T.d_can_end.m T.d_can_end.F.kp T.d_can_end.b .nil pass0 (pa_cons (pv 0) (pa_cons (pv 2) (pa_cons (pv 3) (pa_cons (pv 4) pa_nil))))) (pa_cons (pe_callKw (ok_can_end T) (hr.mono (by decide)) (by rfl) T.d_can_end.m T.d_can_end.F.kp T.kb_can_end pass0 (pk_cons (pe_callTy call_tuple_of (by rfl) T.b_tuple bt_tuple (pa_cons (pv 4) pa_nil)) (pk_cons (pv 3) (pk_cons (pv 2) (pk_cons (pv 0) pk_nil))))) pa_nil))) pa_nil)) (pe_callB (cr_reprB hG hr.units) (by rfl) T.b_repr bt_repr (pa_cons (pe_lst (pa_cons (pv 5) (pa_cons (pv 5) pa_nil))) pa_nil)) (nomark _)) (pss_one (ps_ret pe_bl)) pss_nil)
    (pss_cons (ps_par3 (i := 6) (j := 7) (l := 8) rfl sc__law_one_right.nd rfl rfl rfl (by decide) (by decide) (by decide) rfl rfl rfl (pa_cons (pe_call (ok_dealing T) (hr.mono (by decide)) (by rfl) T.d_dealing.m T.d_dealing.F.kp T.d_dealing.b .nil pass0 (pa_cons (pv 0) (pa_cons (pv 2) (pa_cons (pv 3) (pa_cons (pv 4) pa_nil))))) (pa_cons (pe_call (ok_crowd T) (hr.mono (by decide)) (by rfl) T.d_crowd.m T.d_crowd.F.kp T.d_crowd.b .nil pass0 (pa_cons (pv 0) (pa_cons (pv 2) (pa_cons (pv 3) (pa_cons (pv 4) pa_nil))))) (pa_cons (pe_call (ok_told_way T) (hr.mono (by decide)) (by rfl) T.d_told_way.m T.d_told_way.F.kp T.d_told_way.b .nil pass0 (pa_cons (pv 0) (pa_cons (pv 2) (pa_cons (pv 3) (pa_cons (pv 4) pa_nil))))) pa_nil))) (by rfl))
    (pss_cons (ps_if (pt_not (pt_val (pv 5))) (pss_cons (ps_if (PW.pt (pw_or (pt_cmpR op_notN (pv 6) pe_non (nomark _)) (pw_or (pt_cmpR op_notN (pv 8) pe_non (nomark _)) (pw_or (pt_cmpR op_isN (pv 7) pe_non (nomark _)) (pw_or (pt_cmpR (op_neD hr.units) (pv 7) (pe_callB cr_sorted (by rfl) T.b_sorted bt_sorted (pa_cons (pv 7) pa_nil)) (nomark _)) (pw_or1 (pt_not (pt_val (pe_call (ok__law_is_crowd T) (hr.mono (by decide)) (by rfl) T.d__law_is_crowd.m T.d__law_is_crowd.F.kp T.d__law_is_crowd.b .nil pass0 (pa_cons (pv 1) (pa_cons (pv 2) (pa_cons (pv 3) (pa_cons (pv 4) (pa_cons (pv 7) pa_nil)))))))))))))) (pss_one (ps_ret pe_bl)) pss_nil)
    (pss_one (ps_ret (pe_cmpR op_isBl (pe_call (ok_is_crowd T) (hr.mono (by decide)) (by rfl) T.d_is_crowd.m T.d_is_crowd.F.kp T.d_is_crowd.b .nil pass0 (pa_cons (pv 0) (pa_cons (pv 2) (pa_cons (pv 3) (pa_cons (pv 4) (pa_cons (pv 7) pa_nil)))))) pe_bl (nomark _))))) pss_nil)
    (pss_cons (ps_if (PW.pt (pw_or (pt_cmpR op_notN (pv 7) pe_non (nomark _)) (pw_or (pt_cmpR op_isN (pv 6) pe_non (nomark _)) (pw_or (pt_not (pt_val (pe_call (ok__law_is_dealing T) (hr.mono (by decide)) (by rfl) T.d__law_is_dealing.m T.d__law_is_dealing.F.kp T.d__law_is_dealing.b .nil pass0 (pa_cons (pv 1) (pa_cons (pv 2) (pa_cons (pv 3) (pa_cons (pv 4) (pa_cons (pv 6) pa_nil)))))))) (pw_or1 (pt_not (pt_val (pe_callB call_isi (by rfl) T.b_isinstance bt_isinstance (pa_cons (pv 8) (pa_cons (pe_bltn (v := .ty "list") (by rfl) T.b_list bt_list rfl) pa_nil)))))))))) (pss_one (ps_ret pe_bl)) pss_nil)
    (pss_one (ps_ret (pe_and (pe_cmpR (op_eqD hr.units) (pe_call (ok__law_played T) (hr.mono (by decide)) (by rfl) T.d__law_played.m T.d__law_played.F.kp T.d__law_played.b .nil pass0 (pa_cons (pv 1) (pa_cons (pv 2) (pa_cons (pv 8) pa_nil)))) (pe_tup (pa_cons (pv 4) (pa_cons (pv 3) pa_nil))) (nomark _)) (pe_one (pe_cmpR op_isBl (pe_call (ok_is_dealing T) (hr.mono (by decide)) (by rfl) T.d_is_dealing.m T.d_is_dealing.F.kp T.d_is_dealing.b .nil pass0 (pa_cons (pv 0) (pa_cons (pv 2) (pa_cons (pv 3) (pa_cons (pv 4) (pa_cons (pv 6) pa_nil)))))) pe_bl (nomark _)))))))))), ?_⟩
      refine ⟨_, rfl, _, rfl, _, rfl, _, rfl, st, b, c, v, n, kinds, bs, cs, ws, rfl, hCA (Same.refl _) (.inl Ar.v), fun H1 D s' hD => ?_, fun _ lot _ hC => (nomatch cr lot hC)⟩
      have s1 : Same H H1 := s'
      clear s' hD
      refine ⟨_, rfl, v, nl ws, rfl, .inl ⟨SqL.of (s1 _ _ Ar.v), fun l hl => ?_⟩⟩
      have s2 := s1.trans (same_upd (o := .tup (nl ws)) hl)
      refine ⟨_, rfl, _, rfl, _, rfl, st, b, c, l, n, kinds, bs, cs, ws, rfl, hCA s2 (.inr upd_same), fun H3 D s' hD => ?_, fun _ lot _ hC => (nomatch cr lot hC)⟩
      have s3 := s2.trans s'
      clear s' hD
      refine ⟨by show 2 ≤ sizeLine; decide, fun p1 hp1 => ?_⟩
      refine ⟨p1, true, true, rfl, SqL.of upd_same, ?_⟩
      refine ⟨_, rfl, _, rfl, by show 2 ≤ sizeLine; decide, fun p2 hp2 => ?_⟩
      refine ⟨p2, true, true, rfl, SqL.of upd_same, rfl, false, nbl (decide_eq_true rfl), iteF ?_⟩
      have s5 := (s3.trans (same_upd hp1)).trans (same_upd (o := .lst [.bl true, .bl true]) hp2)
      refine hide (H3 := upd (upd H3 p1 (.lst [.bl true, .bl true])) p2 (.lst [.bl true, .bl true])) (R := fun H5 => Same H H5) s5 fun H5 s5 => ?_
      clear s3 hp1 hp2 s1 s2 hl
      refine ⟨_, rfl, _, rfl, _, rfl, _, rfl, st, b, c, v, n, kinds, bs, cs, ws, rfl, hCA s5 (.inl (s5 _ _ Ar.v)), fun H6 f D s6 hf hD => ?_, fun _ lot _ hC => (nomatch cr lot hC)⟩
      have s06 := s5.trans s6
      refine ⟨_, rfl, _, rfl, _, rfl, _, rfl, st, b, c, v, n, kinds, bs, cs, ws, rfl, hCA s06 (.inl (s06 _ _ Ar.v)), fun H7 D' s7 hD' => ?_, fun _ l lot _ _ hC => (nomatch cr lot hC)⟩
      have s07 := s06.trans s7
      refine ⟨_, rfl, _, rfl, _, rfl, _, rfl, st, b, c, v, n, kinds, bs, cs, ws, rfl, hCA s07 (.inl (s07 _ _ Ar.v)), fun H8 p way s8 hw hH hU => ?_, fun _ lot _ hC => (nomatch cr lot hC)⟩
      have s08 := s07.trans s8
      have hf8 := mPls.m (s7.trans s8) hf
      refine ⟨_, _, _, rfl, ?_⟩
      refine ⟨_, rfl, true, rfl, iteF ?_⟩
      refine ⟨_, rfl, rfl, false, rfl, iteF ⟨_, rfl, rfl, false, rfl, iteF ?_⟩⟩
      refine ⟨_, rfl, _, rfl, _, rfl, _, rfl, _, rfl, a, b, c, v, f, n, kinds, bs, cs, ws, D, rfl, Ar.mono s08, hf8, hD, fun H9 s9 => ⟨true, rfl, iteF ?_⟩⟩
      have s09 := s08.trans s9
      have hw9 := mWay.m s9 hw
      obtain ⟨wps, hw1, hw2⟩ := id hw9
      refine ⟨_, rfl, _, _, _, _, true, rfl, .ty _, .base (.lst hw1), kit_ty (by decide +kernel), true, rfl, iteF ?_⟩
      refine ⟨_, rfl, _, rfl, _, rfl, a, b, p, kinds, bs, ws, way, rfl, mRows.m s09 Ar.a, s09 _ _ Ar.b, hw9, hH, Nat.le_trans F.k3 (by decide), (fun k hk s hs => by rw [F.bl]; exact F.lt k hk s hs), (fun k hk => ?_), fun H10 r h u s10 hr hh hu' => ?_⟩
      · exact Nat.le_trans (TA.kind_length (F.inc k hk) (F.lt k hk)) (Nat.le_trans F.n4 (by decide))
      rw [hU] at hu'
      have s010 := s09.trans s10
      refine ⟨_, rfl, _, rfl, by show 2 ≤ sizeLine; decide, fun t ht => ?_⟩
      have st1 : Same H10 (upd H10 t (.tup [.ref v, .ref c])) := same_upd ht
      refine ⟨eSt.f (ws, cs), eSt.f (ws, cs), dp_pr (st1 _ _ hr) (mN.m st1 hh) (mN.m st1 hu'), dp_pr upd_same ((s010.trans st1) _ _ Ar.v) ((s010.trans st1) _ _ Ar.c), eSt.shaped (by decide) _, eSt.shaped (by decide) _, true, b_bl (eSt.eqvT rfl), iteT ?_⟩
      have s11 := s010.trans st1
      refine ⟨_, rfl, _, rfl, _, rfl, _, rfl, _, rfl, st, b, c, v, f, n, kinds, bs, cs, ws, D, rfl, hCA s11 (.inl (s11 _ _ Ar.v)), mPls.m ((s9.trans s10).trans st1) hf8, hD, fun H12 s12 => ?_⟩
      exact ⟨true, true, rfl, rfl, k _ (s11.trans s12)⟩
    | false =>
      refine ⟨_, (pss_cons (ps_if (pt_cmpR op_ne (pe_callB (cr_reprB hG hr.units) (by rfl) T.b_repr bt_repr (pa_cons (pe_lst (pa_cons (pe_call (ok_can_end T) (hr.mono (by decide)) (by rfl) T.d_can_end.m T.d_can_end.F.kp T.d_can_end.b .nil pass0 (pa_cons (pv 0) (pa_cons (pv 2) (pa_cons (pv 3) (pa_cons (pv 4) pa_nil))))) (pa_cons (pe_callKw (ok_can_end T) (hr.mono (by decide)) (by rfl) T.d_can_end.m T.d_can_end.F.kp T.kb_can_end pass0 (pk_cons (pe_callTy call_tuple_of (by rfl) T.b_tuple bt_tuple (pa_cons (pv 4) pa_nil)) (pk_cons (pv 3) (pk_cons (pv 2) (pk_cons (pv 0) pk_nil))))) pa_nil))) pa_nil)) (pe_callB (cr_reprB hG hr.units) (by rfl) T.b_repr bt_repr (pa_cons (pe_lst (pa_cons (pv 5) (pa_cons (pv 5) pa_nil))) pa_nil)) (nomark _)) (pss_one (ps_ret pe_bl)) pss_nil)
    (pss_cons (ps_par3 (i := 6) (j := 7) (l := 8) rfl sc__law_one_right.nd rfl rfl rfl (by decide) (by decide) (by decide) rfl rfl rfl (pa_cons (pe_call (ok_dealing T) (hr.mono (by decide)) (by rfl) T.d_dealing.m T.d_dealing.F.kp T.d_dealing.b .nil pass0 (pa_cons (pv 0) (pa_cons (pv 2) (pa_cons (pv 3) (pa_cons (pv 4) pa_nil))))) (pa_cons (pe_call (ok_crowd T) (hr.mono (by decide)) (by rfl) T.d_crowd.m T.d_crowd.F.kp T.d_crowd.b .nil pass0 (pa_cons (pv 0) (pa_cons (pv 2) (pa_cons (pv 3) (pa_cons (pv 4) pa_nil))))) (pa_cons (pe_call (ok_told_way T) (hr.mono (by decide)) (by rfl) T.d_told_way.m T.d_told_way.F.kp T.d_told_way.b .nil pass0 (pa_cons (pv 0) (pa_cons (pv 2) (pa_cons (pv 3) (pa_cons (pv 4) pa_nil))))) pa_nil))) (by rfl))
    (pss_cons (ps_if (pt_not (pt_val (pv 5))) (pss_cons (ps_if (PW.pt (pw_or (pt_cmpR op_notN (pv 6) pe_non (nomark _)) (pw_or (pt_cmpR op_notN (pv 8) pe_non (nomark _)) (pw_or (pt_cmpR op_isN (pv 7) pe_non (nomark _)) (pw_or (pt_cmpR (op_neD hr.units) (pv 7) (pe_callB cr_sorted (by rfl) T.b_sorted bt_sorted (pa_cons (pv 7) pa_nil)) (nomark _)) (pw_or1 (pt_not (pt_val (pe_call (ok__law_is_crowd T) (hr.mono (by decide)) (by rfl) T.d__law_is_crowd.m T.d__law_is_crowd.F.kp T.d__law_is_crowd.b .nil pass0 (pa_cons (pv 1) (pa_cons (pv 2) (pa_cons (pv 3) (pa_cons (pv 4) (pa_cons (pv 7) pa_nil)))))))))))))) (pss_one (ps_ret pe_bl)) pss_nil)
    (pss_one (ps_ret (pe_cmpR op_isBl (pe_call (ok_is_crowd T) (hr.mono (by decide)) (by rfl) T.d_is_crowd.m T.d_is_crowd.F.kp T.d_is_crowd.b .nil pass0 (pa_cons (pv 0) (pa_cons (pv 2) (pa_cons (pv 3) (pa_cons (pv 4) (pa_cons (pv 7) pa_nil)))))) pe_bl (nomark _))))) pss_nil)
    (pss_cons (ps_if (PW.pt (pw_or (pt_cmpR op_notN (pv 7) pe_non (nomark _)) (pw_or (pt_cmpR op_isN (pv 6) pe_non (nomark _)) (pw_or (pt_not (pt_val (pe_call (ok__law_is_dealing T) (hr.mono (by decide)) (by rfl) T.d__law_is_dealing.m T.d__law_is_dealing.F.kp T.d__law_is_dealing.b .nil pass0 (pa_cons (pv 1) (pa_cons (pv 2) (pa_cons (pv 3) (pa_cons (pv 4) (pa_cons (pv 6) pa_nil)))))))) (pw_or1 (pt_not (pt_val (pe_callB call_isi (by rfl) T.b_isinstance bt_isinstance (pa_cons (pv 8) (pa_cons (pe_bltn (v := .ty "list") (by rfl) T.b_list bt_list rfl) pa_nil)))))))))) (pss_one (ps_ret pe_bl)) pss_nil)
    (pss_one (ps_ret (pe_and (pe_cmpR (op_eqD hr.units) (pe_call (ok__law_played T) (hr.mono (by decide)) (by rfl) T.d__law_played.m T.d__law_played.F.kp T.d__law_played.b .nil pass0 (pa_cons (pv 1) (pa_cons (pv 2) (pa_cons (pv 8) pa_nil)))) (pe_tup (pa_cons (pv 4) (pa_cons (pv 3) pa_nil))) (nomark _)) (pe_one (pe_cmpR op_isBl (pe_call (ok_is_dealing T) (hr.mono (by decide)) (by rfl) T.d_is_dealing.m T.d_is_dealing.F.kp T.d_is_dealing.b .nil pass0 (pa_cons (pv 0) (pa_cons (pv 2) (pa_cons (pv 3) (pa_cons (pv 4) (pa_cons (pv 6) pa_nil)))))) pe_bl (nomark _)))))))))), ?_⟩
      refine ⟨_, rfl, _, rfl, _, rfl, _, rfl, st, b, c, v, n, kinds, bs, cs, ws, rfl, hCA (Same.refl _) (.inl Ar.v), fun _ D _ hD => (nomatch dl D hD), fun H1 lot s' hC => ?_⟩
      have s1 : Same H H1 := s'
      clear s' hC
      refine ⟨_, rfl, v, nl ws, rfl, .inl ⟨SqL.of (s1 _ _ Ar.v), fun l hl => ?_⟩⟩
      have s2 := s1.trans (same_upd (o := .tup (nl ws)) hl)
      refine ⟨_, rfl, _, rfl, _, rfl, st, b, c, l, n, kinds, bs, cs, ws, rfl, hCA s2 (.inr upd_same), fun _ D _ hD => (nomatch dl D hD), fun H3 lot s' hC => ?_⟩
      have s3 := s2.trans s'
      clear s' hC
      refine ⟨by show 2 ≤ sizeLine; decide, fun p1 hp1 => ?_⟩
      refine ⟨p1, false, false, rfl, SqL.of upd_same, ?_⟩
      refine ⟨_, rfl, _, rfl, by show 2 ≤ sizeLine; decide, fun p2 hp2 => ?_⟩
      refine ⟨p2, false, false, rfl, SqL.of upd_same, rfl, false, nbl (decide_eq_true rfl), iteF ?_⟩
      have s5 := (s3.trans (same_upd hp1)).trans (same_upd (o := .lst [.bl false, .bl false]) hp2)
      refine hide (H3 := upd (upd H3 p1 (.lst [.bl false, .bl false])) p2 (.lst [.bl false, .bl false])) (R := fun H5 => Same H H5) s5 fun H5 s5 => ?_
      clear s3 hp1 hp2 s1 s2 hl
      refine ⟨_, rfl, _, rfl, _, rfl, _, rfl, st, b, c, v, n, kinds, bs, cs, ws, rfl, hCA s5 (.inl (s5 _ _ Ar.v)), fun _ f D _ hf hD => (nomatch dl D hD), fun H6 lot' s6 hC' => ?_⟩
      have s06 := s5.trans s6
      refine ⟨_, rfl, _, rfl, _, rfl, _, rfl, st, b, c, v, n, kinds, bs, cs, ws, rfl, hCA s06 (.inl (s06 _ _ Ar.v)), fun _ D _ hD => (nomatch dl D hD), fun H7 l lot s7 hl hC => ?_⟩
      have s07 := s06.trans s7
      refine ⟨_, rfl, _, rfl, _, rfl, _, rfl, st, b, c, v, n, kinds, bs, cs, ws, rfl, hCA s07 (.inl (s07 _ _ Ar.v)), fun _ p way _ hw hH hU => (nomatch hdue.mpr (hme.mpr ⟨way, hH, hU⟩)), fun H8 lot2 s8 hC2 => ?_⟩
      have s08 := s07.trans s8
      have hl8 := mN.m s8 hl
      have hlen := lot_small F hC
      refine ⟨_, _, _, rfl, ?_⟩
      refine ⟨_, rfl, false, rfl, iteT ?_⟩
      refine ⟨_, rfl, rfl, false, rfl, iteF ⟨_, rfl, rfl, false, rfl, iteF ⟨_, rfl, rfl, false, rfl, iteF ?_⟩⟩⟩
      refine ⟨_, rfl, _, rfl, l, zi lot, rfl, SqL.of hl8, (by rw [zi_length]; omega), fun ns q hperm hsort hq => ?_⟩
      have sq : Same H8 (upd H8 q (.lst (ns.map V.int))) := same_upd hq
      have hns : ns = zi lot := by
        have h2 : (zi lot).Pairwise (· ≤ ·) := List.pairwise_map.mpr (hC.inc.imp fun h => by omega)
        exact List.Perm.eq_of_pairwise (fun a b _ _ h1 h2 => Int.le_antisymm h1 h2) hsort h2 hperm
      refine ⟨eN.f lot, eN.f lot, dp_n (mN.m sq hl8), dp_n (by rw [hns]; exact upd_same), eN.shaped (by decide) _, eN.shaped (by decide) _, false, nbl (eN.eqvT rfl), iteF ?_⟩
      have s09 := s08.trans sq
      refine ⟨_, rfl, _, rfl, _, rfl, _, rfl, _, rfl, a, b, c, v, l, n, kinds, bs, cs, ws, lot, rfl, Ar.mono s09, mN.m sq hl8, hC, fun H9 s9 => ⟨true, rfl, iteF ?_⟩⟩
      have s010 := s09.trans s9
      refine ⟨_, rfl, _, rfl, _, rfl, _, rfl, _, rfl, st, b, c, v, l, n, kinds, bs, cs, ws, lot, rfl, hCA s010 (.inl (s010 _ _ Ar.v)), mN.m (sq.trans s9) hl8, hC, fun H12 s12 => ?_⟩
      exact ⟨true, true, rfl, rfl, k _ (s010.trans s12)⟩
end
end Tw
namespace Tw
open PySem PySem.Spec PyProof.Rows L2 TR
open TA (Plc zi Tk look put Stg)
theorem ends_fit {kinds : List (List Nat)} {n : Nat} {b c w : List Nat} (hk : ∀ k ∈ kinds, ∀ s ∈ k, s < n) (hb : b.length = n) (hc : c.length = kinds.length) (h : w ∈ TA.endsOf kinds b c) : (∀ s, TA.g b s ≤ TA.g w s) ∧ w.length = n ∧ w.sum = b.sum + c.sum := by
  obtain ⟨x, hx, rfl⟩ := List.mem_map.mp h
  obtain ⟨hist, hl, hr⟩ := TA.mem_stand.mp hx
  obtain ⟨h1, _⟩ := TA.Run.facts hk (u := List.replicate kinds.length 0) hb hc (List.length_replicate ..) hr
  have := h1.le hk hb
  rw [hl] at this
  exact this
theorem of_four {a b c d : Nat} (ha : a ≤ 2) (hb : b ≤ 2) (hc : c ≤ 2) (hd : d ≤ 2) {i : Nat} {v : V} (h : (nl [a, b, c, d])[i]? = some v) : ∃ x, x ≤ 2 ∧ v = vn x := by
  obtain ⟨n, hn, rfl⟩ := nl_of h
  have hm := List.mem_of_getElem? hn
  refine ⟨n, ?_, rfl⟩
  rcases List.mem_cons.mp hm with h | hm
  · omega
  rcases List.mem_cons.mp hm with h | hm
  · omega
  rcases List.mem_cons.mp hm with h | hm
  · omega
  have := List.mem_singleton.mp hm
  omega
section
variable {P : Program} {w : World} {K : PySem.W.Frag} {mg : Str → Option Value} {base : Heap}
theorem sc__law_right : FnScope ["_law_pot_here", "_law_shelves", "_law_kinds_here", "_law_board", "_law_counts", "_law_shelf", "_law_kind", "_law_store_here", "_law_ends_here", "_law_some", "_law_turn", "_law_wished"] ["_law_pot_here"] (defScope s__law_right) := ⟨rfl, rfl, rfl, by decide +kernel, rfl, by decide +kernel, by decide +kernel⟩
def sp__law_right : Sp := fun vs H Q _ => ∃ p : Addr, vs = [.ref p] ∧ IsPot H p ∧ ∀ H', Q (.bl true) H'
theorem ok__law_right (T : Txt K mg) : FnG P w K mg base 9 T.d__law_right.f T.d__law_right.fd ["_law_pot_here"] sp__law_right := by
  refine okG T.d__law_right.F sc__law_right (fun vs H Q E h => ?_) (fun cdv A outer s H vs Q E hr hG h => ?_)
  · obtain ⟨p, rfl, _⟩ := h
    rfl
  · obtain ⟨p, rfl, hp, k⟩ := h
    refine ⟨_, (pss_cons (ps_set (i := 1) sc__law_right.nd rfl (Or.inl rfl) (pe_op op_add pe_int (pe_call (ok__law_draw T) (hr.mono (by decide)) (by rfl) T.d__law_draw.m T.d__law_draw.F.kp T.d__law_draw.b .nil pass0 (pa_cons (pv 0) (pa_cons pe_int pa_nil)))))
    (pss_cons (ps_par3 (i := 2) (j := 3) (l := 4) rfl sc__law_right.nd rfl rfl rfl (by decide) (by decide) (by decide) rfl rfl rfl (pa_cons (pe_call (ok__law_kinds T) (hr.mono (by decide)) (by rfl) T.d__law_kinds.m T.d__law_kinds.F.kp T.d__law_kinds.b .nil pass0 (pa_cons (pv 0) (pa_cons (pv 1) (pa_cons pe_int (pa_cons pe_int pa_nil))))) (pa_cons (pe_lst pa_nil) (pa_cons (pe_lst pa_nil) pa_nil))) (by rfl))
    (pss_cons (ps_for PassesOwn.never rfl (pi_range1 (by rfl) T.b_range (pa_cons (pv 1) pa_nil)) (pg_name (i := 5) sc__law_right.nd rfl (Or.inl rfl)) (pss_one (ps_expr (pe_bm PySem.F.plainAttrs_list PySem.F.slot_list_append PySem.F.type_list_append mt_append (pv 3) (pa_cons (pe_call (ok__law_pick T) (hr.mono (by decide)) (by rfl) T.d__law_pick.m T.d__law_pick.F.kp T.d__law_pick.b .nil pass0 (pa_cons (pv 0) (pa_cons (pe_lst (pa_cons pe_int (pa_cons pe_int (pa_cons pe_int (pa_cons pe_int pa_nil))))) pa_nil))) pa_nil)))))
    (pss_cons (ps_for PassesOwn.never rfl (pi_list (pv 2)) (pg_name (i := 6) sc__law_right.nd rfl (Or.inl rfl)) (pss_one (ps_expr (pe_bm PySem.F.plainAttrs_list PySem.F.slot_list_append PySem.F.type_list_append mt_append (pv 4) (pa_cons (pe_ifExp (pt_cmpR op_lt (pe_callB (cr_sum rfl) (by rfl) T.b_sum bt_sum (pa_cons (pv 4) pa_nil)) pe_int (nomark _)) (pe_call (ok__law_pick T) (hr.mono (by decide)) (by rfl) T.d__law_pick.m T.d__law_pick.F.kp T.d__law_pick.b .nil pass0 (pa_cons (pv 0) (pa_cons (pe_lst (pa_cons pe_int (pa_cons pe_int (pa_cons pe_int (pa_cons pe_int pa_nil))))) pa_nil))) pe_int) pa_nil)))))
    (pss_cons (ps_par (i := 7) (j := 8) rfl sc__law_right.nd rfl rfl (by decide) rfl rfl (pa_cons (pe_call (ok__law_store T) (hr.mono (by decide)) (by rfl) T.d__law_store.m T.d__law_store.F.kp T.d__law_store.b .nil pass0 (pa_cons (pv 1) (pa_cons (pv 2) pa_nil))) (pa_cons (pe_call (ok__law_ends T) (hr.mono (by decide)) (by rfl) T.d__law_ends.m T.d__law_ends.F.kp T.d__law_ends.b .nil pass0 (pa_cons (pv 2) (pa_cons (pv 3) (pa_cons (pv 4) pa_nil)))) pa_nil)) (by rfl))
    (pss_cons (ps_set (i := 9) sc__law_right.nd rfl (Or.inl rfl) (pe_lst (pa_cons (pe_call (ok__law_pick T) (hr.mono (by decide)) (by rfl) T.d__law_pick.m T.d__law_pick.F.kp T.d__law_pick.b .nil pass0 (pa_cons (pv 0) (pa_cons (pv 8) pa_nil))) (pa_cons (pe_call (ok__law_pick T) (hr.mono (by decide)) (by rfl) T.d__law_pick.m T.d__law_pick.F.kp T.d__law_pick.b .nil pass0 (pa_cons (pv 0) (pa_cons (pv 8) pa_nil))) pa_nil))))
    (pss_cons (ps_for PassesOwn.never rfl (pi_range1 (by rfl) T.b_range (pa_cons pe_int pa_nil)) (pg_name (i := 10) sc__law_right.nd rfl (Or.inl rfl)) (pss_one (ps_expr (pe_bm PySem.F.plainAttrs_list PySem.F.slot_list_append PySem.F.type_list_append mt_append (pv 9) (pa_cons (pe_call (ok__law_more T) (hr.mono (by decide)) (by rfl) T.d__law_more.m T.d__law_more.F.kp T.d__law_more.b .nil pass0 (pa_cons (pv 0) (pa_cons (pv 3) (pa_cons (pe_callB (cr_sum rfl) (by rfl) T.b_sum bt_sum (pa_cons (pv 4) pa_nil)) pa_nil)))) pa_nil)))))
    (pss_cons (ps_for PassesOwn.never rfl (pi_list (pv 9)) (pg_name (i := 11) sc__law_right.nd rfl (Or.inl rfl)) (pss_one (ps_if (pt_not (pt_val (pe_callG (ok__law_one_right T) (hr.mono (by decide)) hG (by rfl) T.d__law_one_right.m T.d__law_one_right.F.kp T.d__law_one_right.b (pa_cons (pv 7) (pa_cons (pv 2) (pa_cons (pv 3) (pa_cons (pv 4) (pa_cons (pv 11) (pa_cons (pe_cmpR (op_inD (hu65 hr)) (pv 11) (pv 8) (by rfl)) pa_nil))))))))) (pss_one (ps_ret pe_bl)) pss_nil)))
    (pss_one (ps_ret pe_bl)))))))))), ?_⟩
    refine ⟨_, rfl, p, 3, rfl, hp, by decide, by decide, fun H1 d s1 hp1 hd => ⟨_, _, rfl, rfl, ?_⟩⟩
    obtain ⟨n, hn⟩ : ∃ n, n = 2 + d := ⟨_, rfl⟩
    have hnv : V.int ((2 : Int) + (d : Int)) = vn n := v_int (by omega)
    show tSeq _ _ _ (([some (V.ref p), none, none, none, none, none, none, none, none, none, none, none] : L2.St).set 1 (some (V.int ((2 : Int) + (d : Int))))) _
    rw [hnv]
    refine ⟨_, rfl, _, rfl, p, n, rfl, hp1, by omega, by omega, fun H2 f kinds s2 hp2 nf hK hKok h1 h3 => ?_⟩
    refine ⟨by show 0 ≤ sizeLine; decide, fun bd hbd => ⟨by show 0 ≤ sizeLine; decide, fun ct hct => ⟨_, _, _, rfl, ?_⟩⟩⟩
    have hBp : cut H2 p p = none := cut_self
    have hBb : cut H2 p bd = none := cut_none hbd
    have hct2 : H2 ct = none := (same_upd hbd).free hct
    have hBc : cut H2 p ct = none := cut_none hct2
    have nbc : bd ≠ ct := fun e => by rw [← e, upd_same] at hct; cases hct
    have npb := hp2.ne hbd
    have npc := hp2.ne hct2
    have s3 : Same (cut H2 p) (upd (upd H2 bd (.lst [])) ct (.lst [])) := (cut_same.trans (same_upd hbd)).trans (same_upd hct)
    have hp3 : IsPot (upd (upd H2 bd (.lst [])) ct (.lst [])) p := (hp2.upd npb).upd npc
    have hb3 : IsN (upd (upd H2 bd (.lst [])) ct (.lst [])) bd [] := (upd_ne nbc).trans upd_same
    have hc3 : IsN (upd (upd H2 bd (.lst [])) ct (.lst [])) ct [] := upd_same
    generalize cut H2 p = B at *
    refine ⟨_, rfl, n, rfl, by omega, by omega, ?_⟩
    refine for_it walk_range (fun i σ H' => ∃ (x5 : Option V) (bs : List Nat), σ = [some (.ref p), some (vn n), some (.ref f), some (.ref bd), some (.ref ct), x5, none, none, none, none, none, none] ∧ Same B H' ∧ IsPot H' p ∧ IsN H' bd bs ∧ IsN H' ct [] ∧ bs.length = i ∧ ∀ x ∈ bs, x ≤ 2)
      ⟨none, [], rfl, s3, hp3, hb3, hc3, rfl, fun _ h => by simp at h⟩ (fun _ _ _ _ _ => trivial) ?_ ?_
    · rintro i x σ H4 H5 hi ⟨x5, bs, rfl, s4, hp4, hb4, hc4, hbl, hb2⟩ ⟨rfl, hx⟩
      refine ⟨_, rfl, .inl ⟨rfl, _, SqL.of hb4⟩, _, rfl, by show 4 ≤ sizeLine; decide, fun a ha => ?_⟩
      have sa := s4.trans (same_upd (o := .lst (nl [0, 0, 1, 2])) ha)
      refine ⟨p, a, nl [0, 0, 1, 2], rfl, hp4.ne ha, hp4.same (same_upd ha), upd_same, by decide, by decide, fun H6 d v s6 hp6 hv => ?_⟩
      obtain ⟨z, hz, rfl⟩ := of_four (by decide) (by decide) (by decide) (by decide) hv
      have hb6 : IsN H6 bd bs := s6 _ _ ((cut_ne (Ne.symm npb)).trans (same_upd ha _ _ hb4))
      have hc6 : IsN H6 ct [] := s6 _ _ ((cut_ne (Ne.symm npc)).trans (same_upd ha _ _ hc4))
      refine ⟨bd, _, _, rfl, rfl, hb6, (by rw [nl_length, hbl]; exact Nat.lt_of_le_of_lt (show _ ≤ 63 by omega) (by decide)), ?_⟩
      refine ⟨_, bs ++ [z], rfl, same_mut (same_pot sa hBp s6) hBb, hp6.upd npb, upd_same.trans (congrArg (fun z => some (HO.lst z)) (nl_append bs [z]).symm), (upd_ne (Ne.symm nbc)).trans hc6, by rw [List.length_append, hbl]; rfl, fun y hy => ?_⟩
      rcases List.mem_append.mp hy with h | h
      · exact hb2 y h
      · rw [List.mem_singleton.mp h]; exact hz
    · rintro σ H4 ⟨x5, bs, rfl, s4, hp4, hb4, hc4, hbl, hb2⟩
      rw [Int.toNat_natCast] at hbl
      obtain ⟨ks, hk1, hk2⟩ := id hK
      have hksl := hk2.length
      refine ⟨_, rfl, f, rfl, ⟨_, SqL.of (s4 _ _ hk1)⟩, ?_⟩
      refine for_it walk_list (fun i σ H' => ∃ (x6 : Option V) (cs : List Nat), σ = [some (.ref p), some (vn n), some (.ref f), some (.ref bd), some (.ref ct), x5, x6, none, none, none, none, none] ∧ Same B H' ∧ IsPot H' p ∧ IsN H' bd bs ∧ IsN H' ct cs ∧ cs.length = i ∧ ∀ x ∈ cs, x ≤ 2)
        ⟨none, [], rfl, s4, hp4, hb4, hc4, rfl, fun _ h => by simp at h⟩ (fun i σ H' _ ⟨_, _, _, s5, _⟩ => SqL.of (s5 _ _ hk1)) ?_ ?_
      · rintro i x σ H5 H6 hi ⟨x6, cs, rfl, s5, hp5, hb5, hc5, hcl, hc2⟩ ⟨rfl, hx⟩
        rw [List.length_map, hksl] at hi
        refine ⟨_, rfl, .inl ⟨rfl, _, SqL.of hc5⟩, _, rfl, ct, zi cs, rfl, SqL.of hc5, _, _, rfl, rfl, ?_⟩
        by_cases c4 : cs.sum < 4
        · refine ⟨true, b_bl (decide_eq_true (by rw [zi_sum]; omega)), iteT ?_⟩
          refine ⟨_, rfl, by show 4 ≤ sizeLine; decide, fun a ha => ?_⟩
          have sa := s5.trans (same_upd (o := .lst (nl [1, 0, 2, 1])) ha)
          refine ⟨p, a, nl [1, 0, 2, 1], rfl, hp5.ne ha, hp5.same (same_upd ha), upd_same, by decide, by decide, fun H7 d v s7 hp7 hv => ?_⟩
          obtain ⟨z, hz, rfl⟩ := of_four (by decide) (by decide) (by decide) (by decide) hv
          have hb7 : IsN H7 bd bs := s7 _ _ ((cut_ne (Ne.symm npb)).trans (same_upd ha _ _ hb5))
          have hc7 : IsN H7 ct cs := s7 _ _ ((cut_ne (Ne.symm npc)).trans (same_upd ha _ _ hc5))
          refine ⟨ct, _, _, rfl, rfl, hc7, (by rw [nl_length, hcl]; exact Nat.lt_of_le_of_lt (show _ ≤ 63 by omega) (by decide)), ?_⟩
          refine ⟨_, cs ++ [z], rfl, same_mut (same_pot sa hBp s7) hBc, hp7.upd npc, (upd_ne nbc).trans hb7, upd_same.trans (congrArg (fun z => some (HO.lst z)) (nl_append cs [z]).symm), by rw [List.length_append, hcl]; rfl, fun y hy => ?_⟩
          rcases List.mem_append.mp hy with h | h
          · exact hc2 y h
          · rw [List.mem_singleton.mp h]; exact hz
        · refine ⟨false, b_bl (decide_eq_false (by rw [zi_sum]; omega)), iteF ?_⟩
          refine ⟨ct, _, _, rfl, rfl, hc5, (by rw [nl_length, hcl]; exact Nat.lt_of_le_of_lt (show _ ≤ 63 by omega) (by decide)), ?_⟩
          refine ⟨_, cs ++ [0], rfl, same_mut s5 hBc, hp5.upd npc, (upd_ne nbc).trans hb5, upd_same.trans (congrArg (fun z => some (HO.lst z)) (nl_append cs [0]).symm), by rw [List.length_append, hcl]; rfl, fun y hy => ?_⟩
          rcases List.mem_append.mp hy with h | h
          · exact hc2 y h
          · rw [List.mem_singleton.mp h]; omega
      · rintro σ H5 ⟨x6, cs, rfl, s5, hp5, hb5, hc5, hcl, hc2⟩
        rw [List.length_map, hksl] at hcl
        have hkl4 : ∀ k ∈ kinds, k.length ≤ 4 := fun k hk => Nat.le_trans (TA.kind_length (hKok.inc k hk) (hKok.lt k hk)) (by omega)
        have hcs6 : cs.sum ≤ 6 := by
          have := TA.sum_le hc2
          omega
        have hn4 : n ≤ 4 := by omega
        refine ⟨_, rfl, _, rfl, n, f, kinds, rfl, mRows.m s5 hK, hKok, by omega, by omega, by omega, fun H6 st s6 hst => ?_⟩
        refine ⟨_, rfl, _, rfl, _, rfl, f, bd, ct, kinds, bs, cs, rfl, mRows.m (s5.trans s6) hK, mN.m s6 hb5, mN.m s6 hc5, h3, hKok.ne, (fun k hk s hs => by rw [hbl]; exact hKok.lt k hk s hs), hkl4, by omega, hcl, hcs6, fun H7 e ends s7 he hperm => ⟨_, _, rfl, ?_⟩⟩
        have hp6 := hp5.same s6
        have hp7 := hp6.same s7
        have s57 := s6.trans s7
        have hme : ∀ w, w ∈ ends ↔ w ∈ TA.endsOf kinds bs cs := fun w => hperm.mem_iff
        have hel : 0 < ends.length := by rw [hperm.length_eq]; exact ends_ne hKok.ne hcl
        have hel2 : ends.length < 1000000000 := by
          rw [hperm.length_eq]
          unfold TA.endsOf
          rw [List.length_map]
          have hM : ∀ p, (TA.gk kinds p).length ≤ 4 := fun p => by
            by_cases hp : p < kinds.length
            · exact hkl4 _ (TA.getD_mem [] hp)
            · unfold TA.gk
              rw [List.getD_eq_getElem?_getD, List.getElem?_eq_none (by omega)]; simp
          have h4 : 12 ^ cs.sum ≤ 12 ^ 6 := Nat.pow_le_pow_right (by decide) hcs6
          exact Nat.lt_of_le_of_lt (Nat.le_trans (TA.stand_length (st := (bs, cs)) h3 hM cs.sum) h4) (by decide)
        have hgood : ∀ w, (∀ s, TA.g bs s ≤ TA.g w s) → w.length = n → w.sum = bs.sum + cs.sum → TA.Fit n kinds bs cs w := fun w g1 g2 g3 => ⟨by omega, hn4, h1, h3, hKok.ne, hKok.lt, hKok.inc, hbl, g2, hcl, g1, g3, hb2, hc2⟩
        have hgend : ∀ w, w ∈ ends → TA.Fit n kinds bs cs w := fun w hw => by
          obtain ⟨g1, g2, g3⟩ := ends_fit hKok.lt hbl hcl ((hme w).mp hw)
          exact hgood w g1 g2 g3
        -- the heap behind the ends, without the pot
        obtain ⟨es, he1, he2⟩ := he
        have hesl := he2.length
        have npe : p ≠ e := fun z => by
          obtain ⟨x0, y0, hx0, _⟩ := hp7
          rw [z, he1] at hx0
          cases es with
          | nil => cases hx0
          | cons q r => injection hx0 with hx0; injection hx0 with hx0; injection hx0 with hx0; cases hx0
        have eB1 : cut H7 p e = some (.lst (es.map V.ref)) := (cut_ne (Ne.symm npe)).trans he1
        have eB2 : Paired (IsN (cut H7 p)) es ends := paired_mono (fun q ns h => IsN.cut h.1 fun z => by
          obtain ⟨x0, y0, hx0, _⟩ := hp6
          have := h.2
          rw [z, hx0] at this; cases this) he2
        have hstB : IsStore T.st.C n (cut H7 p) st kinds := by
          obtain ⟨dx, dd, ee, kk, g1, g2⟩ := mStore.m s7 hst
          obtain ⟨x0, y0, hx0, _⟩ := hp7
          refine ⟨dx, dd, ee, kk, (cut_ne fun z => ?_).trans g1, IsNT.cut g2 fun z => ?_⟩
          · rw [z, hx0] at g1; cases g1
          · have g2 : H7 dd = some (.tup (nl (kinds.map TA.bitsOf))) := g2
            rw [z, hx0] at g2; cases g2
        have s5B : Same B (cut H7 p) := same_cut (s5.trans s57) hBp
        have hbB : IsN (cut H7 p) bd bs := (cut_ne (Ne.symm npb)).trans (s57 _ _ hb5)
        have hcB : IsN (cut H7 p) ct cs := (cut_ne (Ne.symm npc)).trans (s57 _ _ hc5)
        have hkB := mRows.m s5B hK
        have hB7p : cut H7 p p = none := cut_self
        have sB7 : Same (cut H7 p) H7 := cut_same
        generalize cut H7 p = B2 at *
        refine ⟨_, rfl, _, rfl, p, e, es.map V.ref, rfl, npe, hp7, he1, (by rw [List.length_map, hesl]; exact hel), (by rw [List.length_map, hesl]; exact hel2), fun H8 d1 v1 s8 hp8 hv1 => ?_⟩
        obtain ⟨q1, hq1, rfl⟩ := refs_at hv1
        obtain ⟨w1, hw1, hr1⟩ := paired_at' eB2 hq1
        have s8B := same_pot sB7 hB7p s8
        refine ⟨_, rfl, _, rfl, p, e, es.map V.ref, rfl, npe, hp8, s8B _ _ eB1, (by rw [List.length_map, hesl]; exact hel), (by rw [List.length_map, hesl]; exact hel2), fun H9 d2 v2 s9 hp9 hv2 => ?_⟩
        obtain ⟨q2, hq2, rfl⟩ := refs_at hv2
        obtain ⟨w2, hw2, hr2⟩ := paired_at' eB2 hq2
        have s9B := same_pot s8B hB7p s9
        refine ⟨by show 2 ≤ sizeLine; decide, fun sm hsm => ?_⟩
        have hB7s : B2 sm = none := s9B.free hsm
        have nps := hp9.ne hsm
        have s10B : Same B2 (upd H9 sm (.lst [.ref q1, .ref q2])) := s9B.trans (same_upd hsm)
        have hBoff : ∀ {H' : Hp}, Same B2 H' → Same B2 (cut (cut H' sm) p) := fun s => same_cut (same_cut s hB7s) hB7p
        refine ⟨3, rfl, by decide, by decide, ?_⟩
        refine for_it walk_range (fun i σ H' => ∃ (x10 : Option V) (qs : List Addr) (wss : List (List Nat)), σ = [some (.ref p), some (vn n), some (.ref f), some (.ref bd), some (.ref ct), x5, x6, some (.ref st), some (.ref e), some (.ref sm), x10, none] ∧ Same B2 H' ∧ IsPot H' p ∧ H' sm = some (.lst (qs.map V.ref)) ∧ Paired (IsN (cut (cut H' sm) p)) qs wss ∧ wss.length = 2 + i ∧ ∀ w ∈ wss, TA.Fit n kinds bs cs w)
          ⟨none, [q1, q2], [w1, w2], rfl, s10B, hp9.same (same_upd hsm), upd_same, .cons (hBoff s10B _ _ hr1) (.cons (hBoff s10B _ _ hr2) .nil), rfl, fun w hw => ?_⟩ (fun _ _ _ _ _ => trivial) ?_ ?_
        · rcases List.mem_cons.mp hw with h | h
          · rw [h]; exact hgend w1 (List.mem_of_getElem? hw1)
          · rw [List.mem_singleton.mp h]; exact hgend w2 (List.mem_of_getElem? hw2)
        · rintro i x σ H10 H11 hi ⟨x10, qs, wss, rfl, s11, hp11, hsm11, hq11, hwl, hwf⟩ ⟨rfl, hx⟩
          refine ⟨_, rfl, .inl ⟨rfl, _, SqL.of hsm11⟩, ?_⟩
          refine ⟨_, rfl, _, rfl, _, rfl, ct, zi cs, rfl, SqL.of (s11 _ _ hcB), p, bd, bs, cs.sum, congrArg (fun z => [V.ref p, .ref bd, .int z]) (zi_sum cs), npb, hp11, s11 _ _ hbB, by omega, by omega, by omega, fun H12 g ws s12 hp12 hg hgN hgl hgle hgs => ?_⟩
          have hsm12 : H12 sm = some (.lst (qs.map V.ref)) := s12 _ _ ((cut_ne (Ne.symm nps)).trans hsm11)
          have s12B := same_pot s11 hB7p s12
          have ngs : g ≠ sm := fun z => by rw [z, hsm11] at hg; cases hg
          have ngp : g ≠ p := Ne.symm (hp11.ne hg)
          have hqs := hq11.length
          have hi3 : i < 3 := hi
          refine ⟨sm, _, _, rfl, rfl, hsm12, (by rw [List.length_map, hqs, hwl]; exact Nat.lt_of_le_of_lt (show _ ≤ 63 by omega) (by decide)), ?_⟩
          refine ⟨_, qs ++ [g], wss ++ [ws], rfl, same_mut s12B hB7s, hp12.upd nps, by rw [upd_same, List.map_append]; rfl, ?_, by rw [List.length_append, hwl]; rfl, fun w hw => ?_⟩
          · rw [cut_upd]
            exact paired_snoc (paired_mono (fun _ _ h => mN.m (cut_two (Ne.symm nps) s12) h) hq11) (IsN.cut (IsN.cut hgN ngs) ngp)
          · rcases List.mem_append.mp hw with h | h
            · exact hwf w h
            · rw [List.mem_singleton.mp h]; exact hgood ws hgle (by rw [hgl, hbl]) hgs
        · rintro σ H11 ⟨x10, qs, wss, rfl, s11, hp11, hsm11, hq11, hwl, hwf⟩
          have hq11' : Paired (IsN H11) qs wss := paired_mono (fun _ _ h => mN.m (cut_same.trans cut_same) h) hq11
          refine ⟨_, rfl, sm, rfl, ⟨_, SqL.of hsm11⟩, ?_⟩
          refine for_it walk_list (fun i σ H' => ∃ x11 : Option V, σ = [some (.ref p), some (vn n), some (.ref f), some (.ref bd), some (.ref ct), x5, x6, some (.ref st), some (.ref e), some (.ref sm), x10, x11] ∧ Same H11 H') ⟨none, rfl, Same.refl _⟩ (fun i σ H' _ ⟨_, _, s⟩ => SqL.of (s _ _ hsm11)) ?_ ?_
          · rintro i x σ H12 H13 hi ⟨x11, rfl, s13⟩ ⟨rfl, hx⟩
            obtain ⟨q, hq, rfl⟩ := refs_at hx
            obtain ⟨ws, hws, hqw⟩ := paired_at' hq11' hq
            have s13B := s11.trans s13
            have hqw3 := s13 _ _ hqw
            have hiff : ((ends.map eN.f).any fun z => PyData.eqv z (eN.f ws)) = true ↔ ws ∈ TA.endsOf kinds bs cs := by
              rw [← hme ws]
              constructor
              · intro h
                exact Classical.byContradiction fun z => by rw [eN.anyF z] at h; cases h
              · exact fun h => eN.anyT h
            refine ⟨_, rfl, _, rfl, _, rfl, _, rfl, _, rfl, _, rfl, _, rfl, eN.f ws, ends.map eN.f, dp_n hqw3, dp_rows ⟨es, s13B _ _ eB1, paired_mono (fun _ _ h => mN.m s13B h) eB2⟩, eN.shaped (by decide) _, eRows.shaped (by decide) _, ?_⟩
            refine ⟨st, f, bd, ct, q, n, kinds, bs, cs, ws, _, rfl, mStore.m s13B hstB, ⟨mRows.m s13B hkB, s13B _ _ hbB, s13B _ _ hcB, hqw3, hwf ws (List.mem_of_getElem? hws)⟩, hiff, fun H14 s14 => ⟨true, rfl, iteF ?_⟩⟩
            exact ⟨_, rfl, s13.trans s14⟩
          · rintro σ H12 ⟨x11, rfl, s12⟩
            exact k _
theorem sc_law : FnScope ["_law_script"] ["_law_script"] (defScope s_law) := ⟨rfl, rfl, rfl, by decide +kernel, rfl, by decide +kernel, by decide +kernel⟩
def sp_law (K : PySem.W.Frag) : Sp := fun vs H Q _ => ∃ (a : Addr) (ns : List Int), vs = [.ref a] ∧ SqL K H a (ns.map V.int) ∧ ∀ H', Q (.bl true) H'
theorem ok_law (T : Txt K mg) : FnG P w K mg base 10 T.d_law.f T.d_law.fd ["_law_script"] (sp_law K) := by
  refine okG T.d_law.F sc_law (fun vs H Q E h => ?_) (fun cdv A outer s H vs Q E hr hG h => ?_)
  · obtain ⟨a, ns, rfl, _⟩ := h
    rfl
  · obtain ⟨a, ns, rfl, ha, k⟩ := h
    refine ⟨_, (pss_one (ps_ret (pe_callG (ok__law_right T) (hr.mono (by decide)) hG (by rfl) T.d__law_right.m T.d__law_right.F.kp T.d__law_right.b (pa_cons (pe_call (ok__law_pot T) (hr.mono (by decide)) (by rfl) T.d__law_pot.m T.d__law_pot.F.kp T.d__law_pot.b .nil pass0 (pa_cons (pv 0) (pa_cons pe_int pa_nil))) pa_nil)))), ?_⟩
    exact ⟨_, rfl, a, ns, rfl, ha, fun p x y hp hx hy hy2 => ⟨p, rfl, ⟨x, y, upd_same, hx, hy, hy2⟩, fun H' => k H'⟩⟩
end
end Tw
namespace Tw
open PySem PySem.Spec PyProof.Rows L2 TR
theorem kb_rel {vs : List V} {us : List Value} {zs : List V} {ws : List Value} (h1 : Vals vs us) (h2 : Vals zs ws) : Vals (kbG vs zs) (kbG us ws) := by
  cases h1 with
  | cons _ _ => exact .nil
  | nil =>
    cases h2 with
    | nil => exact .nil
    | cons r1 t1 =>
      cases t1 with
      | nil => exact .nil
      | cons r2 t2 =>
        cases t2 with
        | nil => exact .nil
        | cons r3 t3 =>
          cases t3 with
          | nil => exact .nil
          | cons r4 t4 =>
            cases t4 with
            | nil => exact .cons r4 (.cons r3 (.cons r2 (.cons r1 .nil)))
            | cons _ _ => exact .nil
section
variable {K : PySem.W.Frag} {h : Heap} {mg : Str → Option Value}
def mkDef {x : Str} {st : Stmt} {ps : List Str} {f : Addr} {oc : Value} {od an : Option Addr} {osl : Array (Option Value)} {kV doc pm cdv ct : Value} (X : K.In h) (G : h.Ns mainGlobals mg) (a : PySem.W.nsIn K mainGlobals x = some (some (.ref f)))
    (l : K.lookup f = some ⟨oc, od, .func (PySem.W.fnOf x x (defArgs st) (defBody st) (defScope st) .none kV doc pm an cdv ct), osl⟩) (c : PySem.W.codeIn K cdv x = true) (k : PySem.W.keepIn K (.ref f) = true)
    (b : ∀ (kV doc pm : Value) (an : Option Addr) (cdv ct : Value) (us : List Value), us.length = ps.length → bindArgs (PySem.W.fnOf x x (defArgs st) (defBody st) (defScope st) .none kV doc pm an cdv ct) ⟨us, []⟩ = pure (ps.zip us)) : Def K mg x st ps :=
  ⟨f, _, fun_mk l c k, (fun_mk l c k).binds b, PySem.W.mg_of X G a⟩
def mkStore {C f : Addr} {oc : Value} {od an : Option Addr} {osl : Array (Option Value)} {kV doc pm cdv ct : Value} (X : K.In h) (G : h.Ns mainGlobals mg) (aC : PySem.W.nsIn K mainGlobals "Store" = some (some (.ref C)))
    (a1 : PySem.W.findIn K (.ref C) "__init__" = some (some (.ref f))) (e1 : PySem.W.isFn K (.ref f) = true)
    (l : K.lookup f = some ⟨oc, od, .func (PySem.W.fnOf "__init__" "Store.__init__" (defArgs s_init) (defBody s_init) (defScope s_init) .none kV doc pm an cdv ct), osl⟩) (c : PySem.W.codeIn K cdv "Store.__init__" = true) (k : PySem.W.keepIn K (.ref f) = true)
    (pg : PySem.W.plainGet K C Str.empty = true) (hd : PySem.W.hasDictIn K C = true) (po : PySem.W.plainOver K C = true) (sa : PySem.W.findIn K (.ref C) "__setattr__" = some (some (.builtin "object.__setattr__"))) (mk : PySem.W.makesIn K C = true) (kc : PySem.W.keepIn K (.ref C) = true)
    (n1 : PySem.W.findIn K (.ref C) "own_shelves" = some none) (n2 : PySem.W.findIn K (.ref C) "own_deliveries" = some none) (n3 : PySem.W.findIn K (.ref C) "own_sales" = some none) (n4 : PySem.W.findIn K (.ref C) "own_kept" = some none)
    (i1 : PySem.W.findIn K (.ref C) "__class__" = some (some (.builtin "object.__class__")))
    (i2 : PySem.W.specialIn K (.builtin "object.__class__") "__get__" = some (some (.builtin "getset_descriptor.__get__")))
    (i3 : PySem.W.takesIn K (.builtin "object.__class__") = some true)
    (i4 : PySem.W.mroIn K C (.type "object") = some true) : StoreTxt K mg :=
  ⟨C, f, _, fun_mk l c k, (fun_mk l c k).binds (ps := ["self", "shelves", "deliveries", "sales"]) fun _ _ _ _ _ _ us hl => match us, hl with | [_, _, _, _], _ => rfl, PySem.W.mg_of X G aC, ⟨pg, hd, po, sa⟩, ⟨mk, a1, e1, kc⟩, n1, n2, n3, n4, i1, i2, i3, i4⟩
theorem useDef {x : Str} {st : Stmt} {ps : List Str} {f : Addr} {oc : Value} {od an : Option Addr} {osl : Array (Option Value)} {kV doc pm cdv ct : Value} {Goal : Prop} (X : K.In h) (G : h.Ns mainGlobals mg) (a : PySem.W.nsIn K mainGlobals x = some (some (.ref f)))
    (l : K.lookup f = some ⟨oc, od, .func (PySem.W.fnOf x x (defArgs st) (defBody st) (defScope st) .none kV doc pm an cdv ct), osl⟩) (c : PySem.W.codeIn K cdv x = true) (k : PySem.W.keepIn K (.ref f) = true)
    (b : ∀ (kV doc pm : Value) (an : Option Addr) (cdv ct : Value) (us : List Value), us.length = ps.length → bindArgs (PySem.W.fnOf x x (defArgs st) (defBody st) (defScope st) .none kV doc pm an cdv ct) ⟨us, []⟩ = pure (ps.zip us)) (go : Def K mg x st ps → Goal) : Goal := go (mkDef X G a l c k b)
/-- can_end, with its keywords -/
theorem useKw {f : Addr} {oc : Value} {od an : Option Addr} {osl : Array (Option Value)} {kV doc pm cdv ct : Value} {Goal : Prop} (X : K.In h) (G : h.Ns mainGlobals mg) (a : PySem.W.nsIn K mainGlobals "can_end" = some (some (.ref f)))
    (l : K.lookup f = some ⟨oc, od, .func (PySem.W.fnOf "can_end" "can_end" (defArgs s_can_end) (defBody s_can_end) (defScope s_can_end) .none kV doc pm an cdv ct), osl⟩) (c : PySem.W.codeIn K cdv "can_end" = true) (k : PySem.W.keepIn K (.ref f) = true)
    (go : ∀ d : Def K mg "can_end" s_can_end ["store", "board", "counts", "wished"], KBinds K d.fd ["store", "board", "counts", "wished"] ["wished", "counts", "board", "store"] kbG kbG → Goal) : Goal :=
  go (mkDef X G a l c k fun _ _ _ _ _ _ us hl => match us, hl with | [_, _, _, _], _ => rfl) ⟨fun s us ws _ hl => match us, ws, hl with | [], [w, c, b, s], _ => .of_eq rfl, kb_rel⟩
theorem useLaw {f : Addr} {oc : Value} {od an : Option Addr} {osl : Array (Option Value)} {kV doc pm cdv ct : Value} {Goal : Prop} (X : K.In h) (G : h.Ns mainGlobals mg) (a : PySem.W.nsIn K mainGlobals "law" = some (some (.ref f)))
    (l : K.lookup f = some ⟨oc, od, .func (PySem.W.fnOf "law" "law" (defArgs s_law) (defBody s_law) (defScope s_law) .none kV doc pm an cdv ct), osl⟩) (c : PySem.W.codeIn K cdv "law" = true) (k : PySem.W.keepIn K (.ref f) = true)
    (go : ∀ d : Def K mg "law" s_law ["_law_script"], (∀ (s : Shared) (u : Value), BindsTo s d.fd ⟨[u], []⟩ [("_law_script", u)]) → Goal) : Goal :=
  go (mkDef X G a l c k fun _ _ _ _ _ _ us hl => match us, hl with | [_], _ => rfl) fun s u => .of_eq rfl
theorem useTok {x : Str} {i : Int} {t : Tok} {Goal : Prop} (X : K.In h) (G : h.Ns mainGlobals mg) (a : PySem.W.nsIn K mainGlobals x = some (some (.int i t))) (go : ∀ t, mg x = some (.int i t) → Goal) : Goal := go t (PySem.W.mg_of X G a)
theorem useNo {x : Str} {Goal : Prop} (X : K.In h) (G : h.Ns mainGlobals mg) (a : PySem.W.nsIn K mainGlobals x = some none) (go : mg x = none → Goal) : Goal := go (PySem.W.mg_none_of X G a)
theorem fin {P : Program} {w : World} {fa : Addr} (hfa : mg "law" = some (.ref fa)) (T : Txt K mg) (hb : ∀ (s : Shared) (u : Value), BindsTo s T.d_law.fd ⟨[u], []⟩ [("_law_script", u)]) :
    ∃ fd : FuncData, (∀ (s : Shared) (u : Value), BindsTo s fd ⟨[u], []⟩ [("_law_script", u)]) ∧ ∀ base : Heap, K.In base → base.Ns mainGlobals mg → FnG P w K mg base 10 fa fd ["_law_script"] (sp_law K) := by
  have e := hfa.symm.trans T.d_law.m
  have e : fa = T.d_law.f := by injection e with e; injection e
  subst e
  exact ⟨T.d_law.fd, hb, fun base _ _ => ok_law T⟩
end
end Tw
open PySem PySem.W PyProof.Rows
open_top head for PySem.Challenge.rw_twoabove_k71_whole_ends_by_walking_all_o
theorem PySem.Challenge.cw_twoabove_k71_whole_ends_by_walking_all_o_holds : PySem.Challenge.rw_twoabove_k71_whole_ends_by_walking_all_o.Holds :=
  head (by
  k_fill
  refine TR.walk_G (l := PySem.Challenge.rw_twoabove_k71_whole_ends_by_walking_all_o) (n := 63) (k := 10) (x := "_law_script") (sp := fun K => Tw.sp_law K) rfl (by decide) rfl ⟨rfl, by decide, by decide⟩ (fun w h Y => PySem.W.kIn_of Y) ?F ?sp
  case sp => exact fun K H a ns _ hS => ⟨a, ns, rfl, hS, fun _ => rfl⟩
  case F =>
    intro w mg fa h KX G hmg
    refine' Tw.useDef (x := "is_integer") (st := Tw.s_is_integer) (ps := ["value"]) KX G ?a0 ?l0 ?c0 ?k0 (fun _ _ _ _ _ _ us hl => match us, hl with | [_], _ => rfl) fun d_is_integer => ?m0
    (case a0 => k_is); (case l0 => k_is); (case c0 => k_is); (case k0 => k_is)
    refine' Tw.useDef (x := "is_count") (st := Tw.s_is_count) (ps := ["value"]) KX G ?a1 ?l1 ?c1 ?k1 (fun _ _ _ _ _ _ us hl => match us, hl with | [_], _ => rfl) fun d_is_count => ?m1
    (case a1 => k_is); (case l1 => k_is); (case c1 => k_is); (case k1 => k_is)
    refine' Tw.useDef (x := "is_list") (st := Tw.s_is_list) (ps := ["value"]) KX G ?a2 ?l2 ?c2 ?k2 (fun _ _ _ _ _ _ us hl => match us, hl with | [_], _ => rfl) fun d_is_list => ?m2
    (case a2 => k_is); (case l2 => k_is); (case c2 => k_is); (case k2 => k_is)
    refine' Tw.useDef (x := "are_shelves") (st := Tw.s_are_shelves) (ps := ["value"]) KX G ?a3 ?l3 ?c3 ?k3 (fun _ _ _ _ _ _ us hl => match us, hl with | [_], _ => rfl) fun d_are_shelves => ?m3
    (case a3 => k_is); (case l3 => k_is); (case c3 => k_is); (case k3 => k_is)
    refine' Tw.useDef (x := "want_shelves") (st := Tw.s_want_shelves) (ps := ["value"]) KX G ?a4 ?l4 ?c4 ?k4 (fun _ _ _ _ _ _ us hl => match us, hl with | [_], _ => rfl) fun d_want_shelves => ?m4
    (case a4 => k_is); (case l4 => k_is); (case c4 => k_is); (case k4 => k_is)
    refine' Tw.useDef (x := "is_lot_of") (st := Tw.s_is_lot_of) (ps := ["shelves", "value"]) KX G ?a5 ?l5 ?c5 ?k5 (fun _ _ _ _ _ _ us hl => match us, hl with | [_, _], _ => rfl) fun d_is_lot_of => ?m5
    (case a5 => k_is); (case l5 => k_is); (case c5 => k_is); (case k5 => k_is)
    refine' Tw.useDef (x := "bits_of") (st := Tw.s_bits_of) (ps := ["lot"]) KX G ?a6 ?l6 ?c6 ?k6 (fun _ _ _ _ _ _ us hl => match us, hl with | [_], _ => rfl) fun d_bits_of => ?m6
    (case a6 => k_is); (case l6 => k_is); (case c6 => k_is); (case k6 => k_is)
    refine' Tw.useDef (x := "spots_of") (st := Tw.s_spots_of) (ps := ["bits"]) KX G ?a7 ?l7 ?c7 ?k7 (fun _ _ _ _ _ _ us hl => match us, hl with | [_], _ => rfl) fun d_spots_of => ?m7
    (case a7 => k_is); (case l7 => k_is); (case c7 => k_is); (case k7 => k_is)
    refine' Tw.useDef (x := "told_lot") (st := Tw.s_told_lot) (ps := ["bits"]) KX G ?a8 ?l8 ?c8 ?k8 (fun _ _ _ _ _ _ us hl => match us, hl with | [_], _ => rfl) fun d_told_lot => ?m8
    (case a8 => k_is); (case l8 => k_is); (case c8 => k_is); (case k8 => k_is)
    refine' Tw.useDef (x := "is_kind") (st := Tw.s_is_kind) (ps := ["shelves", "value"]) KX G ?a9 ?l9 ?c9 ?k9 (fun _ _ _ _ _ _ us hl => match us, hl with | [_, _], _ => rfl) fun d_is_kind => ?m9
    (case a9 => k_is); (case l9 => k_is); (case c9 => k_is); (case k9 => k_is)
    refine' Tw.useDef (x := "are_kinds") (st := Tw.s_are_kinds) (ps := ["shelves", "value"]) KX G ?a10 ?l10 ?c10 ?k10 (fun _ _ _ _ _ _ us hl => match us, hl with | [_, _], _ => rfl) fun d_are_kinds => ?m10
    (case a10 => k_is); (case l10 => k_is); (case c10 => k_is); (case k10 => k_is)
    refine' Tw.useDef (x := "plain_kinds") (st := Tw.s_plain_kinds) (ps := ["kinds"]) KX G ?a11 ?l11 ?c11 ?k11 (fun _ _ _ _ _ _ us hl => match us, hl with | [_], _ => rfl) fun d_plain_kinds => ?m11
    (case a11 => k_is); (case l11 => k_is); (case c11 => k_is); (case k11 => k_is)
    refine' Tw.useDef (x := "want_store") (st := Tw.s_want_store) (ps := ["value"]) KX G ?a12 ?l12 ?c12 ?k12 (fun _ _ _ _ _ _ us hl => match us, hl with | [_], _ => rfl) fun d_want_store => ?m12
    (case a12 => k_is); (case l12 => k_is); (case c12 => k_is); (case k12 => k_is)
    refine' Tw.useDef (x := "is_board_of") (st := Tw.s_is_board_of) (ps := ["store", "value"]) KX G ?a13 ?l13 ?c13 ?k13 (fun _ _ _ _ _ _ us hl => match us, hl with | [_, _], _ => rfl) fun d_is_board_of => ?m13
    (case a13 => k_is); (case l13 => k_is); (case c13 => k_is); (case k13 => k_is)
    refine' Tw.useDef (x := "want_board") (st := Tw.s_want_board) (ps := ["store", "value"]) KX G ?a14 ?l14 ?c14 ?k14 (fun _ _ _ _ _ _ us hl => match us, hl with | [_, _], _ => rfl) fun d_want_board => ?m14
    (case a14 => k_is); (case l14 => k_is); (case c14 => k_is); (case k14 => k_is)
    refine' Tw.useDef (x := "want_counts") (st := Tw.s_want_counts) (ps := ["store", "value"]) KX G ?a15 ?l15 ?c15 ?k15 (fun _ _ _ _ _ _ us hl => match us, hl with | [_, _], _ => rfl) fun d_want_counts => ?m15
    (case a15 => k_is); (case l15 => k_is); (case c15 => k_is); (case k15 => k_is)
    refine' Tw.useDef (x := "want_above") (st := Tw.s_want_above) (ps := ["store", "board", "value"]) KX G ?a16 ?l16 ?c16 ?k16 (fun _ _ _ _ _ _ us hl => match us, hl with | [_, _, _], _ => rfl) fun d_want_above => ?m16
    (case a16 => k_is); (case l16 => k_is); (case c16 => k_is); (case k16 => k_is)
    refine' Tw.useDef (x := "want_end") (st := Tw.s_want_end) (ps := ["store", "board", "counts", "value"]) KX G ?a17 ?l17 ?c17 ?k17 (fun _ _ _ _ _ _ us hl => match us, hl with | [_, _, _, _], _ => rfl) fun d_want_end => ?m17
    (case a17 => k_is); (case l17 => k_is); (case c17 => k_is); (case k17 => k_is)
    refine' Tw.useDef (x := "want_ending") (st := Tw.s_want_ending) (ps := ["store", "board", "counts", "wished"]) KX G ?a18 ?l18 ?c18 ?k18 (fun _ _ _ _ _ _ us hl => match us, hl with | [_, _, _, _], _ => rfl) fun d_want_ending => ?m18
    (case a18 => k_is); (case l18 => k_is); (case c18 => k_is); (case k18 => k_is)
    refine' Tw.useDef (x := "least_number") (st := Tw.s_least_number) (ps := ["board", "kind"]) KX G ?a19 ?l19 ?c19 ?k19 (fun _ _ _ _ _ _ us hl => match us, hl with | [_, _], _ => rfl) fun d_least_number => ?m19
    (case a19 => k_is); (case l19 => k_is); (case c19 => k_is); (case k19 => k_is)
    refine' Tw.useDef (x := "places_of") (st := Tw.s_places_of) (ps := ["store", "board", "wished", "position"]) KX G ?a20 ?l20 ?c20 ?k20 (fun _ _ _ _ _ _ us hl => match us, hl with | [_, _, _, _], _ => rfl) fun d_places_of => ?m20
    (case a20 => k_is); (case l20 => k_is); (case c20 => k_is); (case k20 => k_is)
    refine' Tw.useDef (x := "pieces_of") (st := Tw.s_pieces_of) (ps := ["counts"]) KX G ?a21 ?l21 ?c21 ?k21 (fun _ _ _ _ _ _ us hl => match us, hl with | [_], _ => rfl) fun d_pieces_of => ?m21
    (case a21 => k_is); (case l21 => k_is); (case c21 => k_is); (case k21 => k_is)
    refine' Tw.useDef (x := "placed") (st := Tw.s_placed) (ps := ["piece", "pieces", "open_places", "taken", "met"]) KX G ?a22 ?l22 ?c22 ?k22 (fun _ _ _ _ _ _ us hl => match us, hl with | [_, _, _, _, _], _ => rfl) fun d_placed => ?m22
    (case a22 => k_is); (case l22 => k_is); (case c22 => k_is); (case k22 => k_is)
    refine' Tw.useDef (x := "moved_on") (st := Tw.s_moved_on) (ps := ["place", "way", "taken", "piece"]) KX G ?a23 ?l23 ?c23 ?k23 (fun _ _ _ _ _ _ us hl => match us, hl with | [_, _, _, _], _ => rfl) fun d_moved_on => ?m23
    (case a23 => k_is); (case l23 => k_is); (case c23 => k_is); (case k23 => k_is)
    refine' Tw.useDef (x := "dealing_of") (st := Tw.s_dealing_of) (ps := ["store", "board", "counts", "wished"]) KX G ?a24 ?l24 ?c24 ?k24 (fun _ _ _ _ _ _ us hl => match us, hl with | [_, _, _, _], _ => rfl) fun d_dealing_of => ?m24
    (case a24 => k_is); (case l24 => k_is); (case c24 => k_is); (case k24 => k_is)
    refine' Tw.useDef (x := "is_place") (st := Tw.s_is_place) (ps := ["value"]) KX G ?a25 ?l25 ?c25 ?k25 (fun _ _ _ _ _ _ us hl => match us, hl with | [_], _ => rfl) fun d_is_place => ?m25
    (case a25 => k_is); (case l25 => k_is); (case c25 => k_is); (case k25 => k_is)
    refine' Tw.useDef (x := "are_places") (st := Tw.s_are_places) (ps := ["value", "open_places", "many"]) KX G ?a26 ?l26 ?c26 ?k26 (fun _ _ _ _ _ _ us hl => match us, hl with | [_, _, _], _ => rfl) fun d_are_places => ?m26
    (case a26 => k_is); (case l26 => k_is); (case c26 => k_is); (case k26 => k_is)
    refine' Tw.useDef (x := "is_dealing_of") (st := Tw.s_is_dealing_of) (ps := ["store", "board", "counts", "wished", "value"]) KX G ?a27 ?l27 ?c27 ?k27 (fun _ _ _ _ _ _ us hl => match us, hl with | [_, _, _, _, _], _ => rfl) fun d_is_dealing_of => ?m27
    (case a27 => k_is); (case l27 => k_is); (case c27 => k_is); (case k27 => k_is)
    refine' Tw.useDef (x := "is_crowd_of") (st := Tw.s_is_crowd_of) (ps := ["store", "board", "counts", "wished", "value"]) KX G ?a28 ?l28 ?c28 ?k28 (fun _ _ _ _ _ _ us hl => match us, hl with | [_, _, _, _, _], _ => rfl) fun d_is_crowd_of => ?m28
    (case a28 => k_is); (case l28 => k_is); (case c28 => k_is); (case k28 => k_is)
    refine' Tw.useDef (x := "way_of") (st := Tw.s_way_of) (ps := ["store", "board", "counts", "wished"]) KX G ?a29 ?l29 ?c29 ?k29 (fun _ _ _ _ _ _ us hl => match us, hl with | [_, _, _, _], _ => rfl) fun d_way_of => ?m29
    (case a29 => k_is); (case l29 => k_is); (case c29 => k_is); (case k29 => k_is)
    refine' Tw.useDef (x := "dealing") (st := Tw.s_dealing) (ps := ["store", "board", "counts", "wished"]) KX G ?a31 ?l31 ?c31 ?k31 (fun _ _ _ _ _ _ us hl => match us, hl with | [_, _, _, _], _ => rfl) fun d_dealing => ?m31
    (case a31 => k_is); (case l31 => k_is); (case c31 => k_is); (case k31 => k_is)
    refine' Tw.useDef (x := "is_dealing") (st := Tw.s_is_dealing) (ps := ["store", "board", "counts", "wished", "value"]) KX G ?a32 ?l32 ?c32 ?k32 (fun _ _ _ _ _ _ us hl => match us, hl with | [_, _, _, _, _], _ => rfl) fun d_is_dealing => ?m32
    (case a32 => k_is); (case l32 => k_is); (case c32 => k_is); (case k32 => k_is)
    refine' Tw.useDef (x := "crowd") (st := Tw.s_crowd) (ps := ["store", "board", "counts", "wished"]) KX G ?a33 ?l33 ?c33 ?k33 (fun _ _ _ _ _ _ us hl => match us, hl with | [_, _, _, _], _ => rfl) fun d_crowd => ?m33
    (case a33 => k_is); (case l33 => k_is); (case c33 => k_is); (case k33 => k_is)
    refine' Tw.useDef (x := "is_crowd") (st := Tw.s_is_crowd) (ps := ["store", "board", "counts", "wished", "value"]) KX G ?a34 ?l34 ?c34 ?k34 (fun _ _ _ _ _ _ us hl => match us, hl with | [_, _, _, _, _], _ => rfl) fun d_is_crowd => ?m34
    (case a34 => k_is); (case l34 => k_is); (case c34 => k_is); (case k34 => k_is)
    refine' Tw.useDef (x := "told_way") (st := Tw.s_told_way) (ps := ["store", "board", "counts", "wished"]) KX G ?a35 ?l35 ?c35 ?k35 (fun _ _ _ _ _ _ us hl => match us, hl with | [_, _, _, _], _ => rfl) fun d_told_way => ?m35
    (case a35 => k_is); (case l35 => k_is); (case c35 => k_is); (case k35 => k_is)
    refine' Tw.useDef (x := "_law_pot") (st := Tw.s__law_pot) (ps := ["_law_script", "_law_k"]) KX G ?a36 ?l36 ?c36 ?k36 (fun _ _ _ _ _ _ us hl => match us, hl with | [_, _], _ => rfl) fun d__law_pot => ?m36
    (case a36 => k_is); (case l36 => k_is); (case c36 => k_is); (case k36 => k_is)
    refine' Tw.useDef (x := "_law_draw") (st := Tw.s__law_draw) (ps := ["_law_pot_here", "_law_many"]) KX G ?a37 ?l37 ?c37 ?k37 (fun _ _ _ _ _ _ us hl => match us, hl with | [_, _], _ => rfl) fun d__law_draw => ?m37
    (case a37 => k_is); (case l37 => k_is); (case c37 => k_is); (case k37 => k_is)
    refine' Tw.useDef (x := "_law_pick") (st := Tw.s__law_pick) (ps := ["_law_pot_here", "_law_some"]) KX G ?a38 ?l38 ?c38 ?k38 (fun _ _ _ _ _ _ us hl => match us, hl with | [_, _], _ => rfl) fun d__law_pick => ?m38
    (case a38 => k_is); (case l38 => k_is); (case c38 => k_is); (case k38 => k_is)
    refine' Tw.useDef (x := "_law_kinds") (st := Tw.s__law_kinds) (ps := ["_law_pot_here", "_law_shelves", "_law_least", "_law_most"]) KX G ?a39 ?l39 ?c39 ?k39 (fun _ _ _ _ _ _ us hl => match us, hl with | [_, _, _, _], _ => rfl) fun d__law_kinds => ?m39
    (case a39 => k_is); (case l39 => k_is); (case c39 => k_is); (case k39 => k_is)
    refine' Tw.useDef (x := "_law_store") (st := Tw.s__law_store) (ps := ["_law_shelves", "_law_kinds_here"]) KX G ?a40 ?l40 ?c40 ?k40 (fun _ _ _ _ _ _ us hl => match us, hl with | [_, _], _ => rfl) fun d__law_store => ?m40
    (case a40 => k_is); (case l40 => k_is); (case c40 => k_is); (case k40 => k_is)
    refine' Tw.useDef (x := "_law_after") (st := Tw.s__law_after) (ps := ["_law_board", "_law_kind"]) KX G ?a41 ?l41 ?c41 ?k41 (fun _ _ _ _ _ _ us hl => match us, hl with | [_, _], _ => rfl) fun d__law_after => ?m41
    (case a41 => k_is); (case l41 => k_is); (case c41 => k_is); (case k41 => k_is)
    refine' Tw.useDef (x := "_law_played") (st := Tw.s__law_played) (ps := ["_law_kinds_here", "_law_board", "_law_history"]) KX G ?a42 ?l42 ?c42 ?k42 (fun _ _ _ _ _ _ us hl => match us, hl with | [_, _, _], _ => rfl) fun d__law_played => ?m42
    (case a42 => k_is); (case l42 => k_is); (case c42 => k_is); (case k42 => k_is)
    refine' Tw.useDef (x := "_law_ends") (st := Tw.s__law_ends) (ps := ["_law_kinds_here", "_law_board", "_law_counts"]) KX G ?a43 ?l43 ?c43 ?k43 (fun _ _ _ _ _ _ us hl => match us, hl with | [_, _, _], _ => rfl) fun d__law_ends => ?m43
    (case a43 => k_is); (case l43 => k_is); (case c43 => k_is); (case k43 => k_is)
    refine' Tw.useDef (x := "_law_places") (st := Tw.s__law_places) (ps := ["_law_kinds_here", "_law_board", "_law_wished", "_law_position"]) KX G ?a44 ?l44 ?c44 ?k44 (fun _ _ _ _ _ _ us hl => match us, hl with | [_, _, _, _], _ => rfl) fun d__law_places => ?m44
    (case a44 => k_is); (case l44 => k_is); (case c44 => k_is); (case k44 => k_is)
    refine' Tw.useDef (x := "_law_is_dealing") (st := Tw.s__law_is_dealing) (ps := ["_law_kinds_here", "_law_board", "_law_counts", "_law_wished", "_law_value"]) KX G ?a45 ?l45 ?c45 ?k45 (fun _ _ _ _ _ _ us hl => match us, hl with | [_, _, _, _, _], _ => rfl) fun d__law_is_dealing => ?m45
    (case a45 => k_is); (case l45 => k_is); (case c45 => k_is); (case k45 => k_is)
    refine' Tw.useDef (x := "_law_is_crowd") (st := Tw.s__law_is_crowd) (ps := ["_law_kinds_here", "_law_board", "_law_counts", "_law_wished", "_law_lot"]) KX G ?a46 ?l46 ?c46 ?k46 (fun _ _ _ _ _ _ us hl => match us, hl with | [_, _, _, _, _], _ => rfl) fun d__law_is_crowd => ?m46
    (case a46 => k_is); (case l46 => k_is); (case c46 => k_is); (case k46 => k_is)
    refine' Tw.useDef (x := "_law_more") (st := Tw.s__law_more) (ps := ["_law_pot_here", "_law_board", "_law_many"]) KX G ?a47 ?l47 ?c47 ?k47 (fun _ _ _ _ _ _ us hl => match us, hl with | [_, _, _], _ => rfl) fun d__law_more => ?m47
    (case a47 => k_is); (case l47 => k_is); (case c47 => k_is); (case k47 => k_is)
    refine' Tw.useDef (x := "_law_one_right") (st := Tw.s__law_one_right) (ps := ["_law_store_here", "_law_kinds_here", "_law_board", "_law_counts", "_law_wished", "_law_due"]) KX G ?a48 ?l48 ?c48 ?k48 (fun _ _ _ _ _ _ us hl => match us, hl with | [_, _, _, _, _, _], _ => rfl) fun d__law_one_right => ?m48
    (case a48 => k_is); (case l48 => k_is); (case c48 => k_is); (case k48 => k_is)
    refine' Tw.useDef (x := "_law_right") (st := Tw.s__law_right) (ps := ["_law_pot_here"]) KX G ?a49 ?l49 ?c49 ?k49 (fun _ _ _ _ _ _ us hl => match us, hl with | [_], _ => rfl) fun d__law_right => ?m49
    (case a49 => k_is); (case l49 => k_is); (case c49 => k_is); (case k49 => k_is)
    refine' Tw.useKw KX G ?ae ?le ?ce ?ke fun d_can_end kb_can_end => ?me
    (case ae => k_is); (case le => k_is); (case ce => k_is); (case ke => k_is)
    refine' Tw.useLaw KX G ?aw ?lw ?cw ?kw fun d_law hb => ?mw
    (case aw => k_is); (case lw => k_is); (case cw => k_is); (case kw => k_is)
    refine' (fun (st : Tw.StoreTxt _ mg) => ?ms) (Tw.mkStore KX G ?aC ?a1 ?e1 ?l ?c ?k ?pg ?hd ?po ?sa ?mk ?kc ?n1 ?n2 ?n3 ?n4 ?i1 ?i2 ?i3 ?i4)
    (case aC => k_is); (case a1 => k_is); (case e1 => k_is); (case l => k_is); (case c => k_is); (case k => k_is)
    (case pg => k_is); (case hd => k_is); (case po => k_is); (case sa => k_is); (case mk => k_is); (case kc => k_is)
    (case n1 => k_is); (case n2 => k_is); (case n3 => k_is); (case n4 => k_is); (case i1 => k_is); (case i2 => k_is); (case i3 => k_is); (case i4 => k_is)
    refine' Tw.useTok (x := "LEAST_SHELVES") (i := 2) KX G ?tLEAST_SHELVES fun t_LEAST_SHELVES c_LEAST_SHELVES => ?mLEAST_SHELVES
    (case tLEAST_SHELVES => k_is)
    refine' Tw.useTok (x := "MOST_SHELVES") (i := 8) KX G ?tMOST_SHELVES fun t_MOST_SHELVES c_MOST_SHELVES => ?mMOST_SHELVES
    (case tMOST_SHELVES => k_is)
    refine' Tw.useTok (x := "MOST_KINDS") (i := 8) KX G ?tMOST_KINDS fun t_MOST_KINDS c_MOST_KINDS => ?mMOST_KINDS
    (case tMOST_KINDS => k_is)
    refine' Tw.useTok (x := "MOST_PIECES") (i := 60) KX G ?tMOST_PIECES fun t_MOST_PIECES c_MOST_PIECES => ?mMOST_PIECES
    (case tMOST_PIECES => k_is)
    refine' Tw.useTok (x := "MOST_OF_KIND") (i := 20) KX G ?tMOST_OF_KIND fun t_MOST_OF_KIND c_MOST_OF_KIND => ?mMOST_OF_KIND
    (case tMOST_OF_KIND => k_is)
    refine' Tw.useNo (x := "len") KX G ?zlen fun b_len => ?ylen
    (case zlen => k_is)
    refine' Tw.useNo (x := "isinstance") KX G ?zisinstance fun b_isinstance => ?yisinstance
    (case zisinstance => k_is)
    refine' Tw.useNo (x := "all") KX G ?zall fun b_all => ?yall
    (case zall => k_is)
    refine' Tw.useNo (x := "sum") KX G ?zsum fun b_sum => ?ysum
    (case zsum => k_is)
    refine' Tw.useNo (x := "min") KX G ?zmin fun b_min => ?ymin
    (case zmin => k_is)
    refine' Tw.useNo (x := "max") KX G ?zmax fun b_max => ?ymax
    (case zmax => k_is)
    refine' Tw.useNo (x := "abs") KX G ?zabs fun b_abs => ?yabs
    (case zabs => k_is)
    refine' Tw.useNo (x := "divmod") KX G ?zdivmod fun b_divmod => ?ydivmod
    (case zdivmod => k_is)
    refine' Tw.useNo (x := "repr") KX G ?zrepr fun b_repr => ?yrepr
    (case zrepr => k_is)
    refine' Tw.useNo (x := "sorted") KX G ?zsorted fun b_sorted => ?ysorted
    (case zsorted => k_is)
    refine' Tw.useNo (x := "int") KX G ?zint fun b_int => ?yint
    (case zint => k_is)
    refine' Tw.useNo (x := "bool") KX G ?zbool fun b_bool => ?ybool
    (case zbool => k_is)
    refine' Tw.useNo (x := "list") KX G ?zlist fun b_list => ?ylist
    (case zlist => k_is)
    refine' Tw.useNo (x := "tuple") KX G ?ztuple fun b_tuple => ?ytuple
    (case ztuple => k_is)
    refine' Tw.useNo (x := "set") KX G ?zset fun b_set => ?yset
    (case zset => k_is)
    refine' Tw.useNo (x := "range") KX G ?zrange fun b_range => ?yrange
    (case zrange => k_is)
    refine' Tw.useNo (x := "enumerate") KX G ?zenumerate fun b_enumerate => ?yenumerate
    (case zenumerate => k_is)
    refine' Tw.useNo (x := "zip") KX G ?zzip fun b_zip => ?yzip
    (case zzip => k_is)
    exact Tw.fin hmg { st := st, d_is_integer := d_is_integer, d_is_count := d_is_count, d_is_list := d_is_list, d_are_shelves := d_are_shelves, d_want_shelves := d_want_shelves, d_is_lot_of := d_is_lot_of, d_bits_of := d_bits_of, d_spots_of := d_spots_of, d_told_lot := d_told_lot, d_is_kind := d_is_kind, d_are_kinds := d_are_kinds, d_plain_kinds := d_plain_kinds, d_want_store := d_want_store, d_is_board_of := d_is_board_of, d_want_board := d_want_board, d_want_counts := d_want_counts, d_want_above := d_want_above, d_want_end := d_want_end, d_want_ending := d_want_ending, d_least_number := d_least_number, d_places_of := d_places_of, d_pieces_of := d_pieces_of, d_placed := d_placed, d_moved_on := d_moved_on, d_dealing_of := d_dealing_of, d_is_place := d_is_place, d_are_places := d_are_places, d_is_dealing_of := d_is_dealing_of, d_is_crowd_of := d_is_crowd_of, d_way_of := d_way_of, d_can_end := d_can_end, d_dealing := d_dealing, d_is_dealing := d_is_dealing, d_crowd := d_crowd, d_is_crowd := d_is_crowd, d_told_way := d_told_way, d__law_pot := d__law_pot, d__law_draw := d__law_draw, d__law_pick := d__law_pick, d__law_kinds := d__law_kinds, d__law_store := d__law_store, d__law_after := d__law_after, d__law_played := d__law_played, d__law_ends := d__law_ends, d__law_places := d__law_places, d__law_is_dealing := d__law_is_dealing, d__law_is_crowd := d__law_is_crowd, d__law_more := d__law_more, d__law_one_right := d__law_one_right, d__law_right := d__law_right, d_law := d_law, kb_can_end := kb_can_end, b_len := b_len, b_isinstance := b_isinstance, b_all := b_all, b_sum := b_sum, b_min := b_min, b_max := b_max, b_abs := b_abs, b_divmod := b_divmod, b_repr := b_repr, b_sorted := b_sorted, b_int := b_int, b_bool := b_bool, b_list := b_list, b_tuple := b_tuple, b_set := b_set, b_range := b_range, b_enumerate := b_enumerate, b_zip := b_zip, t_LEAST_SHELVES := t_LEAST_SHELVES, c_LEAST_SHELVES := c_LEAST_SHELVES, t_MOST_SHELVES := t_MOST_SHELVES, c_MOST_SHELVES := c_MOST_SHELVES, t_MOST_KINDS := t_MOST_KINDS, c_MOST_KINDS := c_MOST_KINDS, t_MOST_PIECES := t_MOST_PIECES, c_MOST_PIECES := c_MOST_PIECES, t_MOST_OF_KIND := t_MOST_OF_KIND, c_MOST_OF_KIND := c_MOST_OF_KIND } hb)
