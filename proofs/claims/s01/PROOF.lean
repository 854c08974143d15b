import PyProof.Rows.All
import Wide.All
import OpenK.AllK
import Wide.FinOn
import Open.SpecLaws
import KE.OsHead
import KE.OsGo
import HandS.ForSpec
import HandS.Comp
import HandS.Iter
import HandS.Walk
import HandS.Text
import HandS.Evl
import HandS.Conv
import HandS.Style
import HandS.SortRule
import HandS.CallLocal
import PyFlatLaws
import PySr120
import PySem.Challenge.RW_tendwall_s01_answers
set_option Elab.async false
set_option linter.all false
set_option maxRecDepth 100000
set_option maxHeartbeats 4000000
/-! The plain law: no program in sight. -/
namespace Tw
open Sr120
/-! ### sums by place -/
def sumTo (f : Nat → Nat) : Nat → Nat
  | 0 => 0
  | k + 1 => sumTo f k + f k
theorem sumTo_shift (f : Nat → Nat) : ∀ n, sumTo f (n + 1) = f 0 + sumTo (fun k => f (k + 1)) n
  | 0 => by simp [sumTo]
  | n + 1 => by
    have ih := sumTo_shift f n
    show sumTo f (n + 1) + f (n + 1) = f 0 + (sumTo (fun k => f (k + 1)) n + f (n + 1))
    omega
theorem sumTo_congr {f g : Nat → Nat} : ∀ n, (∀ k, k < n → f k = g k) → sumTo f n = sumTo g n
  | 0, _ => rfl
  | n + 1, h => by
    show sumTo f n + f n = sumTo g n + g n
    rw [sumTo_congr n fun k hk => h k (Nat.lt_succ_of_lt hk), h n (Nat.lt_succ_self n)]
theorem sumTo_le {f : Nat → Nat} {c : Nat} : ∀ n, (∀ k, k < n → f k ≤ c) → sumTo f n ≤ c * n
  | 0, _ => Nat.zero_le _
  | n + 1, h => by
    have a := sumTo_le n fun k hk => h k (Nat.lt_succ_of_lt hk)
    have b := h n (Nat.lt_succ_self n)
    show sumTo f n + f n ≤ c * (n + 1)
    rw [Nat.mul_succ]
    omega
def dist (w : Workshop) (i j : Nat) : Nat := Sr120.distance (machineAt w i).position (machineAt w j).position
def serv (w : Workshop) (i : Nat) : Nat := (machineAt w i).serviceTime
def rnd (w : Workshop) (i : Nat) : Nat := (machineAt w i).runTime + (machineAt w i).serviceTime
def nxt (ts : List Nat) (k : Nat) : Nat := ts.getD ((k + 1) % ts.length) 0
theorem nxt_lt {ts : List Nat} {k : Nat} (h : k + 1 < ts.length) : nxt ts k = ts.getD (k + 1) 0 := by
  unfold nxt
  rw [Nat.mod_eq_of_lt h]
theorem nxt_last {ts : List Nat} {k : Nat} (h : k + 1 = ts.length) : nxt ts k = ts.headD 0 := by
  unfold nxt
  rw [h, Nat.mod_self]
  cases ts <;> rfl
def walkM (w : Workshop) (ts : List Nat) (n : Nat) : Nat := sumTo (fun j => dist w (ts.getD j 0) (nxt ts j)) n
theorem walkFrom_eq (w : Workshop) (first : Nat) : ∀ l : List Nat, walkFrom w first l = sumTo (fun j => dist w (l.getD j 0) (if j + 1 < l.length then l.getD (j + 1) 0 else first)) l.length
  | [] => rfl
  | [i] => by
    show dist w i first = 0 + dist w i first
    omega
  | i :: j :: rest => by
    have ih := walkFrom_eq w first (j :: rest)
    show dist w i j + walkFrom w first (j :: rest) = sumTo _ ((j :: rest).length + 1)
    rw [sumTo_shift, ih]
    congr 1
    refine sumTo_congr _ fun k hk => ?_
    show dist w ((j :: rest).getD k 0) _ = dist w ((j :: rest).getD k 0) _
    congr 1
    by_cases h : k + 1 < (j :: rest).length
    · rw [if_pos h, if_pos (by show k + 1 + 1 < (j :: rest).length + 1; omega)]
      rfl
    · rw [if_neg h, if_neg (by show ¬ k + 1 + 1 < (j :: rest).length + 1; omega)]
theorem walk_eq (w : Workshop) (ts : List Nat) : walkM w ts ts.length = walkTime w ts := by
  unfold walkTime walkM
  rw [walkFrom_eq]
  refine sumTo_congr _ fun k hk => ?_
  congr 1
  by_cases h : k + 1 < ts.length
  · rw [if_pos h, nxt_lt h]
  · rw [if_neg h, nxt_last (by omega)]
/-! ### start times -/
def timeM (w : Workshop) (ts : List Nat) (k : Nat) : Nat := sumTo (fun j => serv w (ts.getD j 0) + dist w (ts.getD j 0) (nxt ts j)) k
theorem startFrom_eq (w : Workshop) : ∀ (l : List Nat) (t : Nat), startTimesFrom w l t = (List.range l.length).map fun k => t + sumTo (fun j => serv w (l.getD j 0) + dist w (l.getD j 0) (l.getD (j + 1) 0)) k
  | [], t => rfl
  | [i], t => by simp [startTimesFrom, sumTo]
  | i :: j :: rest, t => by
    have ih := startFrom_eq w (j :: rest) (t + serv w i + dist w i j)
    show t :: startTimesFrom w (j :: rest) (t + serv w i + dist w i j) = (List.range ((j :: rest).length + 1)).map _
    rw [ih, List.range_succ_eq_map, List.map_cons, List.map_map]
    congr 1
    refine List.map_congr_left fun k _ => ?_
    show _ = t + sumTo _ (k + 1)
    rw [sumTo_shift]
    show t + serv w i + dist w i j + _ = t + (serv w i + dist w i j + _)
    rw [Nat.add_assoc t, Nat.add_assoc t]
    rfl
theorem start_eq (w : Workshop) (ts : List Nat) : (List.range ts.length).map (timeM w ts) = startTimes w ts := by
  unfold startTimes
  rw [startFrom_eq]
  refine List.map_congr_left fun k hk => ?_
  rw [Nat.zero_add]
  refine sumTo_congr _ fun j hj => ?_
  have hk' := List.mem_range.mp hk
  rw [nxt_lt (by omega)]
/-! ### cycle time -/
theorem foldl_max (l : List Nat) : ∀ a, l.foldl max a = max a (l.foldl max 0) := by
  induction l with
  | nil => intro a; simp
  | cons x r ih =>
    intro a
    rw [List.foldl_cons, List.foldl_cons, ih (max a x), ih (max 0 x)]
    omega
def cycM (w : Workshop) (ts : List Nat) (k : Nat) : Nat := ((ts.take k).map (rnd w)).foldl max (busyTime w ts)
theorem cyc_eq (w : Workshop) (ts : List Nat) : cycM w ts ts.length = cycleTime w ts := by
  unfold cycM cycleTime longestMachineCycle
  rw [List.take_length, foldl_max]
  rfl
theorem foldl_add (l : List Nat) : ∀ a, l.foldl (· + ·) a = a + l.foldl (· + ·) 0 := by
  induction l with
  | nil => intro a; rfl
  | cons x r ih =>
    intro a
    rw [List.foldl_cons, List.foldl_cons, ih (a + x), ih (0 + x)]
    omega
theorem sum_cons (x : Nat) (l : List Nat) : SrCommon.sum (x :: l) = x + SrCommon.sum l := by
  show (x :: l).foldl (· + ·) 0 = _
  rw [List.foldl_cons, foldl_add]
  show 0 + x + l.foldl (· + ·) 0 = x + l.foldl (· + ·) 0
  omega
theorem sum_map_int (g : Nat → Nat) : ∀ l : List Nat, (l.map fun i => ((g i : Nat) : Int)).sum = ((SrCommon.sum (l.map g) : Nat) : Int)
  | [] => rfl
  | x :: r => by
    rw [List.map_cons, List.map_cons, List.sum_cons, sum_map_int g r, sum_cons]
    omega
theorem max_perm {l m : List Nat} (h : l.Perm m) : l.foldl max 0 = m.foldl max 0 := by
  induction h with
  | nil => rfl
  | cons x _ ih => rw [List.foldl_cons, List.foldl_cons, foldl_max, foldl_max _ (max 0 x), ih]
  | swap x y l =>
    simp only [List.foldl_cons]
    congr 1
    omega
  | trans _ _ a b => exact a.trans b
theorem sum_perm {l m : List Nat} (h : l.Perm m) : SrCommon.sum l = SrCommon.sum m := by
  induction h with
  | nil => rfl
  | cons x _ ih => rw [sum_cons, sum_cons, ih]
  | swap x y l =>
    rw [sum_cons, sum_cons, sum_cons, sum_cons]
    omega
  | trans _ _ a b => exact a.trans b
theorem le_foldl_max : ∀ {l : List Nat} {x : Nat}, x ∈ l → x ≤ l.foldl max 0
  | a :: l, x, h => by
    rw [List.foldl_cons, foldl_max]
    rcases List.mem_cons.mp h with e | h
    · omega
    · have := le_foldl_max h
      omega
theorem rnd_le_cycle {w : Workshop} {ts : List Nat} {i : Nat} (h : i ∈ ts) : rnd w i ≤ cycleTime w ts := by
  have a : rnd w i ≤ longestMachineCycle w ts := le_foldl_max (List.mem_map.mpr ⟨i, h, rfl⟩)
  unfold cycleTime
  omega
/-! ### permutations -/
def pre : Nat → List Nat → List (List Nat)
  | 0, _ => [[]]
  | k + 1, l => l.flatMap fun i => (pre k (l.filter fun j => j != i)).map fun r => i :: r
def oneMore (rows : List (List Nat)) (l : List Nat) : List (List Nat) := rows.flatMap fun r => (l.filter fun i => !r.contains i).map fun i => r ++ [i]
def ordersM (l : List Nat) : Nat → List (List Nat)
  | 0 => [[]]
  | k + 1 => oneMore (ordersM l k) l
theorem pre_more : ∀ (k : Nat) (l : List Nat), pre (k + 1) l = oneMore (pre k l) l
  | 0, l => by
    show l.flatMap (fun i => [[i]]) = _
    unfold oneMore pre
    rw [List.flatMap_cons, List.flatMap_nil, List.append_nil]
    induction l with
    | nil => rfl
    | cons a l ih =>
      rw [List.flatMap_cons, ih]
      simp
  | k + 1, l => by
    have e : pre (k + 2) l = l.flatMap fun i => (pre (k + 1) (l.filter fun j => j != i)).map fun r => i :: r := rfl
    rw [e]
    have e2 : pre (k + 1) l = l.flatMap fun i => (pre k (l.filter fun j => j != i)).map fun r => i :: r := rfl
    conv => rhs; rw [e2]
    unfold oneMore
    rw [List.flatMap_assoc]
    congr 1
    funext i
    rw [pre_more k, oneMore, List.map_flatMap, List.flatMap_map]
    congr 1
    funext r
    rw [List.map_map, List.filter_filter]
    have e3 : (fun a : Nat => !r.contains a && a != i) = fun a => !(i :: r).contains a := by
      funext a
      rw [List.contains_cons]
      cases h1 : r.contains a <;> cases h2 : (a == i) <;> simp [bne, h2]
    rw [e3]
    rfl
theorem orders_pre (l : List Nat) : ∀ k, ordersM l k = pre k l
  | 0 => rfl
  | k + 1 => by
    rw [pre_more, ← orders_pre l k]
    rfl
theorem filter_ne_length {l : List Nat} (hn : l.Nodup) {i : Nat} (hi : i ∈ l) : (l.filter fun j => j != i).length + 1 = l.length := by
  have e := hn.erase_eq_filter i
  rw [← e, List.length_erase_of_mem hi]
  have := List.length_pos_of_mem hi
  omega
theorem pre_perms : ∀ (k : Nat) (l : List Nat), l.Nodup → l.length = k → pre k l = permutations k l
  | 0, _, _, _ => rfl
  | k + 1, l, hn, hl => by
    show _ = if l = [] then [[]] else l.flatMap fun i => (permutations k (l.filter fun j => j != i)).map fun rest => i :: rest
    rw [if_neg (by intro e; rw [e] at hl; cases hl)]
    show l.flatMap _ = _
    have h : ∀ i ∈ l, (pre k (l.filter fun j => j != i)).map (fun r => i :: r) = (permutations k (l.filter fun j => j != i)).map fun r => i :: r := fun i hi => by
      rw [pre_perms k _ (hn.filter _) (by have := filter_ne_length hn hi; omega)]
    clear hn hl
    rw [List.flatMap_def, List.flatMap_def, List.map_congr_left h]
theorem orders_eq {l : List Nat} (hn : l.Nodup) : ordersM l l.length = permutations l.length l := by
  rw [orders_pre, pre_perms _ _ hn rfl]
theorem perms_sound : ∀ (k : Nat) (l t : List Nat), l.Nodup → l.length = k → t ∈ permutations k l → t.Perm l
  | 0, l, t, _, hl, h => by
    have e : l = [] := List.length_eq_zero_iff.mp hl
    subst e
    have h' : t ∈ [([] : List Nat)] := h
    rw [List.mem_singleton] at h'
    subst h'
    exact .nil
  | k + 1, l, t, hn, hl, h => by
    have h' : t ∈ (if l = [] then [[]] else l.flatMap fun i => (permutations k (l.filter fun j => j != i)).map fun rest => i :: rest) := h
    rw [if_neg (by intro e; rw [e] at hl; cases hl), List.mem_flatMap] at h'
    obtain ⟨i, hi, h'⟩ := h'
    obtain ⟨r, hr, e⟩ := List.mem_map.mp h'
    subst e
    have ih := perms_sound k _ r (hn.filter _) (by have := filter_ne_length hn hi; omega) hr
    rw [← hn.erase_eq_filter] at ih
    exact (ih.cons i).trans (List.perm_cons_erase hi).symm
theorem perms_all : ∀ (k : Nat) (l t : List Nat), l.Nodup → l.length = k → t.Perm l → t ∈ permutations k l
  | 0, l, t, _, hl, h => by
    have e : l = [] := List.length_eq_zero_iff.mp hl
    subst e
    rw [h.eq_nil]
    exact List.mem_singleton.mpr rfl
  | k + 1, l, t, hn, hl, h => by
    show t ∈ (if l = [] then [[]] else l.flatMap fun i => (permutations k (l.filter fun j => j != i)).map fun rest => i :: rest)
    rw [if_neg (by intro e; rw [e] at hl; cases hl), List.mem_flatMap]
    cases t with
    | nil =>
      have e := h.length_eq
      rw [hl] at e
      cases e
    | cons i r =>
      have hi : i ∈ l := h.subset (List.mem_cons_self ..)
      refine ⟨i, hi, List.mem_map.mpr ⟨r, ?_, rfl⟩⟩
      refine perms_all k _ r (hn.filter _) (by have := filter_ne_length hn hi; omega) ?_
      rw [← hn.erase_eq_filter]
      have h2 := h.erase i
      rw [List.erase_cons_head] at h2
      exact h2
theorem perms_head : ∀ l : List Nat, l.Nodup → ∃ r, permutations l.length l = l :: r
  | [], _ => ⟨[], rfl⟩
  | i :: l, hn => by
    obtain ⟨r, e⟩ := perms_head l (List.nodup_cons.mp hn).2
    have hf : (i :: l).filter (fun j => j != i) = l := by
      rw [List.filter_cons, if_neg (by simp)]
      refine List.filter_eq_self.mpr fun j hj => ?_
      have : j ≠ i := fun q => (List.nodup_cons.mp hn).1 (q ▸ hj)
      simp [this]
    have e2 : permutations (i :: l).length (i :: l) = (i :: l).flatMap fun i' => (permutations l.length ((i :: l).filter fun j => j != i')).map fun rest => i' :: rest := by
      show (if i :: l = [] then [[]] else _) = _
      rw [if_neg (by intro q; cases q)]
    rw [e2, List.flatMap_cons, hf, e, List.map_cons]
    exact ⟨_, rfl⟩
/-! ### the best tour -/
def betterM (w : Workshop) (b : List Nat × Nat) (t : List Nat) : List Nat × Nat := if cycleTime w t < b.2 then (t, cycleTime w t) else b
def bestM (w : Workshop) (l : List Nat) (L : List (List Nat)) : List Nat × Nat := L.foldl (betterM w) (l, cycleTime w l)
theorem opt_fold {w : Workshop} {f : Option (List Nat × Nat) → List Nat → Option (List Nat × Nat)} (hf : ∀ b t, f (some b) t = some (betterM w b t)) : ∀ (L : List (List Nat)) (b : List Nat × Nat), L.foldl f (some b) = some (L.foldl (betterM w) b)
  | [], b => rfl
  | t :: L, b => by
    rw [List.foldl_cons, List.foldl_cons, hf]
    exact opt_fold hf L _
theorem best_eq {w : Workshop} {l : List Nat} (hn : l.Nodup) : (bestM w l (ordersM l l.length)).1 = bestTour w l := by
  rw [orders_eq hn]
  obtain ⟨r, e⟩ := perms_head l hn
  unfold bestTour
  rw [e, List.foldl_cons]
  show _ = (Option.map (fun b => b.1) (r.foldl _ (some (l, cycleTime w l)))).getD []
  rw [opt_fold (w := w) (fun b t => by
    show (if cycleTime w t < b.2 then some (t, cycleTime w t) else some b) = some (betterM w b t)
    unfold betterM
    split <;> rfl)]
  show _ = (r.foldl (betterM w) (l, cycleTime w l)).1
  unfold bestM
  rw [List.foldl_cons]
  have e2 : betterM w (l, cycleTime w l) l = (l, cycleTime w l) := by
    unfold betterM
    rw [if_neg (Nat.lt_irrefl _)]
  rw [e2]
theorem best_inv (w : Workshop) : ∀ (L : List (List Nat)) (b : List Nat × Nat), b.2 = cycleTime w b.1 → (L.foldl (betterM w) b).2 = cycleTime w (L.foldl (betterM w) b).1 ∧ ((L.foldl (betterM w) b).1 = b.1 ∨ (L.foldl (betterM w) b).1 ∈ L) ∧
    (L.foldl (betterM w) b).2 ≤ b.2 ∧ ∀ t ∈ L, (L.foldl (betterM w) b).2 ≤ cycleTime w t
  | [], b, h => ⟨h, .inl rfl, Nat.le_refl _, fun t ht => nomatch ht⟩
  | t :: L, b, h => by
    have hb : (betterM w b t).2 = cycleTime w (betterM w b t).1 := by
      unfold betterM
      split
      · rfl
      · exact h
    obtain ⟨a1, a2, a3, a4⟩ := best_inv w L _ hb
    have h1 : (betterM w b t).2 ≤ b.2 ∧ (betterM w b t).2 ≤ cycleTime w t ∧ ((betterM w b t).1 = b.1 ∨ (betterM w b t).1 = t) := by
      unfold betterM
      split
      · exact ⟨by dsimp only; omega, Nat.le_refl _, .inr rfl⟩
      · exact ⟨Nat.le_refl _, by omega, .inl rfl⟩
    rw [List.foldl_cons]
    refine ⟨a1, ?_, by omega, fun u hu => ?_⟩
    · rcases a2 with q | q
      · rcases h1.2.2 with p | p
        · exact .inl (q.trans p)
        · exact .inr (by rw [q, p]; exact List.mem_cons_self ..)
      · exact .inr (List.mem_cons_of_mem _ q)
    · rcases List.mem_cons.mp hu with q | q
      · rw [q]
        omega
      · exact a4 u q
theorem best_min {w : Workshop} {l : List Nat} (hn : l.Nodup) : (bestTour w l).Perm l ∧ ∀ t, t.Perm l → cycleTime w (bestTour w l) ≤ cycleTime w t := by
  obtain ⟨a1, a2, a3, a4⟩ := best_inv w (permutations l.length l) (l, cycleTime w l) rfl
  have e := best_eq (w := w) hn
  rw [orders_eq hn] at e
  unfold bestM at e
  rw [e] at a1 a2
  refine ⟨?_, fun t ht => ?_⟩
  · rcases a2 with q | q
    · rw [q]
    · exact perms_sound _ _ _ hn rfl q
  · rw [← a1]
    exact a4 t (perms_all _ _ _ hn rfl ht)
end Tw
/-! The plain law, second part: the wall order is optimal; sorted pairs; groups; schedules. -/
namespace Tw
open Sr120
structure Valid (w : Workshop) : Prop where
  len : w.length ≤ 6
  ok : ∀ m ∈ w, m.position ≤ 99 ∧ m.runTime ≤ 99 ∧ 1 ≤ m.serviceTime ∧ m.serviceTime ≤ 99
theorem Valid.le {w : Workshop} (h : Valid w) (i : Nat) : (machineAt w i).position ≤ 99 ∧ (machineAt w i).runTime ≤ 99 ∧ (machineAt w i).serviceTime ≤ 99 := by
  unfold machineAt
  rw [List.getD_eq_getElem?_getD]
  cases e : w[i]? with
  | none => exact ⟨by decide, by decide, by decide⟩
  | some m =>
    have := h.ok m (List.mem_of_getElem? e)
    exact ⟨this.1, this.2.1, this.2.2.2⟩
theorem Valid.pos {w : Workshop} (h : Valid w) {i : Nat} (hi : i < w.length) : 1 ≤ (machineAt w i).serviceTime := by
  unfold machineAt
  rw [List.getD_eq_getElem?_getD, List.getElem?_eq_getElem hi]
  exact (h.ok _ (List.getElem_mem hi)).2.2.1
abbrev pos (w : Workshop) (i : Nat) : Nat := (machineAt w i).position
/-! ### walking -/
theorem walk_one (w : Workshop) (f b : Nat) : ∀ (rest : List Nat) (i : Nat), b ∈ i :: rest → Sr120.distance (pos w i) (pos w b) + Sr120.distance (pos w b) (pos w f) ≤ walkFrom w f (i :: rest)
  | [], i, hb => by
    have e : b = i := List.mem_singleton.mp hb
    subst e
    show _ ≤ Sr120.distance (pos w b) (pos w f)
    unfold Sr120.distance
    omega
  | j :: rest, i, hb => by
    show _ ≤ Sr120.distance (pos w i) (pos w j) + walkFrom w f (j :: rest)
    rcases List.mem_cons.mp hb with e | h
    · subst e
      have ih := walk_one w f j rest j (List.mem_cons_self ..)
      unfold Sr120.distance at ih ⊢
      omega
    · have ih := walk_one w f b rest j h
      unfold Sr120.distance at ih ⊢
      omega
theorem walk_two (w : Workshop) (f a b : Nat) : ∀ (rest : List Nat) (i : Nat), a ∈ i :: rest → b ∈ i :: rest →
    Sr120.distance (pos w i) (pos w a) + Sr120.distance (pos w a) (pos w b) + Sr120.distance (pos w b) (pos w f) ≤ walkFrom w f (i :: rest) ∨
    Sr120.distance (pos w i) (pos w b) + Sr120.distance (pos w b) (pos w a) + Sr120.distance (pos w a) (pos w f) ≤ walkFrom w f (i :: rest)
  | [], i, ha, hb => by
    have e : b = i := List.mem_singleton.mp hb
    have e2 : a = i := List.mem_singleton.mp ha
    subst e2
    subst e
    left
    show _ ≤ Sr120.distance (pos w b) (pos w f)
    unfold Sr120.distance
    omega
  | j :: rest, i, ha, hb => by
    show _ ≤ Sr120.distance (pos w i) (pos w j) + walkFrom w f (j :: rest) ∨ _ ≤ Sr120.distance (pos w i) (pos w j) + walkFrom w f (j :: rest)
    rcases List.mem_cons.mp ha with e | ha'
    · subst e
      rcases List.mem_cons.mp hb with e2 | hb'
      · subst e2
        have ih := walk_one w f j rest j (List.mem_cons_self ..)
        left
        unfold Sr120.distance at ih ⊢
        omega
      · have ih := walk_one w f b rest j hb'
        left
        unfold Sr120.distance at ih ⊢
        omega
    · rcases List.mem_cons.mp hb with e2 | hb'
      · subst e2
        have ih := walk_one w f a rest j ha'
        right
        unfold Sr120.distance at ih ⊢
        omega
      · rcases walk_two w f a b rest j ha' hb' with ih | ih
        · left
          unfold Sr120.distance at ih ⊢
          omega
        · right
          unfold Sr120.distance at ih ⊢
          omega
theorem walk_low {w : Workshop} {t : List Nat} {a b : Nat} (ha : a ∈ t) (hb : b ∈ t) : 2 * Sr120.distance (pos w a) (pos w b) ≤ walkTime w t := by
  cases t with
  | nil => cases ha
  | cons i rest =>
    show _ ≤ walkFrom w i (i :: rest)
    rcases walk_two w i a b rest i ha hb with h | h <;> (unfold Sr120.distance at h ⊢; omega)
theorem walk_sorted (w : Workshop) (f : Nat) : ∀ (rest : List Nat) (i : Nat), (i :: rest).Pairwise (fun a b => pos w a ≤ pos w b) →
    ∃ z, z ∈ i :: rest ∧ pos w i ≤ pos w z ∧ walkFrom w f (i :: rest) = (pos w z - pos w i) + Sr120.distance (pos w z) (pos w f)
  | [], i, _ => ⟨i, List.mem_cons_self .., Nat.le_refl _, by
    show Sr120.distance (pos w i) (pos w f) = _
    omega⟩
  | j :: rest, i, h => by
    obtain ⟨h1, h2⟩ := List.pairwise_cons.mp h
    obtain ⟨z, hz, hle, e⟩ := walk_sorted w f rest j h2
    have hij := h1 j (List.mem_cons_self ..)
    refine ⟨z, List.mem_cons_of_mem _ hz, by omega, ?_⟩
    show Sr120.distance (pos w i) (pos w j) + walkFrom w f (j :: rest) = _
    rw [e]
    unfold Sr120.distance
    omega
/-! ### the wall order -/
theorem insert_perm (w : Workshop) (i : Nat) : ∀ l, (insertByPosition w i l).Perm (i :: l)
  | [] => List.Perm.refl _
  | j :: l => by
    show (if (machineAt w i).position < (machineAt w j).position then i :: j :: l else j :: insertByPosition w i l).Perm _
    split
    · exact List.Perm.refl _
    · exact ((insert_perm w i l).cons j).trans (List.Perm.swap i j l)
theorem insert_sorted (w : Workshop) (i : Nat) : ∀ l, l.Pairwise (fun a b => pos w a ≤ pos w b) → (insertByPosition w i l).Pairwise (fun a b => pos w a ≤ pos w b)
  | [], _ => List.pairwise_singleton _ _
  | j :: l, h => by
    obtain ⟨h1, h2⟩ := List.pairwise_cons.mp h
    show (if (machineAt w i).position < (machineAt w j).position then i :: j :: l else j :: insertByPosition w i l).Pairwise _
    split
    · rename_i hlt
      refine List.pairwise_cons.mpr ⟨fun x hx => ?_, h⟩
      rcases List.mem_cons.mp hx with e | hx
      · subst e
        exact Nat.le_of_lt hlt
      · have := h1 x hx
        exact Nat.le_trans (Nat.le_of_lt hlt) this
    · rename_i hlt
      refine List.pairwise_cons.mpr ⟨fun x hx => ?_, insert_sorted w i l h2⟩
      rcases List.mem_cons.mp ((insert_perm w i l).subset hx) with e | hx
      · subst e
        exact Nat.le_of_not_lt hlt
      · exact h1 x hx
theorem wall_inv (w : Workshop) : ∀ (l acc : List Nat), acc.Pairwise (fun a b => pos w a ≤ pos w b) → (l.foldl (fun s i => insertByPosition w i s) acc).Perm (l ++ acc) ∧ (l.foldl (fun s i => insertByPosition w i s) acc).Pairwise (fun a b => pos w a ≤ pos w b)
  | [], acc, h => ⟨List.Perm.refl _, h⟩
  | x :: l, acc, h => by
    obtain ⟨h1, h2⟩ := wall_inv w l (insertByPosition w x acc) (insert_sorted w x acc h)
    refine ⟨?_, h2⟩
    refine h1.trans ?_
    refine ((insert_perm w x acc).append_left l).trans ?_
    exact List.perm_middle
theorem wall_perm (w : Workshop) (l : List Nat) : (wallOrder w l).Perm l := by
  have h := (wall_inv w l [] List.Pairwise.nil).1
  rw [List.append_nil] at h
  exact h
theorem wall_sorted (w : Workshop) (l : List Nat) : (wallOrder w l).Pairwise (fun a b => pos w a ≤ pos w b) := (wall_inv w l [] List.Pairwise.nil).2
theorem wall_walk {w : Workshop} {l t : List Nat} (h : t.Perm l) : walkTime w (wallOrder w l) ≤ walkTime w t := by
  have hp := wall_perm w l
  have hs := wall_sorted w l
  cases e : wallOrder w l with
  | nil => exact Nat.zero_le _
  | cons i rest =>
    rw [e] at hp hs
    obtain ⟨z, hz, hle, ew⟩ := walk_sorted w i rest i hs
    show walkFrom w i (i :: rest) ≤ _
    rw [ew]
    have hi : i ∈ t := h.symm.subset (hp.subset (List.mem_cons_self ..))
    have hzt : z ∈ t := h.symm.subset (hp.subset hz)
    have low := walk_low (w := w) hi hzt
    unfold Sr120.distance at low ⊢
    omega
theorem busy_sum {w : Workshop} {l t : List Nat} (h : t.Perm l) : SrCommon.sum (t.map fun i => (machineAt w i).serviceTime) = SrCommon.sum (l.map fun i => (machineAt w i).serviceTime) := sum_perm (h.map _)
theorem wall_best {w : Workshop} {l t : List Nat} (h : t.Perm l) : cycleTime w (wallOrder w l) ≤ cycleTime w t := by
  have h1 := wall_walk (w := w) h
  have h2 := busy_sum (w := w) h
  have h3 := busy_sum (w := w) (wall_perm w l)
  have h4 : longestMachineCycle w t = longestMachineCycle w l := max_perm (h.map _)
  have h5 : longestMachineCycle w (wallOrder w l) = longestMachineCycle w l := max_perm ((wall_perm w l).map _)
  unfold cycleTime busyTime
  rw [h4, h5, h2, h3]
  omega
theorem min_wall {w : Workshop} {l : List Nat} (hn : l.Nodup) : minCycleTime w l = cycleTime w (wallOrder w l) := by
  obtain ⟨h1, h2⟩ := best_min (w := w) hn
  exact Nat.le_antisymm (h2 _ (wall_perm w l)) (wall_best h1)
/-! ### sorted pairs -/
theorem perm_uniq {α : Type} {le : α → α → Prop} (anti : ∀ a b, le a b → le b a → a = b) : ∀ (l m : List α), l.Perm m → l.Pairwise le → m.Pairwise le → l = m
  | [], m, h, _, _ => h.nil_eq
  | a :: l, [], h, _, _ => nomatch h.length_eq
  | a :: l, b :: m, h, h1, h2 => by
    have e : a = b := by
      have ha := h.subset (List.mem_cons_self (a := a) (l := l))
      have hb := h.symm.subset (List.mem_cons_self (a := b) (l := m))
      rcases List.mem_cons.mp ha with q | ha
      · exact q
      · rcases List.mem_cons.mp hb with q | hb
        · exact q.symm
        · exact anti a b ((List.pairwise_cons.mp h1).1 b hb) ((List.pairwise_cons.mp h2).1 a ha)
    subst e
    rw [perm_uniq anti l m h.cons_inv (List.pairwise_cons.mp h1).2 (List.pairwise_cons.mp h2).2]
/-- x comes no later than y -/
def leP (x y : Int × Int) : Prop := x.1 < y.1 ∨ (x.1 = y.1 ∧ x.2 ≤ y.2)
theorem leP_anti (x y : Int × Int) (h1 : leP x y) (h2 : leP y x) : x = y := by
  unfold leP at h1 h2
  refine Prod.ext ?_ ?_ <;> omega
def pairOf (w : Workshop) (i : Nat) : Int × Int := ((pos w i : Int), (i : Int))
theorem insert_lex (w : Workshop) (k : Nat) : ∀ l : List Nat, (l.map (pairOf w)).Pairwise leP → (∀ j ∈ l, j < k) → ((insertByPosition w k l).map (pairOf w)).Pairwise leP
  | [], _, _ => List.pairwise_singleton _ _
  | j :: l, h, hk => by
    rw [List.map_cons] at h
    obtain ⟨h1, h2⟩ := List.pairwise_cons.mp h
    show ((if (machineAt w k).position < (machineAt w j).position then k :: j :: l else j :: insertByPosition w k l).map (pairOf w)).Pairwise leP
    have hj := hk j (List.mem_cons_self ..)
    split
    · rename_i hlt
      refine List.pairwise_cons.mpr ⟨fun x hx => ?_, h⟩
      left
      have hkj : (pairOf w k).1 < (pairOf w j).1 := by
        show (pos w k : Int) < (pos w j : Int)
        exact Int.ofNat_lt.mpr hlt
      rcases List.mem_cons.mp hx with e | hx
      · rw [e]
        exact hkj
      · have := h1 x hx
        unfold leP at this
        omega
    · rename_i hlt
      refine List.pairwise_cons.mpr ⟨fun x hx => ?_, insert_lex w k l h2 fun i hi => hk i (List.mem_cons_of_mem _ hi)⟩
      obtain ⟨y, hy, e⟩ := List.mem_map.mp hx
      subst e
      rcases List.mem_cons.mp ((insert_perm w k l).subset hy) with e | hy
      · subst e
        unfold leP pairOf
        have : pos w j ≤ pos w y := Nat.le_of_not_lt hlt
        dsimp only
        omega
      · exact h1 _ (List.mem_map.mpr ⟨y, hy, rfl⟩)
theorem wall_succ (w : Workshop) (n : Nat) : wallOrder w (List.range (n + 1)) = insertByPosition w n (wallOrder w (List.range n)) := by
  unfold wallOrder
  rw [List.range_succ, List.foldl_append]
  rfl
theorem wall_lex (w : Workshop) : ∀ n, ((wallOrder w (List.range n)).map (pairOf w)).Pairwise leP
  | 0 => List.Pairwise.nil
  | n + 1 => by
    rw [wall_succ]
    exact insert_lex w n _ (wall_lex w n) fun j hj => List.mem_range.mp ((wall_perm w _).subset hj)
theorem wall_sort {w : Workshop} {n : Nat} {qs : List (Int × Int)} (hp : qs.Perm ((List.range n).map (pairOf w))) (hs : qs.Pairwise leP) : qs = (wallOrder w (List.range n)).map (pairOf w) :=
  perm_uniq leP_anti _ _ (hp.trans ((wall_perm w _).map _).symm) hs (wall_lex w n)
/-! ### the largest group -/
def groupM (w : Workshop) (limit : Nat) (k : Nat) : List Nat := (List.range k).foldl (fun best x => if best.length < (SrCommon.maskMembers w.length x).length ∧ minCycleTime w (SrCommon.maskMembers w.length x) ≤ limit then SrCommon.maskMembers w.length x else best) []
theorem mask_nodup (n x : Nat) : (SrCommon.maskMembers n x).Nodup := List.nodup_range.filter _
theorem mask_lt {n x i : Nat} (h : i ∈ SrCommon.maskMembers n x) : i < n := List.mem_range.mp (List.mem_filter.mp h).1
theorem mask_len (n x : Nat) : (SrCommon.maskMembers n x).length ≤ n := by
  have h := List.length_filter_le (fun i => x / 2 ^ i % 2 == 1) (List.range n)
  rw [List.length_range] at h
  exact h
theorem group_eq (w : Workshop) (limit : Nat) : groupM w limit (2 ^ w.length) = largestGroup w limit := by
  unfold groupM largestGroup
  congr 1
  funext best x
  rw [min_wall (mask_nodup _ _)]
theorem group_succ (w : Workshop) (limit k : Nat) : groupM w limit (k + 1) = if (groupM w limit k).length < (SrCommon.maskMembers w.length k).length ∧ minCycleTime w (SrCommon.maskMembers w.length k) ≤ limit then SrCommon.maskMembers w.length k else groupM w limit k := by
  conv => lhs; unfold groupM
  rw [List.range_succ, List.foldl_append]
  rfl
theorem group_len (w : Workshop) (limit : Nat) : ∀ k, (groupM w limit k).length ≤ w.length
  | 0 => Nat.zero_le _
  | k + 1 => by
    rw [group_succ]
    split
    · exact mask_len _ _
    · exact group_len w limit k
/-! ### bounds -/
theorem sum_le {g : Nat → Nat} {c : Nat} (h : ∀ i, g i ≤ c) : ∀ l : List Nat, SrCommon.sum (l.map g) ≤ c * l.length
  | [] => Nat.zero_le _
  | x :: l => by
    rw [List.map_cons, sum_cons, List.length_cons, Nat.mul_succ]
    have := sum_le h l
    have := h x
    omega
theorem foldl_max_le {c : Nat} : ∀ (l : List Nat) (a : Nat), a ≤ c → (∀ x ∈ l, x ≤ c) → l.foldl max a ≤ c
  | [], a, h, _ => h
  | x :: l, a, h, hl => by
    rw [List.foldl_cons]
    exact foldl_max_le l _ (by have := hl x (List.mem_cons_self ..); omega) fun y hy => hl y (List.mem_cons_of_mem _ hy)
theorem cycle_le {w : Workshop} (V : Valid w) (t : List Nat) (ht : t.length ≤ 1000) : cycleTime w t ≤ 1000000 := by
  have h1 : SrCommon.sum (t.map fun i => (machineAt w i).serviceTime) ≤ 99 * t.length := sum_le (fun i => (V.le i).2.2) t
  have h2 : walkTime w t ≤ 99 * t.length := by
    rw [← walk_eq]
    refine sumTo_le _ fun k _ => ?_
    unfold dist Sr120.distance
    have a := (V.le (t.getD k 0)).1
    have b := (V.le (nxt t k)).1
    omega
  have h3 : longestMachineCycle w t ≤ 198 := by
    unfold longestMachineCycle
    refine foldl_max_le _ _ (by decide) fun x hx => ?_
    obtain ⟨i, _, e⟩ := List.mem_map.mp hx
    have := V.le i
    omega
  unfold cycleTime busyTime
  omega
theorem cycle_pos {w : Workshop} (V : Valid w) {t : List Nat} {i : Nat} (hi : i ∈ t) (h : i < w.length) : 1 ≤ cycleTime w t := by
  have a := rnd_le_cycle (w := w) hi
  have b := V.pos h
  unfold rnd at a
  omega
theorem frac_eq (a b : Nat) (hb : 0 < b) : SrFraction.encode (SrFraction.mk (a : Int) b) = [((a / Nat.gcd a b : Nat) : Int), ((b / Nat.gcd a b : Nat) : Int)] := by
  have g1 : 0 < Nat.gcd a b := Nat.gcd_pos_of_pos_right a hb
  have g2 : 0 < b / Nat.gcd a b := Nat.div_pos (Nat.gcd_le_right a hb) g1
  unfold SrFraction.mk
  dsimp only
  rw [Int.natAbs_natCast, if_neg (by omega), if_neg (by omega)]
  rfl
/-! ### schedules -/
def okM (w : Workshop) (ts st : List Nat) (cy k : Nat) : Bool :=
  decide (rnd w (ts.getD k 0) ≤ cy) && decide (st.getD k 0 + serv w (ts.getD k 0) + dist w (ts.getD k 0) (nxt ts k) ≤ (if k + 1 < st.length then st.getD (k + 1) 0 else st.getD 0 0 + cy))
theorem all_congr {p q : Nat → Bool} : ∀ l : List Nat, (∀ x ∈ l, p x = q x) → l.all p = l.all q
  | [], _ => rfl
  | x :: l, h => by
    rw [List.all_cons, List.all_cons, h x (List.mem_cons_self ..), all_congr l fun y hy => h y (List.mem_cons_of_mem _ hy)]
theorem head_getD (l : List Nat) : l.headD 0 = l.getD 0 0 := by cases l <;> rfl
theorem feasible_eq {w : Workshop} {ts st : List Nat} {cy : Nat} (h : st.length = ts.length) : isFeasible w ts st cy = (List.range ts.length).all (okM w ts st cy) := by
  unfold isFeasible
  rw [decide_eq_true h, Bool.true_and]
  refine all_congr _ fun k hk => ?_
  have hk' := List.mem_range.mp hk
  unfold okM
  by_cases e : k + 1 = ts.length
  · have e2 : ¬ k + 1 < st.length := by omega
    rw [if_neg e2, nxt_last e]
    simp only [if_pos e, head_getD]
    rw [Bool.and_comm]
    rfl
  · have e2 : k + 1 < st.length := by omega
    rw [if_pos e2, nxt_lt (by omega)]
    simp only [if_neg e]
    rw [Bool.and_comm]
    rfl
end Tw
/-! Words of the walk: promises, what evaluates to what, machines on the heap. -/
namespace Tw
open PySem PySem.Spec PyProof.Rows L2 Evl
def top (i : Nat) : Stmt := PySem.Challenge.pw_tendwall_s01_answers.main.body.getD i (.Pass ⟨0, 0, 0, 0⟩)
/-! ### promises -/
/-- a value, nothing known is changed -/
def spV (A : List V → Hp → V → Prop) : Sp := fun vs H Q _ => ∃ z H0, Ex H0 H ∧ A vs H0 z ∧ ∀ H', Ex H H' → Q z H'
/-- a new list -/
def spL (A : List V → Hp → List V → Prop) : Sp := fun vs H Q _ => ∃ xs H0, Ex H0 H ∧ A vs H0 xs ∧ ∀ p H', H p = none → Ex H H' → H' p = some (.lst xs) → Q (.ref p) H'
/-- a value of which P is told -/
def spP (A : List V → Hp → (V → Hp → Prop) → Prop) : Sp := fun vs H Q _ => ∃ P H0, Ex H0 H ∧ A vs H0 P ∧ ∀ v H', Ex H H' → P v H' → Q v H'
/-- a def that may be called by its name -/
structure Fn (P : Program) (w : World) (K : PySem.W.Frag) (mg : Str → Option Value) (base : Heap) (x : Str) (k : Nat) (sp : Sp) : Prop where
  ex : ∃ (f : Addr) (fd : FuncData) (ps : List Str), mg x = some (.ref f) ∧ FnOk P w K mg base CX0 k f fd ps sp ∧ PySem.W.keepIn K (.ref f) = true ∧ Binds K fd ps []
/-- a def of the text, as the top leaves it -/
structure DefAt (K : PySem.W.Frag) (mg : Str → Option Value) (x : Str) (st : Stmt) (ps : List Str) : Prop where
  ex : ∃ (f : Addr) (fd : FuncData), mg x = some (.ref f) ∧ Fun K x x st f fd ∧ Binds K fd ps []
theorem DefAt.fn {P : Program} {w : World} {K : PySem.W.Frag} {mg : Str → Option Value} {base : Heap} {x : Str} {st : Stmt} {ps : List Str} {k : Nat} {sp : Sp} (D : DefAt K mg x st ps)
    (h : ∀ f fd, Fun K x x st f fd → FnOk P w K mg base CX0 k f fd ps sp) : Fn P w K mg base x k sp := by
  obtain ⟨f, fd, h1, h2, h3⟩ := D.ex
  exact ⟨f, fd, ps, h1, h f fd h2, h2.kp, h3⟩
section
variable {X : Cx} {k j : Nat} {sp : Sp} {x : Str} {p pos : Pos} {e : Expr} {es : List Expr} {t : TA}
theorem pe_fn (F : Fn X.prog X.w X.K X.mg X.base x j sp) (hr : Room k X.A) (hk : j ≤ k) (hg : Gl X x) (ha : PA X (e :: es) t)
    (hdb : (x == ("__debug__" : Str)) = false := by decide) (he : starEach (e :: es) X.env = (false, eval e X.env) :: starEach es X.env := by rfl) (hpl : (backTo pos (starEach es X.env)).any (·.1) = false := by rfl) :
    PE X (.Call (.Name x p) (e :: es) [] pos) (tCall sp [] E0 t) := by
  refine ⟨fun pins s σ H Q I h => ?_⟩
  obtain ⟨f, fd, ps, h1, h2, h3, h4⟩ := F.ex
  exact (pe_call h2 (hr.mono hk) hg h1 h3 h4 .nil pass0 ha hdb he hpl).run pins s σ H Q I h
end
/-! ### what evaluates to something of which P is told -/
def EvP (te : TE) (σ : L2.St) (H : Hp) (P : V → Hp → Prop) : Prop := ∀ H1, Ex H H1 → ∀ Q : VK, (∀ v H2, Ex H1 H2 → P v H2 → Q v H2) → te σ H1 Q
def EvAP (ta : TA) (σ : L2.St) (H : Hp) (P : List V → Hp → Prop) : Prop := ∀ H1, Ex H H1 → ∀ Q : List V → Hp → Prop, (∀ vs H2, Ex H1 H2 → P vs H2 → Q vs H2) → ta σ H1 Q
section
variable {K : PySem.W.Frag} {σ : L2.St} {H H' : Hp} {ta tb te : TE} {tr tl : TA} {x y z v : V} {P R : V → Hp → Prop} {PA : List V → Hp → Prop} {xs ys : List V}
theorem Ev.toP (h : Ev te σ H z) : EvP te σ H (fun v _ => v = z) := fun H1 e Q q => h H1 e Q fun H2 e2 => q z H2 e2 rfl
theorem EvP.toV (h : EvP te σ H (fun v _ => v = z)) : Ev te σ H z := fun H1 e Q q => h H1 e Q fun v H2 e2 hv => by subst hv; exact q H2 e2
theorem EvP.mono (e : Ex H H') (h : EvP te σ H P) : EvP te σ H' P := fun H1 a Q q => h H1 (e.trans a) Q q
theorem EvP.imp (h : EvP te σ H P) (hi : ∀ v H1, Ex H H1 → P v H1 → R v H1) : EvP te σ H R := fun H1 e Q q => h H1 e Q fun v H2 e2 hv => q v H2 e2 (hi v H2 (e.trans e2) hv)
def LstV (xs : List V) : V → Hp → Prop := fun v H => ∃ p, v = .ref p ∧ H p = some (.lst xs)
def TupV (xs : List V) : V → Hp → Prop := fun v H => ∃ p, v = .ref p ∧ H p = some (.tup xs)
theorem EvL.toP (h : EvL te σ H xs) : EvP te σ H (LstV xs) := fun H1 e Q q => h H1 e Q fun p H2 _ e2 hp => q _ H2 e2 ⟨p, rfl, hp⟩
theorem EvU.toP (h : EvU te σ H xs) : EvP te σ H (TupV xs) := fun H1 e Q q => h H1 e Q fun p H2 _ e2 hp => q _ H2 e2 ⟨p, rfl, hp⟩
theorem Ev.toL {p : Addr} (h : Ev te σ H (.ref p)) (hp : H p = some (.lst xs)) : EvP te σ H (LstV xs) := fun H1 e Q q => h H1 e Q fun H2 e2 => q _ H2 e2 ⟨p, rfl, e2 p _ (e p _ hp)⟩
theorem EvA.toP {vs : List V} (h : EvA tr σ H vs) : EvAP tr σ H (fun us _ => us = vs) := fun H1 e Q q => h H1 e Q fun H2 e2 => q vs H2 e2 rfl
theorem EvAP.imp {PB : List V → Hp → Prop} (h : EvAP tr σ H PA) (hi : ∀ vs H1, Ex H H1 → PA vs H1 → PB vs H1) : EvAP tr σ H PB := fun H1 e Q q => h H1 e Q fun v H2 e2 hv => q v H2 e2 (hi v H2 (e.trans e2) hv)
theorem eap_nil (h : ∀ H1, Ex H H1 → PA [] H1) : EvAP tNil σ H PA := fun H1 e _ q => q [] H1 (Ex.refl H1) (h H1 e)
theorem eap_cons (h : EvP te σ H P) (hr : ∀ v H1, Ex H H1 → P v H1 → EvAP tr σ H1 (fun vs H2 => PA (v :: vs) H2)) : EvAP (tCons te tr) σ H PA := fun H1 e _ q =>
  h H1 e _ fun v H2 e2 hv => hr v H2 (e.trans e2) hv H2 (Ex.refl H2) _ fun vs H3 e3 hvs => q _ H3 (e2.trans e3) hvs
/-- calls -/
theorem ev_fnP {A : List V → Hp → V → Prop} {E : XK} (h : EvAP tr σ H (fun vs H1 => A vs H1 z)) : Ev (tCall (spV A) [] E tr) σ H z := fun H1 e Q q =>
  h H1 e _ fun vs H2 e2 hA => ⟨z, H2, Ex.refl H2, by rw [List.append_nil]; exact hA, fun H3 e3 => q H3 (e2.trans e3)⟩
theorem ev_fn {A : List V → Hp → V → Prop} {E : XK} {vs : List V} (h : EvA tr σ H vs) (hA : ∀ H1, Ex H H1 → A vs H1 z) : Ev (tCall (spV A) [] E tr) σ H z :=
  ev_fnP fun H1 e Q q => h H1 e Q fun H2 e2 => q vs H2 e2 (hA H2 (e.trans e2))
theorem el_fnP {A : List V → Hp → List V → Prop} {E : XK} (h : EvAP tr σ H (fun vs H1 => A vs H1 xs)) : EvL (tCall (spL A) [] E tr) σ H xs := fun H1 e Q q =>
  h H1 e _ fun vs H2 e2 hA => ⟨xs, H2, Ex.refl H2, by rw [List.append_nil]; exact hA, fun p H3 hp e3 h3 => q p H3 (fresh_back e2 hp) (e2.trans e3) h3⟩
theorem el_fn {A : List V → Hp → List V → Prop} {E : XK} {vs : List V} (h : EvA tr σ H vs) (hA : ∀ H1, Ex H H1 → A vs H1 xs) : EvL (tCall (spL A) [] E tr) σ H xs :=
  el_fnP fun H1 e Q q => h H1 e Q fun H2 e2 => q vs H2 e2 (hA H2 (e.trans e2))
theorem ep_fn {A : List V → Hp → (V → Hp → Prop) → Prop} {E : XK} {vs : List V} (h : EvA tr σ H vs) (hA : ∀ H1, Ex H H1 → A vs H1 P) : EvP (tCall (spP A) [] E tr) σ H P := fun H1 e Q q =>
  h H1 e _ fun H2 e2 => ⟨P, H2, Ex.refl H2, by rw [List.append_nil]; exact hA H2 (e.trans e2), fun v H3 e3 h3 => q v H3 (e2.trans e3) h3⟩
/-- built-ins -/
theorem evP_cb {r : List V → Hp → VK → Prop} (h : EvAP tr σ H (fun vs H1 => RC r vs H1 z)) : Ev (tCB r tr) σ H z := fun H1 e Q q =>
  h H1 e _ fun vs H2 e2 hr => hr H2 (Ex.refl H2) Q fun H3 e3 => q H3 (e2.trans e3)
theorem ev_len {p : Addr} (ha : Ev ta σ H (.ref p)) (h : SqL K H p xs) : Ev (tCB (fun xs H Q => ∃ p ys, xs = [V.ref p] ∧ (SqL K H p ys ∨ SqT K H p ys) ∧ Q (.int ys.length) H) (tCons ta tNil)) σ H (.int (xs.length : Int)) := fun H1 e Q q =>
  ha H1 e _ fun H2 e2 => ⟨p, xs, rfl, Or.inl (ex_l (e.trans e2) h), q H2 e2⟩
theorem rc_abs {i : Int} : RC (fun xs H Q => ∃ i, xs = [V.int i] ∧ Q (.int (if i < 0 then -i else i)) H) [.int i] H (.int (if i < 0 then -i else i)) := fun H1 _ Q q => ⟨i, rfl, q H1 (Ex.refl H1)⟩
theorem rc_max {i j : Int} : RC (fun xs H Q => ∃ i j, xs = [V.int i, V.int j] ∧ Q (.int (if j > i then j else i)) H) [.int i, .int j] H (.int (if j > i then j else i)) := fun H1 _ Q q => ⟨i, j, rfl, q H1 (Ex.refl H1)⟩
theorem rc_sum {a : Addr} {ns : List Int} (h : SqL K H a (ns.map V.int)) : RC (rSum K) [.ref a] H (.int ns.sum) := fun H1 e Q q => ⟨a, ns, rfl, ex_l e h, q H1 (Ex.refl H1)⟩
theorem rc_all {a : Addr} {bs : List Bool} (h : SqL K H a (bs.map V.bl)) : RC (rAll K) [.ref a] H (.bl (bs.all id)) := fun H1 e Q q => ⟨a, bs, rfl, ex_l e h, q H1 (Ex.refl H1)⟩
/-- xs + ys -/
theorem el_cat (ha : EvP ta σ H (LstV xs)) (hb : EvP tb σ H (LstV ys)) (hz : xs.length + ys.length ≤ 100000) : EvL (tOp rCat ta tb) σ H (xs ++ ys) := fun H1 e Q q =>
  ha H1 e _ fun v H2 e2 ⟨p, ev, hp⟩ => by
    subst ev
    exact hb H2 (e.trans e2) _ fun u H3 e3 ⟨p2, eu, hp2⟩ => by
      subst eu
      exact ⟨p, p2, xs, ys, rfl, rfl, e3 p _ hp, hp2, sz_of hz, fun l hl => q l _ (fresh_back (e2.trans e3) hl) ((e2.trans e3).trans (Ex.new hl)) upd_same⟩
/-- a display of values some of which are objects -/
theorem elP_lst {PA : List V → Hp → Prop} (h : EvAP tr σ H PA) (hl : ∀ vs H1, PA vs H1 → vs.length ≤ 100000) : EvP (tLst tr) σ H (fun v H1 => ∃ vs p H0, PA vs H0 ∧ Ex H0 H1 ∧ v = .ref p ∧ H1 p = some (.lst vs)) := fun H1 e _ q =>
  h H1 e _ fun vs H2 e2 hp => ⟨sz_of (hl vs H2 hp), fun p hp0 => q _ _ (e2.trans (Ex.new hp0)) ⟨vs, p, H2, hp, Ex.new hp0, rfl, upd_same⟩⟩
/-- o.f -/
theorem ev_fld {a C dx : Addr} {fs : List (Str × V)} {f : Str} (h : Ev ta σ H (.ref a)) (ho : H a = some (.ins C dx fs)) (hc : Cls K C) (hn : NoAttr K C f) (hl : fs.lookup f = some v) : Ev (tFld K ta f) σ H v := fun H1 e Q q =>
  h H1 e _ fun H2 e2 => ⟨a, C, dx, fs, v, rfl, e2 a _ (e a _ ho), hc, hn, hl, q H2 e2⟩
theorem rv_isN : RV (fun x y H Q => y = V.non ∧ Q (.bl (decide (x = .non))) H) x .non H (.bl (decide (x = .non))) := fun H1 _ _ q => ⟨rfl, q H1 (Ex.refl H1)⟩
theorem ep_if {b : Bool} {t : TT} (h : EvT t σ H b) (h1 : b = true → EvP ta σ H P) (h2 : b = false → EvP tb σ H P) : EvP (tIf t ta tb) σ H P := fun H1 e Q q => h H1 e _ fun H2 e2 => by
  cases b with
  | true =>
    show ta σ H2 Q
    exact h1 rfl H2 (e.trans e2) Q fun v H3 e3 => q v H3 (e2.trans e3)
  | false =>
    show tb σ H2 Q
    exact h2 rfl H2 (e.trans e2) Q fun v H3 e3 => q v H3 (e2.trans e3)
theorem el_rg {n : Nat} (h : Ev ta σ H (.int (n : Int))) (hn : n ≤ 100000) : EvL (tLstRg (tRg1 ta)) σ H ((List.range n).map fun i : Nat => V.int (i : Int)) := fun H1 e Q q =>
  h H1 e _ fun H2 e2 => ⟨(n : Int), rfl, RgOk.of_le (by omega) (by omega) (by omega) (by omega), fun l hl => q l _ (fresh_back e2 hl) (e2.trans (Ex.new hl)) (by
    rw [upd_same]
    unfold rgV
    have e1 : ((n : Int) - 0).toNat = n := by omega
    rw [e1]
    congr 2
    refine List.map_congr_left fun i _ => ?_
    rw [Int.zero_add])⟩
end
/-- a constant of the module -/
def CI (mg : Str → Option Value) (x : Str) (v : Int) : Prop := ∃ t, mg x = some (.int v t)
theorem pe_ci {X : Cx} {x : Str} {v : Int} {pos : Pos} (c : CI X.mg x v) (hg : Gl X x) (hd : (x == ("__debug__" : Str)) = false := by decide) : PE X (.Name x pos) (tC (.int v)) := by
  obtain ⟨t, c⟩ := c
  exact pe_glob hg c ⟨t, rfl⟩ hd
/-! ### statements -/
section
variable {K : PySem.W.Frag} {σ : L2.St} {H H' : Hp} {ta tb te tx : TE} {t u : TT} {x y z v : V} {D : Ends} {tu tw tz : TS} {g : TG} {P : V → Hp → Prop}
theorem s_retP (h : EvP te σ H P) (k : ∀ v H1, Ex H H1 → P v H1 → D.rt v H1) : tRet te D σ H := h H (Ex.refl H) _ k
theorem q_asgP {i : Nat} (h : EvP te σ H P) (k : ∀ v H1, Ex H H1 → P v H1 → tz D (σ.set i (some v)) H1) : tSeq (tAsg te (gName i)) tz D σ H := h H (Ex.refl H) _ k
theorem q_par {i j : Nat} {tr : TA} {v w : V} (h : EvA tr σ H [v, w]) (k : ∀ H1, Ex H H1 → tz D ((σ.set i (some v)).set j (some w)) H1) : tSeq (tPar i j tr) tz D σ H :=
  h H (Ex.refl H) _ fun H1 e => ⟨v, w, rfl, k H1 e⟩
theorem s_par {i j : Nat} {tr : TA} {v w : V} (h : EvA tr σ H [v, w]) (k : ∀ H1, Ex H H1 → D.nx ((σ.set i (some v)).set j (some w)) H1) : tPar i j tr D σ H :=
  h H (Ex.refl H) _ fun H1 e => ⟨v, w, rfl, k H1 e⟩
theorem q_par3 {i j l : Nat} {tr : TA} {u v w : V} (h : EvA tr σ H [u, v, w]) (k : ∀ H1, Ex H H1 → tz D (((σ.set i (some u)).set j (some v)).set l (some w)) H1) : tSeq (tPar3 i j l tr) tz D σ H :=
  h H (Ex.refl H) _ fun H1 e => ⟨u, v, w, rfl, k H1 e⟩
/-- a, b, c, d = e1, e2, e3, e4 -/
theorem q_tup4 {i j l m : Nat} {tr : TA} {v1 v2 v3 v4 : V} (h : EvA tr σ H [v1, v2, v3, v4]) (k : ∀ H1, Ex H H1 → tz D ((((σ.set i (some v1)).set j (some v2)).set l (some v3)).set m (some v4)) H1) :
    tSeq (tAsg (tTup tr) (gTup K 4 (gCons (gName i) (gCons (gName j) (gCons (gName l) (gCons (gName m) gNil)))))) tz D σ H :=
  h H (Ex.refl H) _ fun H1 e => ⟨by show 4 ≤ sizeLine; decide, fun p hp => ⟨p, _, rfl, SqT.of upd_same, rfl, v1, _, rfl, v2, _, rfl, v3, _, rfl, v4, _, rfl, rfl, k _ (e.trans (Ex.new hp))⟩⟩
/-- for i, x in enumerate(xs) -/
theorem s_forE {a : Addr} {xs : List V} {tr : TA} {j1 j2 : Nat} (h : EvA tr σ H [.ref a]) (hx : SqL K H a xs) (Pv : Nat → L2.St → Hp → Prop) (h0 : ∀ H1, Ex H H1 → Pv 0 σ H1) (hl : ∀ i σ' H', i ≤ xs.length → Pv i σ' H' → SqL K H' a xs)
    (hs : ∀ i x σ' H' H'', xs[i]? = some x → Pv i σ' H' → Ex H' H'' → tu { D with nx := Pv (i + 1), ct := Pv (i + 1), bk := D.nx } ((σ'.set j1 (some (.int (i : Int)))).set j2 (some x)) H'') (hd : ∀ σ' H', Pv xs.length σ' H' → D.nx σ' H') :
    tFor (iEnum K tr) (gTup K 2 (gCons (gName j1) (gCons (gName j2) gNil))) tu D σ H :=
  h H (Ex.refl H) _ fun H1 e => ⟨a, xs, rfl, ex_l e hx, for_it walk_enum Pv (h0 H1 e) (fun i σ' H' hi p => hl i σ' H' hi p) (fun i y σ' H' H'' hi p yy => by
    obtain ⟨T, u1, u2, e1, e2, e3, e4, e5⟩ := yy
    subst e1 e3
    cases e4
    exact ⟨T, _, rfl, SqT.of upd_same, rfl, _, _, rfl, _, _, rfl, rfl, hs i u2 σ' H' _ e5 p (Ex.new e2)⟩) hd⟩
theorem q_forE {a : Addr} {xs : List V} {tr : TA} {j1 j2 : Nat} (h : EvA tr σ H [.ref a]) (hx : SqL K H a xs) (Pv : Nat → L2.St → Hp → Prop) (h0 : ∀ H1, Ex H H1 → Pv 0 σ H1) (hl : ∀ i σ' H', i ≤ xs.length → Pv i σ' H' → SqL K H' a xs)
    (hs : ∀ i x σ' H' H'', xs[i]? = some x → Pv i σ' H' → Ex H' H'' → tu { D with nx := Pv (i + 1), ct := Pv (i + 1), bk := tz D } ((σ'.set j1 (some (.int (i : Int)))).set j2 (some x)) H'') (hd : ∀ σ' H', Pv xs.length σ' H' → tz D σ' H') :
    tSeq (tFor (iEnum K tr) (gTup K 2 (gCons (gName j1) (gCons (gName j2) gNil))) tu) tz D σ H := s_forE (D := { D with nx := tz D }) h hx Pv h0 hl hs hd
end
/-! ### a dict of the module with int keys -/
structure KDi (K : PySem.W.Frag) (d : Addr) (es : Array DictEntry) (n : Nat) : Prop where
  at_ : K.lookup d = some ⟨.type "dict", none, .dict es n, #[]⟩
  lit : ∀ e ∈ es.toList, ∃ k t, e.key = .int k t ∧ e.hash = hashInt k
  low : (d == sysModules) = false
section
variable {X : Cx} {d : Addr} {es : Array DictEntry} {n : Nat}
theorem KDi.map {prog : Program} {w : World} {h : Heap} {K : PySem.W.Frag} (D : KDi K d es n) (I : K.In h) : h.MapOf (intKind prog w) d (fun k => findBy Value.isInt es k) :=
  ⟨_, es, n, I _ _ D.at_, ⟨rfl, rfl, rfl⟩, rfl, fun e he => by
    obtain ⟨k, t, e1, e2⟩ := D.lit e (Array.mem_toList_iff.mpr he)
    exact ⟨k, by rw [e1]; exact intKind_is prog w k t, e2⟩, fun _ => rfl⟩
def rInKi (d : Addr) (es : Array DictEntry) : R2 := fun x y H Q => ∃ z : Int, x = .int z ∧ y = .ref d ∧ Q (.bl (findBy Value.isInt es z).isSome) H
theorem op_in_ki (D : KDi X.K d es n) : OpR X (compareOp .In) (rInKi d es) := by
  intro pins s σ H x y v u Q I rx ry h
  obtain ⟨z, rfl, rfl, q⟩ := h
  obtain ⟨t, rfl⟩ := rx
  cases ry
  exact wpAny_in_of (intKind_is X.prog X.w z t) D.low (D.map I.kIn) ⟨.bl _, H, I.tok _, rfl, q⟩
def rIxKi (d : Addr) (es : Array DictEntry) : R2 := fun x y H Q => ∃ (z : Int) (u0 : Value) (v0 : V), x = .ref d ∧ y = .int z ∧ findBy Value.isInt es z = some u0 ∧ RelV v0 u0 ∧ Q v0 H
theorem ix_ki (D : KDi X.K d es n) : IxR X (rIxKi d es) := by
  intro value slice pins s σ H x y v u Q I rx ry h hs
  obtain ⟨z, u0, v0, rfl, rfl, e, r, q⟩ := h
  cases rx
  obtain ⟨t, rfl⟩ := ry
  have hm := D.map (prog := X.prog) (w := X.w) I.kIn
  exact tail_any hm.typeIs slot_dict_getitem.lookup (wpAny_getItem_of (intKind_is X.prog X.w z t) hm e ⟨v0, H, I.tok _, r, q⟩) hs
end
/-! ### machines on the heap -/
def mV (m : Sr120.Machine) : List V := [.int (m.position : Int), .int (m.runTime : Int), .int (m.serviceTime : Int)]
/-- at a: the machines of w -/
def MsAt (H : Hp) (a : Addr) (w : Sr120.Workshop) : Prop := ∃ rs : List Addr, H a = some (.lst (rs.map V.ref)) ∧ rs.length = w.length ∧ ∀ (i : Nat) (m : Sr120.Machine), w[i]? = some m → ∃ r, rs[i]? = some r ∧ H r = some (.tup (mV m))
theorem MsAt.mono {H H' : Hp} {a : Addr} {w : Sr120.Workshop} (e : Ex H H') (h : MsAt H a w) : MsAt H' a w := by
  obtain ⟨rs, h1, h2, h3⟩ := h
  refine ⟨rs, e a _ h1, h2, fun i m hm => ?_⟩
  obtain ⟨r, a1, a2⟩ := h3 i m hm
  exact ⟨r, a1, e r _ a2⟩
def nV (ts : List Nat) : List V := ts.map fun t : Nat => V.int (t : Int)
theorem nV_len (ts : List Nat) : (nV ts).length = ts.length := List.length_map ..
theorem nV_get {ts : List Nat} {k : Nat} (h : k < ts.length) : (nV ts)[k]? = some (.int ((ts.getD k 0 : Nat) : Int)) := by
  unfold nV
  rw [List.getElem?_map, List.getElem?_eq_getElem h, List.getD_eq_getElem?_getD, List.getElem?_eq_getElem h]
  rfl
theorem machineAt_get {w : Sr120.Workshop} {i : Nat} (h : i < w.length) : w[i]? = some (Sr120.machineAt w i) := by
  unfold Sr120.machineAt
  rw [List.getD_eq_getElem?_getD, List.getElem?_eq_getElem h]
  rfl
section
variable {K : PySem.W.Frag} {σ : L2.St} {H H' : Hp} {ta tb te : TE} {a : Addr} {w : Sr120.Workshop}
/-- machines[i] -/
theorem ev_mach {i : Nat} (h : MsAt H a w) (hi : i < w.length) (h1 : Ev ta σ H (.ref a)) (h2 : Ev tb σ H (.int (i : Int))) : ∃ r, H r = some (.tup (mV (Sr120.machineAt w i))) ∧ Ev (tOp (rIxL K) ta tb) σ H (.ref r) := by
  obtain ⟨rs, a1, a2, a3⟩ := h
  obtain ⟨r, b1, b2⟩ := a3 i _ (machineAt_get hi)
  refine ⟨r, b2, ev_op h1 h2 (rv_ixL (xs := rs.map V.ref) (sq_of a1) (atI_nat ?_))⟩
  rw [List.getElem?_map, b1]
  rfl
theorem MsAt.sq (h : MsAt H a w) : ∃ xs : List V, xs.length = w.length ∧ H a = some (.lst xs) := by
  obtain ⟨rs, a1, a2, a3⟩ := h
  exact ⟨_, by rw [List.length_map]; exact a2, a1⟩
end
end Tw
namespace Tw
open PySem PySem.Spec PyProof.Rows L2 Evl
section
variable {P : Program} {w : World} {K : PySem.W.Frag} {mg : Str → Option Value} {base : Heap}
/-! ### the small defs -/
theorem MsAt.get {H : Hp} {a : Addr} {ws : Sr120.Workshop} {i : Nat} (h : MsAt H a ws) (hi : i < ws.length) : ∃ (xs : List V) (r : Addr), H a = some (.lst xs) ∧ xs.length = ws.length ∧ xs[i]? = some (.ref r) ∧ H r = some (.tup (mV (Sr120.machineAt ws i))) := by
  obtain ⟨rs, a1, a2, a3⟩ := h
  obtain ⟨r, b1, b2⟩ := a3 i _ (machineAt_get hi)
  refine ⟨_, r, a1, by rw [List.length_map]; exact a2, ?_, b2⟩
  rw [List.getElem?_map, b1]
  rfl
def sp_is_within (_ : PySem.W.Frag) : Sp := spV fun vs _ z => ∃ n lo hi : Int, vs = [.int n, .int lo, .int hi] ∧ z = .bl (SrCommon.inRange n lo hi)
abbrev st_is_within : Stmt := top 20
abbrev N_is_within : List Str := ["number", "least", "most"]
theorem sc_is_within : FnScope N_is_within ["number", "least", "most"] (defScope st_is_within) := ⟨rfl, rfl, rfl, by decide +kernel, rfl, by decide +kernel, by decide +kernel⟩
theorem ok_is_within (D0 : DefAt K mg "is_within" st_is_within ["number", "least", "most"])   : Fn P w K mg base "is_within" 1 (sp_is_within K) := by
  refine D0.fn fun f fd F => F.ok sc_is_within (fun vs H Q E h => ?_) (fun cdv A outer s H vs Q E hr h => ?_)
  · obtain ⟨z, H0, e0, ⟨n, lo, hi, rfl, rfl⟩, k⟩ := h; rfl
  · obtain ⟨z, H0, e0, ⟨n, lo, hi, rfl, rfl⟩, k⟩ := h
    refine ⟨_, (pss_one (ps_ret (pe_and (pe_cmpR op_le (pv 1) (pv 0) (nomark _)) (pe_one (pe_cmpR op_le (pv 0) (pv 2) (nomark _)))))), ?_⟩
    exact s_ret (v := .bl (SrCommon.inRange n lo hi)) (ev_andV (ev_op (ev_var rfl) (ev_var rfl) rv_I0) (fun _ => ev_op (ev_var rfl) (ev_var rfl) rv_I0)) k
def sp_position_of (_ : PySem.W.Frag) : Sp := spV fun vs H z => ∃ (r : Addr) (m : Sr120.Machine), vs = [.ref r] ∧ H r = some (.tup (mV m)) ∧ z = .int (m.position : Int)
abbrev st_position_of : Stmt := top 23
abbrev N_position_of : List Str := ["machine"]
theorem sc_position_of : FnScope N_position_of ["machine"] (defScope st_position_of) := ⟨rfl, rfl, rfl, by decide +kernel, rfl, by decide +kernel, by decide +kernel⟩
theorem ok_position_of (D0 : DefAt K mg "position_of" st_position_of ["machine"])   : Fn P w K mg base "position_of" 1 (sp_position_of K) := by
  refine D0.fn fun f fd F => F.ok sc_position_of (fun vs H Q E h => ?_) (fun cdv A outer s H vs Q E hr h => ?_)
  · obtain ⟨z, H0, e0, ⟨r, m, rfl, hm, rfl⟩, k⟩ := h; rfl
  · obtain ⟨z, H0, e0, ⟨r, m, rfl, hm, rfl⟩, k⟩ := h
    refine ⟨_, (pss_one (ps_ret (pe_ix ix_tup (pv 0) pe_int (fun _ _ => rfl)))), ?_⟩
    exact s_ret (ev_op (ev_var rfl) ev_c (rv_ixT (st_of (e0 _ _ hm)) rfl)) k
def sp_run_time_of (_ : PySem.W.Frag) : Sp := spV fun vs H z => ∃ (r : Addr) (m : Sr120.Machine), vs = [.ref r] ∧ H r = some (.tup (mV m)) ∧ z = .int (m.runTime : Int)
abbrev st_run_time_of : Stmt := top 24
abbrev N_run_time_of : List Str := ["machine"]
theorem sc_run_time_of : FnScope N_run_time_of ["machine"] (defScope st_run_time_of) := ⟨rfl, rfl, rfl, by decide +kernel, rfl, by decide +kernel, by decide +kernel⟩
theorem ok_run_time_of (D0 : DefAt K mg "run_time_of" st_run_time_of ["machine"])   : Fn P w K mg base "run_time_of" 1 (sp_run_time_of K) := by
  refine D0.fn fun f fd F => F.ok sc_run_time_of (fun vs H Q E h => ?_) (fun cdv A outer s H vs Q E hr h => ?_)
  · obtain ⟨z, H0, e0, ⟨r, m, rfl, hm, rfl⟩, k⟩ := h; rfl
  · obtain ⟨z, H0, e0, ⟨r, m, rfl, hm, rfl⟩, k⟩ := h
    refine ⟨_, (pss_one (ps_ret (pe_ix ix_tup (pv 0) pe_int (fun _ _ => rfl)))), ?_⟩
    exact s_ret (ev_op (ev_var rfl) ev_c (rv_ixT (st_of (e0 _ _ hm)) rfl)) k
def sp_service_time_of (_ : PySem.W.Frag) : Sp := spV fun vs H z => ∃ (r : Addr) (m : Sr120.Machine), vs = [.ref r] ∧ H r = some (.tup (mV m)) ∧ z = .int (m.serviceTime : Int)
abbrev st_service_time_of : Stmt := top 25
abbrev N_service_time_of : List Str := ["machine"]
theorem sc_service_time_of : FnScope N_service_time_of ["machine"] (defScope st_service_time_of) := ⟨rfl, rfl, rfl, by decide +kernel, rfl, by decide +kernel, by decide +kernel⟩
theorem ok_service_time_of (D0 : DefAt K mg "service_time_of" st_service_time_of ["machine"])   : Fn P w K mg base "service_time_of" 1 (sp_service_time_of K) := by
  refine D0.fn fun f fd F => F.ok sc_service_time_of (fun vs H Q E h => ?_) (fun cdv A outer s H vs Q E hr h => ?_)
  · obtain ⟨z, H0, e0, ⟨r, m, rfl, hm, rfl⟩, k⟩ := h; rfl
  · obtain ⟨z, H0, e0, ⟨r, m, rfl, hm, rfl⟩, k⟩ := h
    refine ⟨_, (pss_one (ps_ret (pe_ix ix_tup (pv 0) pe_int (fun _ _ => rfl)))), ?_⟩
    exact s_ret (ev_op (ev_var rfl) ev_c (rv_ixT (st_of (e0 _ _ hm)) rfl)) k
def sp_round_time_of (_ : PySem.W.Frag) : Sp := spV fun vs H z => ∃ (r : Addr) (m : Sr120.Machine), vs = [.ref r] ∧ H r = some (.tup (mV m)) ∧ z = .int ((m.runTime + m.serviceTime : Nat) : Int)
abbrev st_round_time_of : Stmt := top 26
abbrev N_round_time_of : List Str := ["machine"]
theorem sc_round_time_of : FnScope N_round_time_of ["machine"] (defScope st_round_time_of) := ⟨rfl, rfl, rfl, by decide +kernel, rfl, by decide +kernel, by decide +kernel⟩
theorem ok_round_time_of (D0 : DefAt K mg "round_time_of" st_round_time_of ["machine"]) (f_run_time_of : Fn P w K mg base "run_time_of" 1 (sp_run_time_of K)) (f_service_time_of : Fn P w K mg base "service_time_of" 1 (sp_service_time_of K))  : Fn P w K mg base "round_time_of" 2 (sp_round_time_of K) := by
  refine D0.fn fun f fd F => F.ok sc_round_time_of (fun vs H Q E h => ?_) (fun cdv A outer s H vs Q E hr h => ?_)
  · obtain ⟨z, H0, e0, ⟨r, m, rfl, hm, rfl⟩, k⟩ := h; rfl
  · obtain ⟨z, H0, e0, ⟨r, m, rfl, hm, rfl⟩, k⟩ := h
    refine ⟨_, (pss_one (ps_ret (pe_op op_add (pe_fn f_run_time_of hr (by decide) rfl (pa_cons (pv 0) pa_nil)) (pe_fn f_service_time_of hr (by decide) rfl (pa_cons (pv 0) pa_nil))))), ?_⟩
    have hm := e0 _ _ hm
    exact s_ret (ev_op (ev_fn (ea_cons (ev_var rfl) ea_nil) fun H1 e => ⟨r, m, rfl, e _ _ hm, rfl⟩) (ev_fn (ea_cons (ev_var rfl) ea_nil) fun H1 e => ⟨r, m, rfl, e _ _ hm, rfl⟩) rv_I0) k
def sp_has_machine (_ : PySem.W.Frag) : Sp := spV fun vs H z => ∃ (a : Addr) (xs : List V) (i : Int), vs = [.ref a, .int i] ∧ H a = some (.lst xs) ∧ z = .bl (SrCommon.isIndex i xs.length)
abbrev st_has_machine : Stmt := top 27
abbrev N_has_machine : List Str := ["machines", "index"]
theorem sc_has_machine : FnScope N_has_machine ["machines", "index"] (defScope st_has_machine) := ⟨rfl, rfl, rfl, by decide +kernel, rfl, by decide +kernel, by decide +kernel⟩
theorem ok_has_machine (D0 : DefAt K mg "has_machine" st_has_machine ["machines", "index"]) (b_len : mg "len" = none)  : Fn P w K mg base "has_machine" 1 (sp_has_machine K) := by
  refine D0.fn fun f fd F => F.ok sc_has_machine (fun vs H Q E h => ?_) (fun cdv A outer s H vs Q E hr h => ?_)
  · obtain ⟨z, H0, e0, ⟨a, xs, i, rfl, ha, rfl⟩, k⟩ := h; rfl
  · obtain ⟨z, H0, e0, ⟨a, xs, i, rfl, ha, rfl⟩, k⟩ := h
    refine ⟨_, (pss_one (ps_ret (pe_and (pe_cmpR op_le pe_int (pv 1) (nomark _)) (pe_one (pe_cmpR op_lt (pv 1) (pe_callB call_len_seq (by rfl) b_len (by decide +kernel) (pa_cons (pv 0) pa_nil)) (nomark _)))))), ?_⟩
    have ha := e0 _ _ ha
    exact s_ret (v := .bl (SrCommon.isIndex i xs.length)) (ev_andV (ev_op ev_c (ev_var rfl) rv_I0) (fun _ => ev_op (ev_var rfl) (ev_len (ev_var rfl) (sq_of ha)) rv_I0)) k
def sp_distance (_ : PySem.W.Frag) : Sp := spV fun vs H z => ∃ (a : Addr) (ws : Sr120.Workshop) (i j : Nat), vs = [.ref a, .int (i : Int), .int (j : Int)] ∧ MsAt H a ws ∧ i < ws.length ∧ j < ws.length ∧ z = .int ((dist ws i j : Nat) : Int)
theorem dist_abs (p q : Nat) : (if (p : Int) - (q : Int) < 0 then -((p : Int) - (q : Int)) else (p : Int) - (q : Int)) = ((Sr120.distance p q : Nat) : Int) := by
  unfold Sr120.distance
  split <;> omega
abbrev st_distance : Stmt := top 46
abbrev N_distance : List Str := ["machines", "one", "other"]
theorem sc_distance : FnScope N_distance ["machines", "one", "other"] (defScope st_distance) := ⟨rfl, rfl, rfl, by decide +kernel, rfl, by decide +kernel, by decide +kernel⟩
theorem ok_distance (D0 : DefAt K mg "distance" st_distance ["machines", "one", "other"]) (b_abs : mg "abs" = none) (f_position_of : Fn P w K mg base "position_of" 1 (sp_position_of K))  : Fn P w K mg base "distance" 2 (sp_distance K) := by
  refine D0.fn fun f fd F => F.ok sc_distance (fun vs H Q E h => ?_) (fun cdv A outer s H vs Q E hr h => ?_)
  · obtain ⟨z, H0, e0, ⟨a, ws, i, j, rfl, hm, hi, hj, rfl⟩, k⟩ := h; rfl
  · obtain ⟨z, H0, e0, ⟨a, ws, i, j, rfl, hm, hi, hj, rfl⟩, k⟩ := h
    refine ⟨_, (pss_one (ps_ret (pe_callB call_abs (by rfl) b_abs (by decide +kernel) (pa_cons (pe_op op_sub (pe_fn f_position_of hr (by decide) rfl (pa_cons (pe_ix ix_list (pv 0) (pv 1) (fun _ _ => rfl)) pa_nil)) (pe_fn f_position_of hr (by decide) rfl (pa_cons (pe_ix ix_list (pv 0) (pv 2) (fun _ _ => rfl)) pa_nil))) pa_nil)))), ?_⟩
    obtain ⟨xs, r, h1, h2, h3, h4⟩ := (hm.mono e0).get hi
    obtain ⟨ys, s, g1, g2, g3, g4⟩ := (hm.mono e0).get hj
    exact s_ret (ev_is (ev_cb (ea_cons (ev_op (ev_fn (ea_cons (ev_op (ev_var rfl) (ev_var rfl) (rv_ixL (sq_of h1) (atI_nat h3))) ea_nil) fun H1 e => ⟨r, _, rfl, e _ _ h4, rfl⟩)
      (ev_fn (ea_cons (ev_op (ev_var rfl) (ev_var rfl) (rv_ixL (sq_of g1) (atI_nat g3))) ea_nil) fun H1 e => ⟨s, _, rfl, e _ _ g4, rfl⟩) rv_I0) ea_nil) rc_abs) (congrArg V.int (dist_abs _ _))) k
end
end Tw
namespace Tw
open PySem PySem.Spec PyProof.Rows L2 Evl
section
variable {P : Program} {w : World} {K : PySem.W.Frag} {mg : Str → Option Value} {base : Heap}
/-! ### tours -/
structure Tour (ws : Sr120.Workshop) (ts : List Nat) : Prop where
  len : ts.length ≤ 1000
  lt : ∀ i ∈ ts, i < ws.length
theorem nV_at {ts : List Nat} {i : Nat} {x : V} (h : (nV ts)[i]? = some x) : i < ts.length ∧ x = .int ((ts.getD i 0 : Nat) : Int) := by
  have hi : i < ts.length := by
    have := (List.getElem?_eq_some_iff.mp h).1
    rw [nV_len] at this
    exact this
  rw [nV_get hi] at h
  exact ⟨hi, (Option.some.inj h).symm⟩
theorem getD_mem {ts : List Nat} {i : Nat} (h : i < ts.length) : ts.getD i 0 ∈ ts := by
  rw [List.getD_eq_getElem?_getD, List.getElem?_eq_getElem h]
  exact List.getElem_mem h
theorem nxt_mem {ts : List Nat} {k : Nat} (h : k < ts.length) : nxt ts k ∈ ts := getD_mem (Nat.mod_lt _ (by omega))
theorem Tour.at {ws : Sr120.Workshop} {ts : List Nat} (T : Tour ws ts) {i : Nat} (h : i < ts.length) : ts.getD i 0 < ws.length := T.lt _ (getD_mem h)
theorem Tour.nx {ws : Sr120.Workshop} {ts : List Nat} (T : Tour ws ts) {i : Nat} (h : i < ts.length) : nxt ts i < ws.length := T.lt _ (nxt_mem h)
theorem fmod_nat (a b : Nat) : Int.fmod (a : Int) (b : Int) = ((a % b : Nat) : Int) := by
  rw [Int.fmod_eq_emod_of_nonneg _ (Int.natCast_nonneg _)]
  rfl
theorem fdiv_nat (a b : Nat) : Int.fdiv (a : Int) (b : Int) = ((a / b : Nat) : Int) := by
  rw [Int.fdiv_eq_ediv_of_nonneg _ (Int.natCast_nonneg _)]
  rfl
theorem given_all (n : Nat) (v : Nat → V) : given n (fun _ => true) v = (List.range n).map v := by
  unfold given
  rw [List.filter_eq_self.mpr fun _ _ => rfl]
theorem max_nat (a b : Nat) : (if (b : Int) > (a : Int) then (b : Int) else (a : Int)) = ((max a b : Nat) : Int) := by
  split <;> omega
theorem map_range_getD (g : Nat → V) (ts : List Nat) : (List.range ts.length).map (fun i => g (ts.getD i 0)) = ts.map g := by
  refine List.ext_getElem (by simp) fun i h1 h2 => ?_
  simp only [List.getElem_map, List.getElem_range]
  rw [List.getD_eq_getElem?_getD, List.getElem?_eq_getElem (by simpa using h2)]
  rfl
def sp_next_in (_ : PySem.W.Frag) : Sp := spV fun vs H z => ∃ (t : Addr) (ts : List Nat) (k : Nat), vs = [.ref t, .int (k : Int)] ∧ H t = some (.lst (nV ts)) ∧ k < ts.length ∧ z = .int ((nxt ts k : Nat) : Int)
abbrev st_next_in : Stmt := top 48
abbrev N_next_in : List Str := ["tour", "place"]
theorem sc_next_in : FnScope N_next_in ["tour", "place"] (defScope st_next_in) := ⟨rfl, rfl, rfl, by decide +kernel, rfl, by decide +kernel, by decide +kernel⟩
theorem ok_next_in (D0 : DefAt K mg "next_in" st_next_in ["tour", "place"]) (b_len : mg "len" = none)  : Fn P w K mg base "next_in" 1 (sp_next_in K) := by
  refine D0.fn fun f fd F => F.ok sc_next_in (fun vs H Q E h => ?_) (fun cdv A outer s H vs Q E hr h => ?_)
  · obtain ⟨z, H0, e0, ⟨t, ts, k, rfl, ht, hk, rfl⟩, q⟩ := h; rfl
  · obtain ⟨z, H0, e0, ⟨t, ts, k, rfl, ht, hk, rfl⟩, q⟩ := h
    refine ⟨_, (pss_one (ps_ret (pe_ix (r := rIxL K) ix_list (pv 0) (pe_op op_modN (pe_op op_add (pv 1) pe_int) (pe_callB call_len_seq (by rfl) b_len (by decide +kernel) (pa_cons (pv 0) pa_nil))) (fun _ _ => rfl)))), ?_⟩
    have ht := e0 _ _ ht
    have hn : ts.length ≠ 0 := by omega
    exact s_ret (ev_op (ev_var rfl) (ev_is (ev_op (ev_op (ev_var rfl) ev_c rv_I0) (ev_len (ev_var rfl) (sq_of ht)) (rv_I (by rw [nV_len]; omega))) (congrArg V.int (show Int.fmod ((k : Int) + 1) ((nV ts).length : Int) = (((k + 1) % ts.length : Nat) : Int) by rw [nV_len]; exact fmod_nat (k + 1) ts.length)))
      (rv_ixL (sq_of ht) (atI_nat (nV_get (Nat.mod_lt _ (by omega)))))) q
/-- distance(machines, index, next_in(tour, place)) -/
theorem ev_leg {σ : L2.St} {H : Hp} {a t : Addr} {ws : Sr120.Workshop} {ts : List Nat} {i : Nat} {t1 t2 t3 t4 : TE} {E1 E2 : XK} (hm : MsAt H a ws) (ht : H t = some (.lst (nV ts))) (T : Tour ws ts) (hi : i < ts.length) (h1 : Ev t1 σ H (.ref a)) (h2 : Ev t2 σ H (.int ((ts.getD i 0 : Nat) : Int))) (h3 : Ev t3 σ H (.ref t)) (h4 : Ev t4 σ H (.int (i : Int))) :
    Ev (tCall (sp_distance K) [] E1 (tCons t1 (tCons t2 (tCons (tCall (sp_next_in K) [] E2 (tCons t3 (tCons t4 tNil))) tNil)))) σ H (.int ((dist ws (ts.getD i 0) (nxt ts i) : Nat) : Int)) :=
  ev_fn (ea_cons h1 (ea_cons h2 (ea_cons (ev_fn (ea_cons h3 (ea_cons h4 ea_nil)) fun H1 e => ⟨t, ts, i, rfl, e _ _ ht, hi, rfl⟩) ea_nil))) fun H1 e => ⟨a, ws, _, _, rfl, hm.mono e, T.at hi, T.nx hi, rfl⟩
/-- service_time_of(machines[index]) -/
theorem ev_serv {σ : L2.St} {H : Hp} {a : Addr} {ws : Sr120.Workshop} {i : Nat} {t1 t2 : TE} {E : XK} (hm : MsAt H a ws) (hi : i < ws.length) (h1 : Ev t1 σ H (.ref a)) (h2 : Ev t2 σ H (.int (i : Int))) :
    Ev (tCall (sp_service_time_of K) [] E (tCons (tOp (rIxL K) t1 t2) tNil)) σ H (.int ((serv ws i : Nat) : Int)) := by
  obtain ⟨xs, r, a1, a2, a3, a4⟩ := hm.get hi
  exact ev_fn (ea_cons (ev_op h1 h2 (rv_ixL (sq_of a1) (atI_nat a3))) ea_nil) fun H1 e => ⟨r, _, rfl, e _ _ a4, rfl⟩
theorem ev_rnd {σ : L2.St} {H : Hp} {a : Addr} {ws : Sr120.Workshop} {i : Nat} {t1 t2 : TE} {E : XK} (hm : MsAt H a ws) (hi : i < ws.length) (h1 : Ev t1 σ H (.ref a)) (h2 : Ev t2 σ H (.int (i : Int))) :
    Ev (tCall (sp_round_time_of K) [] E (tCons (tOp (rIxL K) t1 t2) tNil)) σ H (.int ((rnd ws i : Nat) : Int)) := by
  obtain ⟨xs, r, a1, a2, a3, a4⟩ := hm.get hi
  exact ev_fn (ea_cons (ev_op h1 h2 (rv_ixL (sq_of a1) (atI_nat a3))) ea_nil) fun H1 e => ⟨r, _, rfl, e _ _ a4, rfl⟩
/-- arguments: machines, a tour -/
def ArgT (vs : List V) (H : Hp) (a t : Addr) (ws : Sr120.Workshop) (ts : List Nat) : Prop := vs = [.ref a, .ref t] ∧ MsAt H a ws ∧ H t = some (.lst (nV ts)) ∧ Tour ws ts
def sp_walking_time (_ : PySem.W.Frag) : Sp := spV fun vs H z => ∃ (a t : Addr) (ws : Sr120.Workshop) (ts : List Nat), ArgT vs H a t ws ts ∧ z = .int ((Sr120.walkTime ws ts : Nat) : Int)
abbrev st_walking_time : Stmt := top 49
abbrev N_walking_time : List Str := ["machines", "tour", "found", "place", "index"]
theorem sc_walking_time : FnScope N_walking_time ["machines", "tour"] (defScope st_walking_time) := ⟨rfl, rfl, rfl, by decide +kernel, rfl, by decide +kernel, by decide +kernel⟩
theorem ok_walking_time (D0 : DefAt K mg "walking_time" st_walking_time ["machines", "tour"]) (b_enumerate : mg "enumerate" = none) (f_distance : Fn P w K mg base "distance" 2 (sp_distance K)) (f_next_in : Fn P w K mg base "next_in" 1 (sp_next_in K))  : Fn P w K mg base "walking_time" 3 (sp_walking_time K) := by
  refine D0.fn fun f fd F => F.ok sc_walking_time (fun vs H Q E h => ?_) (fun cdv A outer s H vs Q E hr h => ?_)
  · obtain ⟨z, H0, e0, ⟨a, t, ws, ts, ⟨rfl, hm, ht, T⟩, rfl⟩, q⟩ := h; rfl
  · obtain ⟨z, H0, e0, ⟨a, t, ws, ts, ⟨rfl, hm, ht, T⟩, rfl⟩, q⟩ := h
    refine ⟨_, (pss_cons (ps_set (i := 2) sc_walking_time.nd rfl (Or.inl rfl) pe_int) (pss_cons (ps_for PassesOwn.never rfl (pi_enum (by rfl) b_enumerate (pa_cons (pv 1) pa_nil)) (pg_tup rfl (pgs_cons (pg_name (i := 3) sc_walking_time.nd rfl (Or.inl rfl)) (pgs_cons (pg_name (i := 4) sc_walking_time.nd rfl (Or.inl rfl)) pgs_nil))) (pss_one (ps_aug (i := 2) sc_walking_time.nd rfl (Or.inl rfl) (pe_fn f_distance hr (by decide) rfl (pa_cons (pv 0) (pa_cons (pv 4) (pa_cons (pe_fn f_next_in hr (by decide) rfl (pa_cons (pv 1) (pa_cons (pv 3) pa_nil))) pa_nil)))) ip_add))) (pss_one (ps_ret (pv 2))))), ?_⟩
    have hm := hm.mono e0
    have ht := e0 _ _ ht
    refine q_asg ev_c fun H1 e1 => ?_
    refine q_forE (xs := nV ts) (ea_cons (ev_var rfl) ea_nil) (sq_of (e1 _ _ ht)) (fun i σ' H' => ∃ v3 v4 : Option V, σ' = [some (.ref a), some (.ref t), some (.int ((walkM ws ts i : Nat) : Int)), v3, v4] ∧ Ex H H')
      (fun H2 e2 => ⟨none, none, rfl, e1.trans e2⟩) (fun i σ' H' _ ⟨_, _, _, e'⟩ => sq_of (e' _ _ ht)) ?_ ?_
    · rintro i x σ' H' H'' hx ⟨v3, v4, rfl, e'⟩ e''
      obtain ⟨hi, rfl⟩ := nV_at hx
      have eH := e'.trans e''
      refine s_aug (a := ((walkM ws ts i : Nat) : Int)) rfl (ev_leg (hm.mono eH) (eH _ _ ht) T hi (ev_var rfl) (ev_var rfl) (ev_var rfl) (ev_var rfl)) fun H3 e3 => ⟨_, _, rfl, eH.trans e3⟩
    · rintro σ' H' ⟨v3, v4, rfl, e'⟩
      refine s_ret (ev_var rfl) fun H3 e3 => ?_
      rw [nV_len, walk_eq]
      exact q H3 (e'.trans e3)
def sp_busy_time (_ : PySem.W.Frag) : Sp := spV fun vs H z => ∃ (a t : Addr) (ws : Sr120.Workshop) (ts : List Nat), ArgT vs H a t ws ts ∧ z = .int ((Sr120.busyTime ws ts : Nat) : Int)
abbrev st_busy_time : Stmt := top 50
abbrev N_busy_time : List Str := ["machines", "tour", "index"]
theorem sc_busy_time : FnScope N_busy_time ["machines", "tour"] (defScope st_busy_time) := ⟨rfl, rfl, rfl, by decide +kernel, rfl, by decide +kernel, by decide +kernel⟩
theorem ok_busy_time (D0 : DefAt K mg "busy_time" st_busy_time ["machines", "tour"]) (b_sum : mg "sum" = none) (f_walking_time : Fn P w K mg base "walking_time" 3 (sp_walking_time K)) (f_service_time_of : Fn P w K mg base "service_time_of" 1 (sp_service_time_of K))  : Fn P w K mg base "busy_time" 4 (sp_busy_time K) := by
  refine D0.fn fun f fd F => F.ok sc_busy_time (fun vs H Q E h => ?_) (fun cdv A outer s H vs Q E hr h => ?_)
  · obtain ⟨z, H0, e0, ⟨a, t, ws, ts, ⟨rfl, hm, ht, T⟩, rfl⟩, q⟩ := h; rfl
  · obtain ⟨z, H0, e0, ⟨a, t, ws, ts, ⟨rfl, hm, ht, T⟩, rfl⟩, q⟩ := h
    refine ⟨_, (pss_one (ps_ret (pe_op op_add (pe_callB (cr_sum rfl) (by rfl) b_sum (by decide +kernel) (pa_cons (pe_lc (own := [("index", 2)]) (g := gName 2) rfl sc_busy_time.nd (pi_list (pv 1)) (blkOk_by (own := [("index", 2)]) (N := N_busy_time) (sc := defScope st_busy_time) (by decide +kernel)) (fun _ _ _ _ _ => (pg_name (i := 2) sc_busy_time.nd rfl (Or.inl rfl))) (fun _ _ _ _ _ => pts_nil) (fun _ _ _ _ _ => (pe_fn f_service_time_of hr (by decide) rfl (pa_cons (pe_ix (r := rIxL K) ix_list (pv 0) (pv 2) (fun _ _ => rfl)) pa_nil)))) pa_nil)) (pe_fn f_walking_time hr (by decide) rfl (pa_cons (pv 0) (pa_cons (pv 1) pa_nil)))))), ?_⟩
    have hm := hm.mono e0
    have ht := e0 _ _ ht
    refine s_ret (v := .int ((Sr120.busyTime ws ts : Nat) : Int)) (ev_op (evP_cb (z := .int ((SrCommon.sum (ts.map (serv ws)) : Nat) : Int)) (eap_cons (EvL.toP (el_lcL (fun _ => true) (fun i => .int ((serv ws (ts.getD i 0) : Nat) : Int)) (ev_var rfl) (sq_of ht) (by rw [nV_len]; have := T.len; omega) (fun _ => rfl) (fun i x H1 e hx H2 e2 Q k => k H2 (Ex.refl H2)) (fun i x H1 e hx _ => by
        obtain ⟨hi, rfl⟩ := nV_at hx
        exact ev_serv (hm.mono e) (T.at hi) (ev_var rfl) (ev_var rfl)))) fun v H1 e1 ⟨p, ev, hp⟩ => eap_nil fun H2 e2 => ?_))
      (ev_fn (ea_cons (ev_var rfl) (ea_cons (ev_var rfl) ea_nil)) fun H1 e => ⟨a, t, ws, ts, ⟨rfl, hm.mono e, e _ _ ht, T⟩, rfl⟩) rv_I0) q
    subst ev
    have hp' := e2 _ _ hp
    rw [given_all, nV_len, map_range_getD (fun i => .int ((serv ws i : Nat) : Int)) ts] at hp'
    rw [← sum_map_int]
    refine rc_sum (ns := ts.map fun i => ((serv ws i : Nat) : Int)) (sq_of ?_)
    rw [hp', List.map_map]
    rfl
def sp_cycle_time (_ : PySem.W.Frag) : Sp := spV fun vs H z => ∃ (a t : Addr) (ws : Sr120.Workshop) (ts : List Nat), ArgT vs H a t ws ts ∧ z = .int ((Sr120.cycleTime ws ts : Nat) : Int)
theorem cycM_succ {ws : Sr120.Workshop} {ts : List Nat} {i : Nat} (h : i < ts.length) : cycM ws ts (i + 1) = max (cycM ws ts i) (rnd ws (ts.getD i 0)) := by
  unfold cycM
  rw [List.take_succ, List.getElem?_eq_getElem h, List.map_append, List.foldl_append, List.getD_eq_getElem?_getD, List.getElem?_eq_getElem h]
  rfl
abbrev st_cycle_time : Stmt := top 51
abbrev N_cycle_time : List Str := ["machines", "tour", "found", "index"]
theorem sc_cycle_time : FnScope N_cycle_time ["machines", "tour"] (defScope st_cycle_time) := ⟨rfl, rfl, rfl, by decide +kernel, rfl, by decide +kernel, by decide +kernel⟩
theorem ok_cycle_time (D0 : DefAt K mg "cycle_time" st_cycle_time ["machines", "tour"]) (b_max : mg "max" = none) (f_busy_time : Fn P w K mg base "busy_time" 4 (sp_busy_time K)) (f_round_time_of : Fn P w K mg base "round_time_of" 2 (sp_round_time_of K))  : Fn P w K mg base "cycle_time" 5 (sp_cycle_time K) := by
  refine D0.fn fun f fd F => F.ok sc_cycle_time (fun vs H Q E h => ?_) (fun cdv A outer s H vs Q E hr h => ?_)
  · obtain ⟨z, H0, e0, ⟨a, t, ws, ts, ⟨rfl, hm, ht, T⟩, rfl⟩, q⟩ := h; rfl
  · obtain ⟨z, H0, e0, ⟨a, t, ws, ts, ⟨rfl, hm, ht, T⟩, rfl⟩, q⟩ := h
    refine ⟨_, (pss_cons (ps_set (i := 2) sc_cycle_time.nd rfl (Or.inl rfl) (pe_fn f_busy_time hr (by decide) rfl (pa_cons (pv 0) (pa_cons (pv 1) pa_nil)))) (pss_cons (ps_for PassesOwn.never rfl (pi_list (pv 1)) (pg_name (i := 3) sc_cycle_time.nd rfl (Or.inl rfl)) (pss_one (ps_set (i := 2) sc_cycle_time.nd rfl (Or.inl rfl) (pe_callB (call_max2 rfl) (by rfl) b_max (by decide +kernel) (pa_cons (pv 2) (pa_cons (pe_fn f_round_time_of hr (by decide) rfl (pa_cons (pe_ix (r := rIxL K) ix_list (pv 0) (pv 3) (fun _ _ => rfl)) pa_nil)) pa_nil)))))) (pss_one (ps_ret (pv 2))))), ?_⟩
    have hm := hm.mono e0
    have ht := e0 _ _ ht
    refine q_asg (ev_fn (ea_cons (ev_var rfl) (ea_cons (ev_var rfl) ea_nil)) fun H1 e => ⟨a, t, ws, ts, ⟨rfl, hm.mono e, e _ _ ht, T⟩, rfl⟩) fun H1 e1 => ?_
    refine q_forLn (xs := nV ts) (ev_var rfl) (sq_of (e1 _ _ ht)) (fun i σ' H' => ∃ v3 : Option V, σ' = [some (.ref a), some (.ref t), some (.int ((cycM ws ts i : Nat) : Int)), v3] ∧ Ex H H')
      (fun H2 e2 => ⟨none, rfl, e1.trans e2⟩) (fun i σ' H' _ ⟨_, _, e'⟩ => sq_of (e' _ _ ht)) ?_ ?_
    · rintro i x σ' H' hx ⟨v3, rfl, e'⟩
      obtain ⟨hi, rfl⟩ := nV_at hx
      refine s_asg (ev_is (ev_cb (ea_cons (ev_var rfl) (ea_cons (ev_rnd (hm.mono e') (T.at hi) (ev_var rfl) (ev_var rfl)) ea_nil)) rc_max) (congrArg V.int (max_nat _ _))) fun H3 e3 => ⟨some (.int ((ts.getD i 0 : Nat) : Int)), ?_, e'.trans e3⟩
      rw [cycM_succ hi]
      rfl
    · rintro σ' H' ⟨v3, rfl, e'⟩
      refine s_ret (ev_var rfl) fun H3 e3 => ?_
      rw [nV_len, cyc_eq]
      exact q H3 (e'.trans e3)
def sp_start_times (_ : PySem.W.Frag) : Sp := spL fun vs H xs => ∃ (a t : Addr) (ws : Sr120.Workshop) (ts : List Nat), ArgT vs H a t ws ts ∧ xs = nV (Sr120.startTimes ws ts)
abbrev st_start_times : Stmt := top 52
abbrev N_start_times : List Str := ["machines", "tour", "found", "time", "place", "index"]
theorem sc_start_times : FnScope N_start_times ["machines", "tour"] (defScope st_start_times) := ⟨rfl, rfl, rfl, by decide +kernel, rfl, by decide +kernel, by decide +kernel⟩
theorem ok_start_times (D0 : DefAt K mg "start_times" st_start_times ["machines", "tour"]) (b_enumerate : mg "enumerate" = none) (f_service_time_of : Fn P w K mg base "service_time_of" 1 (sp_service_time_of K)) (f_distance : Fn P w K mg base "distance" 2 (sp_distance K)) (f_next_in : Fn P w K mg base "next_in" 1 (sp_next_in K))  : Fn P w K mg base "start_times" 3 (sp_start_times K) := by
  refine D0.fn fun f fd F => F.ok sc_start_times (fun vs H Q E h => ?_) (fun cdv A outer s H vs Q E hr h => ?_)
  · obtain ⟨z, H0, e0, ⟨a, t, ws, ts, ⟨rfl, hm, ht, T⟩, rfl⟩, q⟩ := h; rfl
  · obtain ⟨z, H0, e0, ⟨a, t, ws, ts, ⟨rfl, hm, ht, T⟩, rfl⟩, q⟩ := h
    refine ⟨_, (pss_cons (ps_set (i := 2) sc_start_times.nd rfl (Or.inl rfl) (pe_lst pa_nil)) (pss_cons (ps_set (i := 3) sc_start_times.nd rfl (Or.inl rfl) pe_int) (pss_cons (ps_for PassesOwn.never rfl (pi_enum (by rfl) b_enumerate (pa_cons (pv 1) pa_nil)) (pg_tup rfl (pgs_cons (pg_name (i := 4) sc_start_times.nd rfl (Or.inl rfl)) (pgs_cons (pg_name (i := 5) sc_start_times.nd rfl (Or.inl rfl)) pgs_nil))) (pss_cons (ps_expr (pe_bm PySem.F.plainAttrs_list PySem.F.slot_list_append PySem.F.type_list_append mt_append (pv 2) (pa_cons (pv 3) pa_nil))) (pss_one (ps_aug (i := 3) sc_start_times.nd rfl (Or.inl rfl) (pe_op op_add (pe_fn f_service_time_of hr (by decide) rfl (pa_cons (pe_ix (r := rIxL K) ix_list (pv 0) (pv 5) (fun _ _ => rfl)) pa_nil)) (pe_fn f_distance hr (by decide) rfl (pa_cons (pv 0) (pa_cons (pv 5) (pa_cons (pe_fn f_next_in hr (by decide) rfl (pa_cons (pv 1) (pa_cons (pv 4) pa_nil))) pa_nil))))) ip_add)))) (pss_one (ps_ret (pv 2)))))), ?_⟩
    have hm := hm.mono e0
    have ht := e0 _ _ ht
    refine q_asgL (el_lst ea_nil (Nat.zero_le _)) fun p H1 hp e1 h1 => ?_
    refine q_asg ev_c fun H2 e2 => ?_
    refine q_forE (xs := nV ts) (ea_cons (ev_var rfl) ea_nil) (sq_of ((e1.trans e2) _ _ ht)) (fun i σ' H' => ∃ v4 v5 : Option V, σ' = [some (.ref a), some (.ref t), some (.ref p), some (.int ((timeM ws ts i : Nat) : Int)), v4, v5] ∧ Ex H H' ∧ H' p = some (.lst (nV ((List.range i).map (timeM ws ts)))) ∧ i ≤ ts.length)
      (fun H3 e3 => ⟨none, none, rfl, (e1.trans e2).trans e3, (e2.trans e3) _ _ h1, Nat.zero_le _⟩) (fun i σ' H' _ ⟨_, _, _, e', _⟩ => sq_of (e' _ _ ht)) ?_ ?_
    · rintro i x σ' H' H'' hx ⟨v4, v5, rfl, e', hp', _⟩ e''
      obtain ⟨hi, rfl⟩ := nV_at hx
      have eH := e'.trans e''
      refine q_app (e'' _ _ hp') (ev_var rfl) (ev_var rfl) (by rw [nV_len, List.length_map, List.length_range]; have := T.len; omega) fun H3 e3 => ?_
      have eH3 : Ex H (upd H3 p (.lst (nV ((List.range i).map (timeM ws ts)) ++ [.int ((timeM ws ts i : Nat) : Int)]))) := Ex.mut (eH.trans e3) hp
      refine s_aug (a := ((timeM ws ts i : Nat) : Int)) rfl (ev_op (ev_serv (hm.mono eH3) (T.at hi) (ev_var rfl) (ev_var rfl)) (ev_leg (hm.mono eH3) (eH3 _ _ ht) T hi (ev_var rfl) (ev_var rfl) (ev_var rfl) (ev_var rfl)) rv_I0) fun H4 e4 => ⟨_, _, rfl, eH3.trans e4, e4 _ _ ?_, hi⟩
      rw [upd_same, List.range_succ]
      unfold nV
      rw [List.map_append, List.map_append]
      rfl
    · rintro σ' H' ⟨v4, v5, rfl, e', hp', _⟩
      refine s_ret (ev_var rfl) fun H3 e3 => ?_
      rw [nV_len, start_eq] at hp'
      exact q p H3 hp (e'.trans e3) (e3 _ _ hp')
end
end Tw
namespace Tw
open PySem PySem.Spec PyProof.Rows L2 Evl
section
variable {P : Program} {w : World} {K : PySem.W.Frag} {mg : Str → Option Value} {base : Heap}
theorem cut_to (xs : List V) (i : Nat) : cutV xs none (some (i : Int)) = xs.take i := by
  unfold cutV
  rw [HT.sIx_none, HT.sIx_nat, Nat.sub_zero, List.drop_zero]
  rw [List.take_eq_take_iff]
  omega
theorem cut_from (xs : List V) (i : Nat) : cutV xs (some (i : Int)) none = xs.drop i := by
  unfold cutV
  rw [HT.sIx_none, HT.sIx_nat]
  rcases Nat.le_total i xs.length with h | h
  · rw [Nat.min_eq_left h, List.take_of_length_le (by rw [List.length_drop]; exact Nat.le_refl _)]
  · rw [Nat.min_eq_right h, List.drop_eq_nil_of_le (Nat.le_refl _), List.drop_eq_nil_of_le h, List.take_nil]
theorem cut_mid (xs : List V) (i j : Nat) : cutV xs (some (i : Int)) (some (j : Int)) = (xs.drop i).take (j - i) := by
  unfold cutV
  rw [HT.sIx_nat, HT.sIx_nat]
  rcases Nat.le_total i xs.length with h | h
  · rw [Nat.min_eq_left h, List.take_eq_take_iff, List.length_drop]
    omega
  · rw [Nat.min_eq_right h, List.drop_eq_nil_of_le (Nat.le_refl _), List.drop_eq_nil_of_le h, List.take_nil, List.take_nil]
theorem inV_ints (z : Int) : ∀ l : List Int, inV (.int z) (l.map V.int) = decide (z ∈ l)
  | [] => rfl
  | a :: l => by
    have ih := inV_ints z l
    unfold inV at ih ⊢
    rw [List.map_cons, List.any_cons, ih]
    by_cases h : a = z
    · subst h
      simp [eqV]
    · have h' : ¬ z = a := fun q => h q.symm
      simp [eqV, h, h']
theorem flat_ints : ∀ l : List Int, (l.map V.int).all flatV = true
  | [] => rfl
  | a :: l => by
    rw [List.map_cons, List.all_cons, flat_ints l]
    rfl
/-- isTour, told by the number of machines -/
def tourB (n : Nat) (ns : List Int) : Bool := decide ns.Nodup && ns.all fun i => SrCommon.isIndex i n
theorem tourB_iff {n : Nat} {ns : List Int} : tourB n ns = true ↔ ns.Nodup ∧ ∀ i ∈ ns, SrCommon.isIndex i n = true := by
  unfold tourB
  rw [Bool.and_eq_true, decide_eq_true_eq, List.all_eq_true]
theorem tour_bad {n i : Nat} {ns : List Int} {z : Int} (hz : ns[i]? = some z) (h : (!SrCommon.isIndex z n || decide (z ∈ ns.take i)) = true) : tourB n ns = false := by
  refine Bool.eq_false_iff.mpr fun q => ?_
  obtain ⟨h1, h2⟩ := tourB_iff.mp q
  rw [Bool.or_eq_true] at h
  rcases h with h | h
  · rw [h2 z (List.mem_of_getElem? hz)] at h
    cases h
  · obtain ⟨hi, e⟩ := List.getElem?_eq_some_iff.mp hz
    have hm := of_decide_eq_true h
    obtain ⟨j, hj, ej⟩ := List.mem_take_iff_getElem.mp hm
    have : j = i := (List.getElem_inj h1).mp (ej.trans e.symm)
    omega
theorem tour_good {n i : Nat} {ns : List Int} {z : Int} (hz : ns[i]? = some z) (h : (!SrCommon.isIndex z n || decide (z ∈ ns.take i)) = false) (ht : tourB n (ns.take i) = true) : tourB n (ns.take (i + 1)) = true := by
  obtain ⟨h1, h2⟩ := tourB_iff.mp ht
  rw [Bool.or_eq_false_iff] at h
  have hn := of_decide_eq_false h.2
  have hx : SrCommon.isIndex z n = true := by
    have := h.1
    cases q : SrCommon.isIndex z n with
    | true => rfl
    | false =>
      rw [q] at this
      cases this
  rw [List.take_succ, hz]
  refine tourB_iff.mpr ⟨?_, fun j hj => ?_⟩
  · show (ns.take i ++ [z]).Nodup
    refine List.nodup_append.mpr ⟨h1, (by simp), fun a ha b hb q => ?_⟩
    rw [List.mem_singleton.mp hb] at q
    exact hn (q ▸ ha)
  · rcases List.mem_append.mp hj with q | q
    · exact h2 j q
    · have : j = z := List.mem_singleton.mp q
      rw [this]
      exact hx
theorem take_more {α : Type} {l : List α} {i : Nat} {x : α} (h : l[i]? = some x) : l.take (i + 1) = l.take i ++ [x] := by
  rw [List.take_succ, h]
  rfl
theorem at_map {α : Type} {g : α → V} {ns : List α} {i : Nat} {x : V} (h : (ns.map g)[i]? = some x) : ∃ z, ns[i]? = some z ∧ x = g z := by
  rw [List.getElem?_map] at h
  cases e : ns[i]? with
  | none =>
    rw [e] at h
    cases h
  | some z =>
    rw [e] at h
    exact ⟨z, rfl, (Option.some.inj h).symm⟩
def sp_with_machine (_ : PySem.W.Frag) : Sp := spL fun vs H xs' => ∃ (a : Addr) (xs : List V) (i : Nat) (v : V), vs = [.ref a, .int (i : Int), v] ∧ H a = some (.lst xs) ∧ xs.length ≤ 1000 ∧ xs' = xs.take i ++ [v] ++ xs.drop (i + 1)
abbrev st_with_machine : Stmt := top 28
abbrev N_with_machine : List Str := ["machines", "index", "machine"]
theorem sc_with_machine : FnScope N_with_machine ["machines", "index", "machine"] (defScope st_with_machine) := ⟨rfl, rfl, rfl, by decide +kernel, rfl, by decide +kernel, by decide +kernel⟩
theorem ok_with_machine (D0 : DefAt K mg "with_machine" st_with_machine ["machines", "index", "machine"])   : Fn P w K mg base "with_machine" 1 (sp_with_machine K) := by
  refine D0.fn fun f fd F => F.ok sc_with_machine (fun vs H Q E h => ?_) (fun cdv A outer s H vs Q E hr h => ?_)
  · obtain ⟨z, H0, e0, ⟨a, xs, i, v, rfl, ha, hl, rfl⟩, k⟩ := h; rfl
  · obtain ⟨z, H0, e0, ⟨a, xs, i, v, rfl, ha, hl, rfl⟩, k⟩ := h
    refine ⟨_, (pss_one (ps_ret (pe_op op_cat (pe_op op_cat (pe_slice sl_list (pv 0) po_none (po_some (pv 1))) (pe_lst (pa_cons (pv 2) pa_nil))) (pe_slice sl_list (pv 0) (po_some (pe_op op_add (pv 1) pe_int)) po_none)))), ?_⟩
    have ha := e0 _ _ ha
    refine s_retL (el_cat (EvL.toP (el_cat (EvL.toP (el_sl (ev_var rfl) eo_none (eo_some (ev_var rfl)) (sq_of ha))) (EvL.toP (el_lst (ea_cons (ev_var rfl) ea_nil) (by show 1 ≤ 100000; decide))) ?_)) (EvL.toP (el_sl (ev_var rfl) (eo_some (ev_op (ev_var rfl) ev_c rv_I0)) eo_none (sq_of ha))) ?_) fun p H1 hp e1 h1 => ?_
    · have := cutV_length xs none (some (i : Int))
      show _ + 1 ≤ _
      omega
    · have h1 := cutV_length xs none (some (i : Int))
      have h2 := cutV_length xs (some ((i : Int) + 1)) none
      rw [List.length_append]
      show _ + 1 + _ ≤ _
      omega
    · have e2 : cutV xs (some ((i : Int) + 1)) none = xs.drop (i + 1) := cut_from xs (i + 1)
      rw [cut_to, e2] at h1
      exact k p H1 hp e1 h1
def sp_with_run_time (_ : PySem.W.Frag) : Sp := spP fun vs H P => ∃ (r : Addr) (m : Sr120.Machine) (t : Nat), vs = [.ref r, .int (t : Int)] ∧ H r = some (.tup (mV m)) ∧ P = TupV (mV { m with runTime := t })
abbrev st_with_run_time : Stmt := top 29
abbrev N_with_run_time : List Str := ["machine", "run_time"]
theorem sc_with_run_time : FnScope N_with_run_time ["machine", "run_time"] (defScope st_with_run_time) := ⟨rfl, rfl, rfl, by decide +kernel, rfl, by decide +kernel, by decide +kernel⟩
theorem ok_with_run_time (D0 : DefAt K mg "with_run_time" st_with_run_time ["machine", "run_time"]) (f_position_of : Fn P w K mg base "position_of" 1 (sp_position_of K)) (f_service_time_of : Fn P w K mg base "service_time_of" 1 (sp_service_time_of K))  : Fn P w K mg base "with_run_time" 2 (sp_with_run_time K) := by
  refine D0.fn fun f fd F => F.ok sc_with_run_time (fun vs H Q E h => ?_) (fun cdv A outer s H vs Q E hr h => ?_)
  · obtain ⟨z, H0, e0, ⟨r, m, t, rfl, hm, rfl⟩, k⟩ := h; rfl
  · obtain ⟨z, H0, e0, ⟨r, m, t, rfl, hm, rfl⟩, k⟩ := h
    refine ⟨_, (pss_one (ps_ret (pe_tup (pa_cons (pe_fn f_position_of hr (by decide) rfl (pa_cons (pv 0) pa_nil)) (pa_cons (pv 1) (pa_cons (pe_fn f_service_time_of hr (by decide) rfl (pa_cons (pv 0) pa_nil)) pa_nil)))))), ?_⟩
    have hm := e0 _ _ hm
    exact s_retU (eu_tup (ea_cons (ev_fn (ea_cons (ev_var rfl) ea_nil) fun H1 e => ⟨r, m, rfl, e _ _ hm, rfl⟩) (ea_cons (ev_var rfl) (ea_cons (ev_fn (ea_cons (ev_var rfl) ea_nil) fun H1 e => ⟨r, m, rfl, e _ _ hm, rfl⟩) ea_nil))) (by show 3 ≤ 100000; decide))
      fun p H1 hp e1 h1 => k _ H1 e1 ⟨p, rfl, h1⟩
def sp_is_position (_ : PySem.W.Frag) : Sp := spV fun vs _ z => ∃ n : Int, vs = [.int n] ∧ z = .bl (Sr120.isLength n)
abbrev st_is_position : Stmt := top 31
abbrev N_is_position : List Str := ["number"]
theorem sc_is_position : FnScope N_is_position ["number"] (defScope st_is_position) := ⟨rfl, rfl, rfl, by decide +kernel, rfl, by decide +kernel, by decide +kernel⟩
theorem ok_is_position (D0 : DefAt K mg "is_position" st_is_position ["number"]) (c_MOST_POSITION : CI mg "MOST_POSITION" (99)) (f_is_within : Fn P w K mg base "is_within" 1 (sp_is_within K))  : Fn P w K mg base "is_position" 2 (sp_is_position K) := by
  refine D0.fn fun f fd F => F.ok sc_is_position (fun vs H Q E h => ?_) (fun cdv A outer s H vs Q E hr h => ?_)
  · obtain ⟨z, H0, e0, ⟨n, rfl, rfl⟩, k⟩ := h; rfl
  · obtain ⟨z, H0, e0, ⟨n, rfl, rfl⟩, k⟩ := h
    refine ⟨_, (pss_one (ps_ret (pe_fn f_is_within hr (by decide) rfl (pa_cons (pv 0) (pa_cons pe_int (pa_cons (pe_ci c_MOST_POSITION rfl) pa_nil)))))), ?_⟩
    exact s_ret (ev_fn (ea_cons (ev_var rfl) (ea_cons ev_c (ea_cons ev_c ea_nil))) fun H1 e => ⟨n, 0, 99, rfl, rfl⟩) k
def sp_is_run_time (_ : PySem.W.Frag) : Sp := spV fun vs _ z => ∃ n : Int, vs = [.int n] ∧ z = .bl (Sr120.isLength n)
abbrev st_is_run_time : Stmt := top 32
abbrev N_is_run_time : List Str := ["number"]
theorem sc_is_run_time : FnScope N_is_run_time ["number"] (defScope st_is_run_time) := ⟨rfl, rfl, rfl, by decide +kernel, rfl, by decide +kernel, by decide +kernel⟩
theorem ok_is_run_time (D0 : DefAt K mg "is_run_time" st_is_run_time ["number"]) (c_MOST_RUN_TIME : CI mg "MOST_RUN_TIME" (99)) (f_is_within : Fn P w K mg base "is_within" 1 (sp_is_within K))  : Fn P w K mg base "is_run_time" 2 (sp_is_run_time K) := by
  refine D0.fn fun f fd F => F.ok sc_is_run_time (fun vs H Q E h => ?_) (fun cdv A outer s H vs Q E hr h => ?_)
  · obtain ⟨z, H0, e0, ⟨n, rfl, rfl⟩, k⟩ := h; rfl
  · obtain ⟨z, H0, e0, ⟨n, rfl, rfl⟩, k⟩ := h
    refine ⟨_, (pss_one (ps_ret (pe_fn f_is_within hr (by decide) rfl (pa_cons (pv 0) (pa_cons pe_int (pa_cons (pe_ci c_MOST_RUN_TIME rfl) pa_nil)))))), ?_⟩
    exact s_ret (ev_fn (ea_cons (ev_var rfl) (ea_cons ev_c (ea_cons ev_c ea_nil))) fun H1 e => ⟨n, 0, 99, rfl, rfl⟩) k
def sp_is_service_time (_ : PySem.W.Frag) : Sp := spV fun vs _ z => ∃ n : Int, vs = [.int n] ∧ z = .bl (Sr120.isServiceTime n)
abbrev st_is_service_time : Stmt := top 33
abbrev N_is_service_time : List Str := ["number"]
theorem sc_is_service_time : FnScope N_is_service_time ["number"] (defScope st_is_service_time) := ⟨rfl, rfl, rfl, by decide +kernel, rfl, by decide +kernel, by decide +kernel⟩
theorem ok_is_service_time (D0 : DefAt K mg "is_service_time" st_is_service_time ["number"]) (c_LEAST_SERVICE_TIME : CI mg "LEAST_SERVICE_TIME" (1)) (c_MOST_SERVICE_TIME : CI mg "MOST_SERVICE_TIME" (99)) (f_is_within : Fn P w K mg base "is_within" 1 (sp_is_within K))  : Fn P w K mg base "is_service_time" 2 (sp_is_service_time K) := by
  refine D0.fn fun f fd F => F.ok sc_is_service_time (fun vs H Q E h => ?_) (fun cdv A outer s H vs Q E hr h => ?_)
  · obtain ⟨z, H0, e0, ⟨n, rfl, rfl⟩, k⟩ := h; rfl
  · obtain ⟨z, H0, e0, ⟨n, rfl, rfl⟩, k⟩ := h
    refine ⟨_, (pss_one (ps_ret (pe_fn f_is_within hr (by decide) rfl (pa_cons (pv 0) (pa_cons (pe_ci c_LEAST_SERVICE_TIME rfl) (pa_cons (pe_ci c_MOST_SERVICE_TIME rfl) pa_nil)))))), ?_⟩
    exact s_ret (ev_fn (ea_cons (ev_var rfl) (ea_cons ev_c (ea_cons ev_c ea_nil))) fun H1 e => ⟨n, 1, 99, rfl, rfl⟩) k
def sp_is_time (_ : PySem.W.Frag) : Sp := spV fun vs _ z => ∃ n : Int, vs = [.int n] ∧ z = .bl (Sr120.isScheduleTime n)
abbrev st_is_time : Stmt := top 75
abbrev N_is_time : List Str := ["number"]
theorem sc_is_time : FnScope N_is_time ["number"] (defScope st_is_time) := ⟨rfl, rfl, rfl, by decide +kernel, rfl, by decide +kernel, by decide +kernel⟩
theorem ok_is_time (D0 : DefAt K mg "is_time" st_is_time ["number"]) (c_MOST_TIME : CI mg "MOST_TIME" (9999)) (f_is_within : Fn P w K mg base "is_within" 1 (sp_is_within K))  : Fn P w K mg base "is_time" 2 (sp_is_time K) := by
  refine D0.fn fun f fd F => F.ok sc_is_time (fun vs H Q E h => ?_) (fun cdv A outer s H vs Q E hr h => ?_)
  · obtain ⟨z, H0, e0, ⟨n, rfl, rfl⟩, k⟩ := h; rfl
  · obtain ⟨z, H0, e0, ⟨n, rfl, rfl⟩, k⟩ := h
    refine ⟨_, (pss_one (ps_ret (pe_fn f_is_within hr (by decide) rfl (pa_cons (pv 0) (pa_cons pe_int (pa_cons (pe_ci c_MOST_TIME rfl) pa_nil)))))), ?_⟩
    exact s_ret (ev_fn (ea_cons (ev_var rfl) (ea_cons ev_c (ea_cons ev_c ea_nil))) fun H1 e => ⟨n, 0, 9999, rfl, rfl⟩) k
def sp_is_tour (_ : PySem.W.Frag) : Sp := spV fun vs H z => ∃ (a t : Addr) (xs : List V) (ns : List Int), vs = [.ref a, .ref t] ∧ H a = some (.lst xs) ∧ H t = some (.lst (ns.map V.int)) ∧ ns.length ≤ 1000 ∧ z = .bl (tourB xs.length ns)
abbrev st_is_tour : Stmt := top 47
abbrev N_is_tour : List Str := ["machines", "tour", "seen", "index"]
theorem sc_is_tour : FnScope N_is_tour ["machines", "tour"] (defScope st_is_tour) := ⟨rfl, rfl, rfl, by decide +kernel, rfl, by decide +kernel, by decide +kernel⟩
theorem ok_is_tour (D0 : DefAt K mg "is_tour" st_is_tour ["machines", "tour"]) (f_has_machine : Fn P w K mg base "has_machine" 1 (sp_has_machine K))  : Fn P w K mg base "is_tour" 2 (sp_is_tour K) := by
  refine D0.fn fun f fd F => F.ok sc_is_tour (fun vs H Q E h => ?_) (fun cdv A outer s H vs Q E hr h => ?_)
  · obtain ⟨z, H0, e0, ⟨a, t, xs, ns, rfl, ha, ht, hl, rfl⟩, q⟩ := h; rfl
  · obtain ⟨z, H0, e0, ⟨a, t, xs, ns, rfl, ha, ht, hl, rfl⟩, q⟩ := h
    refine ⟨_, (pss_cons (ps_set (i := 2) sc_is_tour.nd rfl (Or.inl rfl) (pe_lst pa_nil)) (pss_cons (ps_for PassesOwn.never rfl (pi_list (pv 1)) (pg_name (i := 3) sc_is_tour.nd rfl (Or.inl rfl)) (pss_cons (ps_if (PW.pt (pw_or (pt_not (pt_val (pe_fn f_has_machine hr (by decide) rfl (pa_cons (pv 0) (pa_cons (pv 3) pa_nil))))) (pw_or1 (pt_cmpR op_in_seq (pv 3) (pv 2) (by rfl))))) (pss_one (ps_ret pe_bl)) pss_nil) (pss_one (ps_expr (pe_bm PySem.F.plainAttrs_list PySem.F.slot_list_append PySem.F.type_list_append mt_append (pv 2) (pa_cons (pv 3) pa_nil)))))) (pss_one (ps_ret pe_bl)))), ?_⟩
    have ha := e0 _ _ ha
    have ht := e0 _ _ ht
    refine q_asgL (el_lst ea_nil (Nat.zero_le _)) fun p H1 hp e1 h1 => ?_
    refine q_forLn (xs := ns.map V.int) (ev_var rfl) (sq_of (e1 _ _ ht)) (fun i σ' H' => ∃ v3 : Option V, σ' = [some (.ref a), some (.ref t), some (.ref p), v3] ∧ Ex H H' ∧ H' p = some (.lst ((ns.take i).map V.int)) ∧ tourB xs.length (ns.take i) = true)
      (fun H2 e2 => ⟨none, rfl, e1.trans e2, e2 _ _ h1, rfl⟩) (fun i σ' H' _ ⟨_, _, e', _⟩ => sq_of (e' _ _ ht)) ?_ ?_
    · rintro i x σ' H' hx ⟨v3, rfl, e', hp', hg⟩
      obtain ⟨z, hz, rfl⟩ := at_map hx
      refine q_when (b := (!SrCommon.isIndex z xs.length || decide (z ∈ ns.take i))) (et_or (et_not (et_B (ev_fn (ea_cons (ev_var rfl) (ea_cons (ev_var rfl) ea_nil)) fun H2 e2 => ⟨a, xs, z, rfl, e2 _ _ (e' _ _ ha), rfl⟩))) (fun _ => et_is (et_test (ev_op (ev_var rfl) (ev_var rfl) (rv_isL (sq_of hp') rfl (flat_ints _)))) (inV_ints z _))) (fun hb H2 e2 => ?_) (fun hb H2 e2 => ?_)
      · refine s_ret ev_c fun H3 e3 => ?_
        have g := q H3 ((e'.trans e2).trans e3)
        rw [tour_bad hz hb] at g
        exact g
      · refine s_app (e2 _ _ hp') (ev_var rfl) (ev_var rfl) (by rw [List.length_map, List.length_take]; omega) fun H3 e3 => ⟨some (.int z), rfl, Ex.mut ((e'.trans e2).trans e3) hp, ?_, tour_good hz hb hg⟩
        rw [upd_same, take_more hz, List.map_append]
        rfl
    · rintro σ' H' ⟨v3, rfl, e', hp', hg⟩
      refine s_ret ev_c fun H3 e3 => ?_
      rw [List.length_map, List.take_length] at hg
      have g := q H3 (e'.trans e3)
      rw [hg] at g
      exact g
def sp_common_divisor (_ : PySem.W.Frag) : Sp := spV fun vs _ z => ∃ a b : Nat, vs = [.int (a : Int), .int (b : Int)] ∧ z = .int ((Nat.gcd a b : Nat) : Int)
abbrev st_common_divisor : Stmt := top 43
abbrev N_common_divisor : List Str := ["one", "other"]
theorem sc_common_divisor : FnScope N_common_divisor ["one", "other"] (defScope st_common_divisor) := ⟨rfl, rfl, rfl, by decide +kernel, rfl, by decide +kernel, by decide +kernel⟩
theorem ok_common_divisor (D0 : DefAt K mg "common_divisor" st_common_divisor ["one", "other"])   : Fn P w K mg base "common_divisor" 1 (sp_common_divisor K) := by
  refine D0.fn fun f fd F => F.ok sc_common_divisor (fun vs H Q E h => ?_) (fun cdv A outer s H vs Q E hr h => ?_)
  · obtain ⟨z, H0, e0, ⟨a, b, rfl, rfl⟩, q⟩ := h; rfl
  · obtain ⟨z, H0, e0, ⟨a, b, rfl, rfl⟩, q⟩ := h
    refine ⟨_, (pss_cons (ps_while PassesOwn.never (pt_cmpR op_ne (pv 1) pe_int (nomark _)) (pss_one (ps_par (i := 0) (j := 1) rfl sc_common_divisor.nd rfl rfl (by decide) rfl rfl (pa_cons (pv 1) (pa_cons (pe_op op_modN (pv 0) (pv 1)) pa_nil)) (by rfl)))) (pss_one (ps_ret (pv 0)))), ?_⟩
    refine q_while (fun m σ' H' => ∃ c : Nat, σ' = [some (.int (c : Int)), some (.int (m : Int))] ∧ Nat.gcd c m = Nat.gcd a b ∧ Ex H H') b ⟨a, rfl, rfl, Ex.refl H⟩ ?_
    rintro m σ' H' ⟨c, rfl, hg, e'⟩
    refine ⟨_, et_test (ev_op (ev_var rfl) ev_c (rv_ne rfl)), fun hb H1 e1 => ?_, fun hb H1 e1 => ?_⟩
    · have hm : m ≠ 0 := by
        intro q0
        subst q0
        exact Bool.noConfusion (show false = true from hb)
      refine ⟨fun σ2 H2 => ∃ m', m' < m ∧ ∃ c : Nat, σ2 = [some (.int (c : Int)), some (.int (m' : Int))] ∧ Nat.gcd c m' = Nat.gcd a b ∧ Ex H H2, fun σ2 H2 w => w, ?_⟩
      refine s_par (ea_cons (ev_var rfl) (ea_cons (ev_is (ev_op (ev_var rfl) (ev_var rfl) (rv_I (by omega))) (congrArg V.int (fmod_nat c m))) ea_nil)) fun H2 e2 => ⟨c % m, Nat.mod_lt _ (by omega), m, rfl, ?_, (e'.trans e1).trans e2⟩
      rw [← hg, Nat.gcd_comm c m, Nat.gcd_rec m c, Nat.gcd_comm]
    · have hm : m = 0 := by
        by_cases q0 : m = 0
        · exact q0
        · have : (!decide (V.int (m : Int) = V.int 0)) = true := by
            rw [decide_eq_false (fun q1 => q0 (by have := V.int.inj q1; omega))]
            rfl
          rw [this] at hb
          cases hb
      subst hm
      refine s_ret (ev_var rfl) fun H2 e2 => ?_
      have g := q H2 ((e'.trans e1).trans e2)
      rw [← hg, Nat.gcd_zero_right] at g
      exact g
def sp_lowest_terms (_ : PySem.W.Frag) : Sp := spL fun vs _ xs => ∃ a b : Nat, vs = [.int (a : Int), .int (b : Int)] ∧ 0 < b ∧ b < 1073741824 ∧ xs = [.int ((a / Nat.gcd a b : Nat) : Int), .int ((b / Nat.gcd a b : Nat) : Int)]
abbrev st_lowest_terms : Stmt := top 44
abbrev N_lowest_terms : List Str := ["numerator", "denominator", "divisor"]
theorem sc_lowest_terms : FnScope N_lowest_terms ["numerator", "denominator"] (defScope st_lowest_terms) := ⟨rfl, rfl, rfl, by decide +kernel, rfl, by decide +kernel, by decide +kernel⟩
theorem ok_lowest_terms (D0 : DefAt K mg "lowest_terms" st_lowest_terms ["numerator", "denominator"]) (f_common_divisor : Fn P w K mg base "common_divisor" 1 (sp_common_divisor K))  : Fn P w K mg base "lowest_terms" 2 (sp_lowest_terms K) := by
  refine D0.fn fun f fd F => F.ok sc_lowest_terms (fun vs H Q E h => ?_) (fun cdv A outer s H vs Q E hr h => ?_)
  · obtain ⟨z, H0, e0, ⟨a, b, rfl, h1, h2, rfl⟩, q⟩ := h; rfl
  · obtain ⟨z, H0, e0, ⟨a, b, rfl, hb1, hb2, rfl⟩, q⟩ := h
    refine ⟨_, (pss_cons (ps_set (i := 2) sc_lowest_terms.nd rfl (Or.inl rfl) (pe_fn f_common_divisor hr (by decide) rfl (pa_cons (pv 0) (pa_cons (pv 1) pa_nil)))) (pss_one (ps_ret (pe_lst (pa_cons (pe_op op_fdivN (pv 0) (pv 2)) (pa_cons (pe_op op_fdivN (pv 1) (pv 2)) pa_nil)))))), ?_⟩
    have g1 : 0 < Nat.gcd a b := Nat.gcd_pos_of_pos_right a hb1
    have g2 : Nat.gcd a b ≤ b := Nat.gcd_le_right a hb1
    have hd : CDivN (a : Int) ((Nat.gcd a b : Nat) : Int) := ⟨by omega, by rw [Int.natAbs_natCast]; omega⟩
    have hd2 : CDivN (b : Int) ((Nat.gcd a b : Nat) : Int) := ⟨by omega, by rw [Int.natAbs_natCast]; omega⟩
    refine q_asg (ev_fn (ea_cons (ev_var rfl) (ea_cons (ev_var rfl) ea_nil)) fun H1 e => ⟨a, b, rfl, rfl⟩) fun H1 e1 => ?_
    exact s_retL (el_lst (ea_cons (ev_is (ev_op (ev_var rfl) (ev_var rfl) (rv_I hd)) (congrArg V.int (fdiv_nat _ _))) (ea_cons (ev_is (ev_op (ev_var rfl) (ev_var rfl) (rv_I hd2)) (congrArg V.int (fdiv_nat _ _))) ea_nil)) (by show 2 ≤ 100000; decide)) fun p H2 hp e2 h2 => q p H2 (fresh_back e1 hp) (e1.trans e2) h2
def sp_all_indices (_ : PySem.W.Frag) : Sp := spL fun vs H xs' => ∃ (a : Addr) (xs : List V), vs = [.ref a] ∧ H a = some (.lst xs) ∧ xs.length ≤ 1000 ∧ xs' = nV (List.range xs.length)
abbrev st_all_indices : Stmt := top 59
abbrev N_all_indices : List Str := ["machines"]
theorem sc_all_indices : FnScope N_all_indices ["machines"] (defScope st_all_indices) := ⟨rfl, rfl, rfl, by decide +kernel, rfl, by decide +kernel, by decide +kernel⟩
theorem ok_all_indices (D0 : DefAt K mg "all_indices" st_all_indices ["machines"]) (b_list : mg "list" = none) (b_range : mg "range" = none) (b_len : mg "len" = none)  : Fn P w K mg base "all_indices" 1 (sp_all_indices K) := by
  refine D0.fn fun f fd F => F.ok sc_all_indices (fun vs H Q E h => ?_) (fun cdv A outer s H vs Q E hr h => ?_)
  · obtain ⟨z, H0, e0, ⟨a, xs, rfl, ha, hl, rfl⟩, k⟩ := h; rfl
  · obtain ⟨z, H0, e0, ⟨a, xs, rfl, ha, hl, rfl⟩, k⟩ := h
    refine ⟨_, (pss_one (ps_ret (pe_listRg rfl rfl b_list (prg_1 rfl b_range (pe_callB call_len_seq (by rfl) b_len (by decide +kernel) (pa_cons (pv 0) pa_nil)))))), ?_⟩
    have ha := e0 _ _ ha
    exact s_retL (el_rg (ev_len (ev_var rfl) (sq_of ha)) (by omega)) k
def sp_count_of_sets (_ : PySem.W.Frag) : Sp := spV fun vs H z => ∃ (a : Addr) (xs : List V), vs = [.ref a] ∧ H a = some (.lst xs) ∧ xs.length ≤ 1000 ∧ z = .int ((2 ^ xs.length : Nat) : Int)
abbrev st_count_of_sets : Stmt := top 60
abbrev N_count_of_sets : List Str := ["machines"]
theorem sc_count_of_sets : FnScope N_count_of_sets ["machines"] (defScope st_count_of_sets) := ⟨rfl, rfl, rfl, by decide +kernel, rfl, by decide +kernel, by decide +kernel⟩
theorem ok_count_of_sets (D0 : DefAt K mg "count_of_sets" st_count_of_sets ["machines"]) (b_len : mg "len" = none)  : Fn P w K mg base "count_of_sets" 1 (sp_count_of_sets K) := by
  refine D0.fn fun f fd F => F.ok sc_count_of_sets (fun vs H Q E h => ?_) (fun cdv A outer s H vs Q E hr h => ?_)
  · obtain ⟨z, H0, e0, ⟨a, xs, rfl, ha, hl, rfl⟩, k⟩ := h; rfl
  · obtain ⟨z, H0, e0, ⟨a, xs, rfl, ha, hl, rfl⟩, k⟩ := h
    refine ⟨_, (pss_one (ps_ret (pe_op op_shl pe_int (pe_callB call_len_seq (by rfl) b_len (by decide +kernel) (pa_cons (pv 0) pa_nil))))), ?_⟩
    have ha := e0 _ _ ha
    refine s_ret (ev_is (ev_op ev_c (ev_len (ev_var rfl) (sq_of ha)) (rv_I ⟨by omega, by omega, by decide⟩)) (congrArg V.int ?_)) k
    rw [Int.one_mul, Int.toNat_natCast]
    exact (Int.natCast_pow 2 xs.length).symm
def sp_set_of (_ : PySem.W.Frag) : Sp := spL fun vs _ xs => ∃ mask many : Nat, vs = [.int (mask : Int), .int (many : Int)] ∧ many ≤ 1000 ∧ xs = nV (SrCommon.maskMembers many mask)
theorem mask_bit (mask i : Nat) : decide (V.int (Builtin.bitAnd ((mask : Int) / 2 ^ ((i : Int)).toNat) 1) = V.int 1) = (mask / 2 ^ i % 2 == 1) := by
  have e1 : Builtin.bitAnd ((mask : Int) / 2 ^ ((i : Int)).toNat) 1 = (mask : Int) / 2 ^ ((i : Int)).toNat % 2 := PyProof.Rows.bitAnd_m1 _
  have e2 : (mask : Int) / 2 ^ ((i : Int)).toNat % 2 = ((mask / 2 ^ i % 2 : Nat) : Int) := by
    rw [Int.toNat_natCast, Int.natCast_emod, Int.natCast_ediv, Int.natCast_pow]
    rfl
  rw [e1, e2]
  by_cases h : mask / 2 ^ i % 2 = 1
  · rw [h]
    rfl
  · rw [decide_eq_false (fun q => h (by have := V.int.inj q; omega))]
    exact (beq_eq_false_iff_ne.mpr h).symm
abbrev st_set_of : Stmt := top 61
abbrev N_set_of : List Str := ["mask", "many", "index"]
theorem sc_set_of : FnScope N_set_of ["mask", "many"] (defScope st_set_of) := ⟨rfl, rfl, rfl, by decide +kernel, rfl, by decide +kernel, by decide +kernel⟩
theorem ok_set_of (D0 : DefAt K mg "set_of" st_set_of ["mask", "many"]) (b_range : mg "range" = none)  : Fn P w K mg base "set_of" 1 (sp_set_of K) := by
  refine D0.fn fun f fd F => F.ok sc_set_of (fun vs H Q E h => ?_) (fun cdv A outer s H vs Q E hr h => ?_)
  · obtain ⟨z, H0, e0, ⟨mask, many, rfl, hl, rfl⟩, k⟩ := h; rfl
  · obtain ⟨z, H0, e0, ⟨mask, many, rfl, hl, rfl⟩, k⟩ := h
    refine ⟨_, (pss_one (ps_ret (pe_lc (own := [("index", 2)]) (g := gName 2) rfl sc_set_of.nd (pi_range1 rfl b_range (pa_cons (pv 1) pa_nil)) (blkOk_by (own := [("index", 2)]) (N := N_set_of) (sc := defScope st_set_of) (by decide +kernel)) (fun _ _ _ _ _ => (pg_name (i := 2) sc_set_of.nd rfl (Or.inl rfl))) (fun _ _ _ _ _ => (pts_one (pt_cmpR op_eq (pe_op op_and (pe_op op_shr (pv 0) (pv 2)) pe_int) pe_int (nomark _)))) (fun _ _ _ _ _ => (pv 2))))), ?_⟩
    refine s_retL (el_lcR1 (fun i => mask / 2 ^ i % 2 == 1) (fun i => .int (i : Int)) (ea_cons (ev_var rfl) ea_nil) ⟨by omega, by omega⟩ (fun _ => rfl) (fun i H1 e hi => et_is (et_test (ev_op (ev_op (ev_op (ev_var rfl) (ev_var rfl) (rv_I (by omega))) ev_c rv_I0) ev_c (rv_eq rfl))) (mask_bit mask i)) (fun i H1 e hi _ => ev_var rfl)) fun p H1 hp e1 h1 => ?_
    rw [Int.toNat_natCast] at h1
    exact k p H1 hp e1 h1
def sp_counted (_ : PySem.W.Frag) : Sp := spL fun vs H xs' => ∃ (a : Addr) (xs : List V), vs = [.ref a] ∧ H a = some (.lst xs) ∧ xs.length ≤ 1000 ∧ xs' = .int (xs.length : Int) :: xs
abbrev st_counted : Stmt := top 64
abbrev N_counted : List Str := ["numbers"]
theorem sc_counted : FnScope N_counted ["numbers"] (defScope st_counted) := ⟨rfl, rfl, rfl, by decide +kernel, rfl, by decide +kernel, by decide +kernel⟩
theorem ok_counted (D0 : DefAt K mg "counted" st_counted ["numbers"]) (b_len : mg "len" = none)  : Fn P w K mg base "counted" 1 (sp_counted K) := by
  refine D0.fn fun f fd F => F.ok sc_counted (fun vs H Q E h => ?_) (fun cdv A outer s H vs Q E hr h => ?_)
  · obtain ⟨z, H0, e0, ⟨a, xs, rfl, ha, hl, rfl⟩, k⟩ := h; rfl
  · obtain ⟨z, H0, e0, ⟨a, xs, rfl, ha, hl, rfl⟩, k⟩ := h
    refine ⟨_, (pss_one (ps_ret (pe_op op_cat (pe_lst (pa_cons (pe_callB call_len_seq (by rfl) b_len (by decide +kernel) (pa_cons (pv 0) pa_nil)) pa_nil)) (pv 0)))), ?_⟩
    have ha := e0 _ _ ha
    exact s_retL (el_cat (EvL.toP (el_lst (ea_cons (ev_len (ev_var rfl) (sq_of ha)) ea_nil) (by show 1 ≤ 100000; decide))) (Ev.toL (ev_var rfl) ha) (by show 1 + _ ≤ _; omega)) k
def sp_timed (_ : PySem.W.Frag) : Sp := spL fun vs H xs => ∃ (a t : Addr) (ws : Sr120.Workshop) (ts : List Nat), ArgT vs H a t ws ts ∧ xs = .int ((Sr120.cycleTime ws ts : Nat) : Int) :: nV ts
abbrev st_timed : Stmt := top 65
abbrev N_timed : List Str := ["machines", "tour"]
theorem sc_timed : FnScope N_timed ["machines", "tour"] (defScope st_timed) := ⟨rfl, rfl, rfl, by decide +kernel, rfl, by decide +kernel, by decide +kernel⟩
theorem ok_timed (D0 : DefAt K mg "timed" st_timed ["machines", "tour"]) (f_cycle_time : Fn P w K mg base "cycle_time" 5 (sp_cycle_time K))  : Fn P w K mg base "timed" 6 (sp_timed K) := by
  refine D0.fn fun f fd F => F.ok sc_timed (fun vs H Q E h => ?_) (fun cdv A outer s H vs Q E hr h => ?_)
  · obtain ⟨z, H0, e0, ⟨a, t, ws, ts, ⟨rfl, hm, ht, T⟩, rfl⟩, q⟩ := h; rfl
  · obtain ⟨z, H0, e0, ⟨a, t, ws, ts, ⟨rfl, hm, ht, T⟩, rfl⟩, q⟩ := h
    refine ⟨_, (pss_one (ps_ret (pe_op op_cat (pe_lst (pa_cons (pe_fn f_cycle_time hr (by decide) rfl (pa_cons (pv 0) (pa_cons (pv 1) pa_nil))) pa_nil)) (pv 1)))), ?_⟩
    have hm := hm.mono e0
    have ht := e0 _ _ ht
    exact s_retL (el_cat (EvL.toP (el_lst (ea_cons (ev_fn (ea_cons (ev_var rfl) (ea_cons (ev_var rfl) ea_nil)) fun H1 e => ⟨a, t, ws, ts, ⟨rfl, hm.mono e, e _ _ ht, T⟩, rfl⟩) ea_nil) (by show 1 ≤ 100000; decide))) (Ev.toL (ev_var rfl) ht) (by show 1 + _ ≤ _; rw [nV_len]; have := T.len; omega)) q
end
end Tw
namespace Tw
open PySem PySem.Spec PyProof.Rows L2 Evl
section
variable {P : Program} {w : World} {K : PySem.W.Frag} {mg : Str → Option Value} {base : Heap}
/-! ### objects in a row; a heap without one object -/
def ObsP {α : Type} (g : α → HO) (H : Hp) : List Addr → List α → Prop
  | [], [] => True
  | r :: rs, x :: xs => H r = some (g x) ∧ ObsP g H rs xs
  | _, _ => False
section
variable {α : Type} {g : α → HO} {H H' : Hp}
theorem ObsP.mono (e : Ex H H') : ∀ {rs : List Addr} {xs : List α}, ObsP g H rs xs → ObsP g H' rs xs
  | [], [], _ => trivial
  | _ :: _, _ :: _, h => ⟨e _ _ h.1, ObsP.mono e h.2⟩
  | [], _ :: _, h => h.elim
  | _ :: _, [], h => h.elim
theorem ObsP.snoc {r : Addr} {x : α} (hr : H r = some (g x)) : ∀ {rs : List Addr} {xs : List α}, ObsP g H rs xs → ObsP g H (rs ++ [r]) (xs ++ [x])
  | [], [], _ => ⟨hr, trivial⟩
  | _ :: _, _ :: _, h => ⟨h.1, ObsP.snoc hr h.2⟩
  | [], _ :: _, h => h.elim
  | _ :: _, [], h => h.elim
theorem ObsP.len : ∀ {rs : List Addr} {xs : List α}, ObsP g H rs xs → rs.length = xs.length
  | [], [], _ => rfl
  | _ :: _, _ :: _, h => congrArg (· + 1) (ObsP.len h.2)
  | [], _ :: _, h => h.elim
  | _ :: _, [], h => h.elim
theorem ObsP.get : ∀ {rs : List Addr} {xs : List α} {i : Nat} {r : Addr}, ObsP g H rs xs → rs[i]? = some r → ∃ x, xs[i]? = some x ∧ H r = some (g x)
  | [], [], _, _, _, h => by simp at h
  | a :: _, x :: _, 0, r, h, e => by
    have e' : a = r := Option.some.inj e
    subst e'
    exact ⟨x, rfl, h.1⟩
  | _ :: rs, _ :: xs, i + 1, r, h, e => ObsP.get (rs := rs) (xs := xs) (i := i) h.2 e
  | [], _ :: _, _, _, h, _ => h.elim
  | _ :: _, [], _, _, h, _ => h.elim
theorem ObsP.get' : ∀ {rs : List Addr} {xs : List α} {i : Nat} {x : α}, ObsP g H rs xs → xs[i]? = some x → ∃ r, rs[i]? = some r ∧ H r = some (g x)
  | [], [], _, _, _, h => by simp at h
  | a :: _, y :: _, 0, x, h, e => by
    have e' : y = x := Option.some.inj e
    subst e'
    exact ⟨a, rfl, h.1⟩
  | _ :: rs, _ :: xs, i + 1, x, h, e => ObsP.get' (rs := rs) (xs := xs) (i := i) h.2 e
  | [], _ :: _, _, _, h, _ => h.elim
  | _ :: _, [], _, _, h, _ => h.elim
def wo (H : Hp) (p : Addr) : Hp := fun b => if b = p then none else H b
theorem wo_ex {p : Addr} : Ex (wo H p) H := fun b o h => by
  unfold wo at h
  by_cases q : b = p
  · rw [if_pos q] at h
    cases h
  · rw [if_neg q] at h
    exact h
theorem wo_at {p r : Addr} {o : HO} (h : H r = some o) (hn : r ≠ p) : wo H p r = some o := by
  unfold wo
  rw [if_neg hn]
  exact h
theorem wo_upd {p : Addr} {o : HO} : wo (upd H p o) p = wo H p := by
  funext b
  unfold wo
  by_cases q : b = p
  · rw [if_pos q, if_pos q]
  · rw [if_neg q, if_neg q, upd_ne q]
theorem wo_mono {p : Addr} (e : Ex H H') : Ex (wo H p) (wo H' p) := fun b o h => by
  unfold wo at h ⊢
  by_cases q : b = p
  · rw [if_pos q] at h
    cases h
  · rw [if_neg q] at h ⊢
    exact e b o h
theorem wo_base {p : Addr} (hp : H p = none) (e : Ex H H') : Ex H (wo H' p) := fun b o h => wo_at (e b o h) (ne_of_none h hp)
end
/-- lists of ints in a row -/
abbrev RowsP : Hp → List Addr → List (List Nat) → Prop := ObsP fun r => HO.lst (nV r)
/-- a list of lists of ints -/
def RowsV (rows : List (List Nat)) : V → Hp → Prop := fun v H => ∃ a rs, v = .ref a ∧ H a = some (.lst (rs.map V.ref)) ∧ RowsP H rs rows
theorem nV_ints (ts : List Nat) : nV ts = (ts.map fun t : Nat => (t : Int)).map V.int := by
  unfold nV
  rw [List.map_map]
  rfl
theorem inV_nats (i : Nat) (ts : List Nat) : inV (.int (i : Int)) (nV ts) = ts.contains i := by
  rw [nV_ints, inV_ints]
  induction ts with
  | nil => rfl
  | cons a l ih =>
    rw [List.map_cons, List.contains_cons, ← ih]
    by_cases h : i = a
    · subst h
      simp
    · have h' : ¬ (i : Int) = (a : Int) := fun q => h (by omega)
      have h2 : (i == a) = false := beq_eq_false_iff_ne.mpr h
      rw [h2]
      simp [h']
theorem flat_nats (ts : List Nat) : (nV ts).all flatV = true := by
  rw [nV_ints]
  exact flat_ints _
theorem more_len (rows : List (List Nat)) (l : List Nat) : (oneMore rows l).length ≤ rows.length * l.length := by
  induction rows with
  | nil => exact Nat.zero_le _
  | cons r rows ih =>
    unfold oneMore at ih ⊢
    rw [List.flatMap_cons, List.length_append, List.length_map, List.length_cons, Nat.succ_mul]
    have := List.length_filter_le (fun i => !r.contains i) l
    omega
theorem more_snoc {rows : List (List Nat)} {l : List Nat} {i : Nat} {r : List Nat} (h : rows[i]? = some r) : oneMore (rows.take (i + 1)) l = oneMore (rows.take i) l ++ (l.filter fun i => !r.contains i).map fun i => r ++ [i] := by
  unfold oneMore
  rw [take_more h, List.flatMap_append, List.flatMap_cons, List.flatMap_nil, List.append_nil]
theorem take_filter {p : Nat → Bool} {l : List Nat} {i : Nat} (h : i < l.length) : (l.take (i + 1)).filter p = (l.take i).filter p ++ (if p (l.getD i 0) = true then [l.getD i 0] else []) := by
  have e : l[i]? = some (l.getD i 0) := by
    rw [List.getD_eq_getElem?_getD, List.getElem?_eq_getElem h]
    rfl
  rw [take_more e, List.filter_append]
  congr 1
  rw [List.filter_cons]
  split <;> rfl
def sp_with_one_more (_ : PySem.W.Frag) : Sp := spP fun vs H P => ∃ (a t : Addr) (rs : List Addr) (rows : List (List Nat)) (l : List Nat), vs = [.ref a, .ref t] ∧ H a = some (.lst (rs.map V.ref)) ∧ RowsP H rs rows ∧ H t = some (.lst (nV l)) ∧
  rows.length ≤ 10000 ∧ l.length ≤ 6 ∧ (∀ r ∈ rows, r.length ≤ 1000) ∧ P = RowsV (oneMore rows l)
abbrev st_with_one_more : Stmt := top 55
abbrev N_with_one_more : List Str := ["rows", "indices", "found", "row", "index"]
theorem sc_with_one_more : FnScope N_with_one_more ["rows", "indices"] (defScope st_with_one_more) := ⟨rfl, rfl, rfl, by decide +kernel, rfl, by decide +kernel, by decide +kernel⟩
theorem ok_with_one_more (D0 : DefAt K mg "with_one_more" st_with_one_more ["rows", "indices"])   : Fn P w K mg base "with_one_more" 1 (sp_with_one_more K) := by
  refine D0.fn fun f fd F => F.ok sc_with_one_more (fun vs H Q E h => ?_) (fun cdv A outer s H vs Q E hr h => ?_)
  · obtain ⟨z, H0, e0, ⟨a, t, rs, rows, l, rfl, _⟩, k⟩ := h; rfl
  · obtain ⟨z, H0, e0, ⟨a, t, rs, rows, l, rfl, ha, hr0, ht, hl1, hl2, hl3, rfl⟩, q⟩ := h
    refine ⟨_, (pss_cons (ps_set (i := 2) sc_with_one_more.nd rfl (Or.inl rfl) (pe_lst pa_nil)) (pss_cons (ps_for PassesOwn.never rfl (pi_list (pv 0)) (pg_name (i := 3) sc_with_one_more.nd rfl (Or.inl rfl)) (pss_one (ps_for PassesOwn.never rfl (pi_list (pv 1)) (pg_name (i := 4) sc_with_one_more.nd rfl (Or.inl rfl)) (pss_one (ps_if (pt_cmpR op_notIn_seq (pv 4) (pv 3) (by rfl)) (pss_one (ps_expr (pe_bm PySem.F.plainAttrs_list PySem.F.slot_list_append PySem.F.type_list_append mt_append (pv 2) (pa_cons (pe_op op_cat (pv 3) (pe_lst (pa_cons (pv 4) pa_nil))) pa_nil)))) pss_nil))))) (pss_one (ps_ret (pv 2))))), ?_⟩
    have ha := e0 _ _ ha
    have hr0 := hr0.mono e0
    have ht := e0 _ _ ht
    have big : ∀ i, (oneMore (rows.take i) l).length ≤ 60000 := fun i => by
      have h1 := more_len (rows.take i) l
      have h2 : (rows.take i).length ≤ 10000 := by rw [List.length_take]; omega
      have h3 := Nat.mul_le_mul h2 hl2
      omega
    refine q_asgL (el_lst ea_nil (Nat.zero_le _)) fun p H1 hp e1 h1 => ?_
    refine q_forLn (xs := rs.map V.ref) (ev_var rfl) (sq_of (e1 _ _ ha)) (fun i σ' H' => ∃ v3 v4 : Option V, σ' = [some (.ref a), some (.ref t), some (.ref p), v3, v4] ∧ Ex H H' ∧ ∃ rs', H' p = some (.lst (rs'.map V.ref)) ∧ RowsP (wo H' p) rs' (oneMore (rows.take i) l))
      (fun H2 e2 => ⟨none, none, rfl, e1.trans e2, [], e2 _ _ h1, trivial⟩) (fun i σ' H' _ ⟨_, _, _, e', _⟩ => sq_of (e' _ _ ha)) ?_ ?_
    · rintro i x σ' H' hx ⟨v3, v4, rfl, e', rs', hp', hr'⟩
      obtain ⟨r, hri, rfl⟩ := at_map hx
      obtain ⟨row, hrow, hrr⟩ := hr0.get hri
      have hlr := hl3 row (List.mem_of_getElem? hrow)
      refine s_forLn (xs := nV l) (ev_var rfl) (sq_of (e' _ _ ht)) (fun j σ' H' => ∃ v4 : Option V, σ' = [some (.ref a), some (.ref t), some (.ref p), some (.ref r), v4] ∧ Ex H H' ∧ ∃ rs', H' p = some (.lst (rs'.map V.ref)) ∧ RowsP (wo H' p) rs' (oneMore (rows.take i) l ++ ((l.take j).filter fun i => !row.contains i).map fun i => row ++ [i]))
        (fun H2 e2 => ⟨v4, rfl, e'.trans e2, rs', e2 _ _ hp', by
          have := hr'.mono (wo_mono (p := p) e2)
          simpa using this⟩) (fun i σ' H' _ ⟨_, _, e', _⟩ => sq_of (e' _ _ ht)) ?_ ?_
      · rintro j x σ2 H2 hx2 ⟨w4, rfl, e2, rs2, hp2, hr2⟩
        obtain ⟨hj, rfl⟩ := nV_at hx2
        refine s_when (b := !row.contains (l.getD j 0)) (et_is (et_test (ev_op (ev_var rfl) (ev_var rfl) (rv_niL (sq_of (e2 _ _ hrr)) rfl (flat_nats _)))) (congrArg (! ·) (inV_nats _ _))) (fun hb H3 e3 => ?_) (fun hb H3 e3 => ?_)
        · refine s_appL (e3 _ _ hp2) (ev_var rfl) (el_cat (Ev.toL (ev_var rfl) ((e2.trans e3) _ _ hrr)) (EvL.toP (el_lst (ea_cons (ev_var rfl) ea_nil) (by show 1 ≤ 100000; decide))) (by rw [nV_len]; show _ + 1 ≤ _; omega)) ?_ fun p4 H4 hp4 e4 h4 => ?_
          · have h5 := big i
            have h6 := List.length_filter_le (fun i => !row.contains i) (l.take j)
            have h7 : (l.take j).length ≤ 6 := by rw [List.length_take]; omega
            rw [List.length_map, hr2.len, List.length_append, List.length_map]
            omega
          · have hne : p4 ≠ p := fun q0 => by
              rw [q0, e3 _ _ hp2] at hp4
              cases hp4
            refine ⟨some (.int ((l.getD j 0 : Nat) : Int)), rfl, Ex.mut ((e2.trans e3).trans e4) hp, rs2 ++ [p4], ?_, ?_⟩
            · rw [upd_same, List.map_append]
              rfl
            · rw [wo_upd, take_filter hj, if_pos hb, List.map_append, ← List.append_assoc]
              have h8 : nV row ++ [V.int ((l.getD j 0 : Nat) : Int)] = nV (row ++ [l.getD j 0]) := by
                unfold nV
                rw [List.map_append]
                rfl
              rw [h8] at h4
              exact ObsP.snoc (g := fun r => HO.lst (nV r)) (wo_at h4 hne) (hr2.mono (wo_mono (e3.trans e4)))
        · refine ⟨some (.int ((l.getD j 0 : Nat) : Int)), rfl, e2.trans e3, rs2, e3 _ _ hp2, ?_⟩
          rw [take_filter hj, if_neg (by rw [hb]; decide), List.append_nil]
          exact hr2.mono (wo_mono e3)
      · rintro σ2 H2 ⟨w4, rfl, e2, rs2, hp2, hr2⟩
        refine ⟨some (.ref r), w4, rfl, e2, rs2, hp2, ?_⟩
        rw [nV_len, List.take_length] at hr2
        rw [more_snoc hrow]
        exact hr2
    · rintro σ' H' ⟨v3, v4, rfl, e', rs', hp', hr'⟩
      refine s_ret (ev_var rfl) fun H3 e3 => q _ H3 (e'.trans e3) ⟨p, rs', rfl, e3 _ _ hp', ?_⟩
      rw [List.length_map, hr0.len, List.take_length] at hr'
      exact (hr'.mono wo_ex).mono e3
theorem orders_len {l : List Nat} (hl : l.length ≤ 6) : ∀ k, (ordersM l k).length ≤ 6 ^ k
  | 0 => Nat.le_refl _
  | k + 1 => by
    have h1 := more_len (ordersM l k) l
    have h2 := Nat.mul_le_mul (orders_len hl k) hl
    rw [Nat.pow_succ]
    exact Nat.le_trans h1 h2
theorem orders_row (l : List Nat) : ∀ k, ∀ r ∈ ordersM l k, r.length = k
  | 0, r, h => by
    rw [List.mem_singleton.mp h]
    rfl
  | k + 1, r, h => by
    have h' : r ∈ (ordersM l k).flatMap fun r => (l.filter fun i => !r.contains i).map fun i => r ++ [i] := h
    obtain ⟨r0, h1, h2⟩ := List.mem_flatMap.mp h'
    obtain ⟨i, _, e⟩ := List.mem_map.mp h2
    rw [← e, List.length_append, orders_row l k r0 h1]
    rfl
theorem s_asgP {σ : L2.St} {H : Hp} {D : Ends} {te : TE} {i : Nat} {Pz : V → Hp → Prop} (h : EvP te σ H Pz) (k : ∀ v H1, Ex H H1 → Pz v H1 → D.nx (σ.set i (some v)) H1) : tAsg te (gName i) D σ H := h H (Ex.refl H) _ k
theorem s_forP {σ : L2.St} {H : Hp} {D : Ends} {tu : TS} {Pz : V → Hp → Prop} {tl : TE} {j : Nat} (h : EvP tl σ H Pz) (k : ∀ v H1, Ex H H1 → Pz v H1 → ∃ (a : Addr) (xs : List V), v = .ref a ∧ SqL K H1 a xs ∧ ∃ Pv : Nat → L2.St → Hp → Prop, Pv 0 σ H1 ∧ (∀ i σ' H', i ≤ xs.length → Pv i σ' H' → SqL K H' a xs) ∧
    (∀ i x σ' H', xs[i]? = some x → Pv i σ' H' → tu { D with nx := Pv (i + 1), ct := Pv (i + 1), bk := D.nx } (σ'.set j (some x)) H') ∧ (∀ σ' H', Pv xs.length σ' H' → D.nx σ' H')) : tFor (iList K tl) (gName j) tu D σ H :=
  h H (Ex.refl H) _ fun v H1 e hp => by
    obtain ⟨a, xs, rfl, hs, Pv, h0, hl, ht, hd⟩ := k v H1 e hp
    exact ⟨a, rfl, ⟨xs, hs⟩, for_list Pv h0 hl ht hd⟩
theorem q_forP {σ : L2.St} {H : Hp} {D : Ends} {tu tz : TS} {Pz : V → Hp → Prop} {tl : TE} {j : Nat} (h : EvP tl σ H Pz) (k : ∀ v H1, Ex H H1 → Pz v H1 → ∃ (a : Addr) (xs : List V), v = .ref a ∧ SqL K H1 a xs ∧ ∃ Pv : Nat → L2.St → Hp → Prop, Pv 0 σ H1 ∧ (∀ i σ' H', i ≤ xs.length → Pv i σ' H' → SqL K H' a xs) ∧
    (∀ i x σ' H', xs[i]? = some x → Pv i σ' H' → tu { D with nx := Pv (i + 1), ct := Pv (i + 1), bk := tz D } (σ'.set j (some x)) H') ∧ (∀ σ' H', Pv xs.length σ' H' → tz D σ' H')) : tSeq (tFor (iList K tl) (gName j) tu) tz D σ H :=
  s_forP (D := { D with nx := tz D }) h k
def sp_orders_of (_ : PySem.W.Frag) : Sp := spP fun vs H P => ∃ (t : Addr) (l : List Nat), vs = [.ref t] ∧ H t = some (.lst (nV l)) ∧ l.length ≤ 6 ∧ P = RowsV (ordersM l l.length)
abbrev st_orders_of : Stmt := top 56
abbrev N_orders_of : List Str := ["indices", "found", "turn"]
theorem sc_orders_of : FnScope N_orders_of ["indices"] (defScope st_orders_of) := ⟨rfl, rfl, rfl, by decide +kernel, rfl, by decide +kernel, by decide +kernel⟩
theorem ok_orders_of (D0 : DefAt K mg "orders_of" st_orders_of ["indices"]) (b_range : mg "range" = none) (b_len : mg "len" = none) (f_with_one_more : Fn P w K mg base "with_one_more" 1 (sp_with_one_more K))  : Fn P w K mg base "orders_of" 2 (sp_orders_of K) := by
  refine D0.fn fun f fd F => F.ok sc_orders_of (fun vs H Q E h => ?_) (fun cdv A outer s H vs Q E hr h => ?_)
  · obtain ⟨z, H0, e0, ⟨t, l, rfl, _⟩, k⟩ := h; rfl
  · obtain ⟨z, H0, e0, ⟨t, l, rfl, ht, hl, rfl⟩, q⟩ := h
    refine ⟨_, (pss_cons (ps_set (i := 1) sc_orders_of.nd rfl (Or.inl rfl) (pe_lst (pa_cons (pe_lst pa_nil) pa_nil))) (pss_cons (ps_for PassesOwn.never rfl (pi_range1 rfl b_range (pa_cons (pe_callB call_len_seq (by rfl) b_len (by decide +kernel) (pa_cons (pv 0) pa_nil)) pa_nil)) (pg_name (i := 2) sc_orders_of.nd rfl (Or.inl rfl)) (pss_one (ps_set (i := 1) sc_orders_of.nd rfl (Or.inl rfl) (pe_fn f_with_one_more hr (by decide) rfl (pa_cons (pv 1) (pa_cons (pv 0) pa_nil)))))) (pss_one (ps_ret (pv 1))))), ?_⟩
    have ht := e0 _ _ ht
    refine q_asgP (elP_lst (PA := fun vs H2 => ∃ p : Addr, vs = [V.ref p] ∧ H2 p = some (.lst [])) (eap_cons (EvL.toP (el_lst ea_nil (Nat.zero_le _))) fun v H1 e1 ⟨p, ev, hp⟩ => eap_nil fun H2 e2 => ⟨p, by rw [ev], e2 _ _ hp⟩) fun vs H1 ⟨p, e, _⟩ => by rw [e]; show 1 ≤ 100000; decide) ?_
    rintro v H1 e1 ⟨vs, p, H2, ⟨p2, rfl, hp2⟩, e2, rfl, hp⟩
    refine q_forR1 (n := (l.length : Int)) (ea_cons (ev_is (ev_len (ev_var rfl) (sq_of (e1 _ _ ht))) (by rw [nV_len])) ea_nil) ⟨by omega, by omega⟩ (fun i σ' H' => ∃ (c : Addr) (rs : List Addr) (v2 : Option V), σ' = [some (.ref t), some (.ref c), v2] ∧ Ex H H' ∧ H' c = some (.lst (rs.map V.ref)) ∧ RowsP H' rs (ordersM l i))
      (fun H3 e3 => ⟨p, [p2], none, rfl, e1.trans e3, e3 _ _ hp, (e2.trans e3) _ _ hp2, trivial⟩) ?_ ?_
    · rintro i σ' H' hi ⟨c, rs, v2, rfl, e', hc, hr⟩
      have hi6 : i ≤ 5 := by omega
      refine s_asgP (ep_fn (ea_cons (ev_var rfl) (ea_cons (ev_var rfl) ea_nil)) fun H3 e3 => ⟨c, t, rs, ordersM l i, l, rfl, e3 _ _ hc, hr.mono e3, (e'.trans e3) _ _ ht, ?_, hl, ?_, rfl⟩) ?_
      · have h1 := orders_len hl i
        have h2 : 6 ^ i ≤ 6 ^ 5 := Nat.pow_le_pow_right (by decide) hi6
        have h3 : 6 ^ 5 = 7776 := by decide
        omega
      · intro r hr
        rw [orders_row l i r hr]
        omega
      · rintro v H3 e3 ⟨c2, rs2, rfl, hc2, hr2⟩
        exact ⟨c2, rs2, some (.int (i : Int)), rfl, e'.trans e3, hc2, hr2⟩
    · rintro σ' H' ⟨c, rs, v2, rfl, e', hc, hr⟩
      rw [Int.toNat_natCast] at hr
      exact s_ret (ev_var rfl) fun H3 e3 => q _ H3 (e'.trans e3) ⟨c, rs, rfl, e3 _ _ hc, hr.mono e3⟩
def sp_best_tour (_ : PySem.W.Frag) : Sp := spP fun vs H P => ∃ (a t : Addr) (ws : Sr120.Workshop) (l : List Nat), ArgT vs H a t ws l ∧ l.Nodup ∧ l.length ≤ 6 ∧ P = LstV (nV (Sr120.bestTour ws l))
theorem bestM_snoc {ws : Sr120.Workshop} {l : List Nat} {L : List (List Nat)} {i : Nat} {t : List Nat} (h : L[i]? = some t) : bestM ws l (L.take (i + 1)) = betterM ws (bestM ws l (L.take i)) t := by
  unfold bestM
  rw [take_more h, List.foldl_append]
  rfl
theorem order_tour {ws : Sr120.Workshop} {l t : List Nat} (T : Tour ws l) (hn : l.Nodup) (h : t ∈ ordersM l l.length) : Tour ws t := by
  rw [orders_eq hn] at h
  have p := perms_sound _ _ _ hn rfl h
  exact ⟨by rw [p.length_eq]; exact T.len, fun i hi => T.lt i (p.subset hi)⟩
abbrev st_best_tour : Stmt := top 57
abbrev N_best_tour : List Str := ["machines", "indices", "best", "least", "tour", "time"]
theorem sc_best_tour : FnScope N_best_tour ["machines", "indices"] (defScope st_best_tour) := ⟨rfl, rfl, rfl, by decide +kernel, rfl, by decide +kernel, by decide +kernel⟩
theorem ok_best_tour (D0 : DefAt K mg "best_tour" st_best_tour ["machines", "indices"]) (f_cycle_time : Fn P w K mg base "cycle_time" 5 (sp_cycle_time K)) (f_orders_of : Fn P w K mg base "orders_of" 2 (sp_orders_of K))  : Fn P w K mg base "best_tour" 6 (sp_best_tour K) := by
  refine D0.fn fun f fd F => F.ok sc_best_tour (fun vs H Q E h => ?_) (fun cdv A outer s H vs Q E hr h => ?_)
  · obtain ⟨z, H0, e0, ⟨a, t, ws, l, ⟨rfl, _⟩, _⟩, k⟩ := h; rfl
  · obtain ⟨z, H0, e0, ⟨a, t, ws, l, ⟨rfl, hm, ht, T⟩, hn, hl, rfl⟩, q⟩ := h
    refine ⟨_, (pss_cons (ps_set (i := 2) sc_best_tour.nd rfl (Or.inl rfl) (pv 1)) (pss_cons (ps_set (i := 3) sc_best_tour.nd rfl (Or.inl rfl) (pe_fn f_cycle_time hr (by decide) rfl (pa_cons (pv 0) (pa_cons (pv 1) pa_nil)))) (pss_cons (ps_for PassesOwn.never rfl (pi_list (pe_fn f_orders_of hr (by decide) rfl (pa_cons (pv 1) pa_nil))) (pg_name (i := 4) sc_best_tour.nd rfl (Or.inl rfl)) (pss_cons (ps_set (i := 5) sc_best_tour.nd rfl (Or.inl rfl) (pe_fn f_cycle_time hr (by decide) rfl (pa_cons (pv 0) (pa_cons (pv 4) pa_nil)))) (pss_one (ps_if (pt_cmpR op_lt (pv 5) (pv 3) (nomark _)) (pss_cons (ps_set (i := 2) sc_best_tour.nd rfl (Or.inl rfl) (pv 4)) (pss_one (ps_set (i := 3) sc_best_tour.nd rfl (Or.inl rfl) (pv 5)))) pss_nil)))) (pss_one (ps_ret (pv 2)))))), ?_⟩
    have hm := hm.mono e0
    have ht := e0 _ _ ht
    refine q_asg (ev_var rfl) fun H1 e1 => ?_
    refine q_asg (ev_fn (ea_cons (ev_var rfl) (ea_cons (ev_var rfl) ea_nil)) fun H2 e2 => ⟨a, t, ws, l, ⟨rfl, hm.mono (e1.trans e2), (e1.trans e2) _ _ ht, T⟩, rfl⟩) fun H2 e2 => ?_
    refine q_forP (ep_fn (ea_cons (ev_var rfl) ea_nil) fun H3 e3 => ⟨t, l, rfl, ((e1.trans e2).trans e3) _ _ ht, hl, rfl⟩) ?_
    rintro v H3 e3 ⟨c, rs, rfl, hc, hr⟩
    have e03 := (e1.trans e2).trans e3
    refine ⟨c, rs.map V.ref, rfl, sq_of hc, fun i σ' H' => ∃ (b : Addr) (v4 v5 : Option V), σ' = [some (.ref a), some (.ref t), some (.ref b), some (.int (((bestM ws l ((ordersM l l.length).take i)).2 : Nat) : Int)), v4, v5] ∧ Ex H3 H' ∧ H' b = some (.lst (nV (bestM ws l ((ordersM l l.length).take i)).1)),
      ⟨t, none, none, rfl, Ex.refl _, e03 _ _ ht⟩, (fun i σ' H' _ ⟨_, _, _, _, e', _⟩ => sq_of (e' _ _ hc)), ?_, ?_⟩
    · rintro i x σ' H' hx ⟨b, v4, v5, rfl, e', hb⟩
      obtain ⟨r, hri, rfl⟩ := at_map hx
      obtain ⟨row, hrow, hrr⟩ := hr.get hri
      have Tr : Tour ws row := order_tour T hn (List.mem_of_getElem? hrow)
      have es := bestM_snoc (ws := ws) (l := l) hrow
      refine q_asg (ev_fn (ea_cons (ev_var rfl) (ea_cons (ev_var rfl) ea_nil)) fun H4 e4 => ⟨a, r, ws, row, ⟨rfl, hm.mono ((e03.trans e').trans e4), (e'.trans e4) _ _ hrr, Tr⟩, rfl⟩) fun H4 e4 => ?_
      refine s_when (b := decide (Sr120.cycleTime ws row < (bestM ws l ((ordersM l l.length).take i)).2)) (et_is (et_test (ev_op (ev_var rfl) (ev_var rfl) rv_I0)) (decide_eq_decide.mpr (by omega))) (fun hc1 H5 e5 => ?_) (fun hc1 H5 e5 => ?_)
      · have hlt := of_decide_eq_true hc1
        refine q_asg (ev_var rfl) fun H6 e6 => ?_
        refine s_asg (ev_var rfl) fun H7 e7 => ?_
        have e67 := (e4.trans e5).trans (e6.trans e7)
        refine ⟨r, some (.ref r), some (.int ((Sr120.cycleTime ws row : Nat) : Int)), ?_, e'.trans e67, ?_⟩
        · rw [es]
          unfold betterM
          rw [if_pos hlt]
          rfl
        · rw [es]
          unfold betterM
          rw [if_pos hlt]
          exact (e'.trans e67) _ _ hrr
      · have hlt := of_decide_eq_false hc1
        refine ⟨b, some (.ref r), some (.int ((Sr120.cycleTime ws row : Nat) : Int)), ?_, e'.trans (e4.trans e5), ?_⟩
        · rw [es]
          unfold betterM
          rw [if_neg hlt]
          rfl
        · rw [es]
          unfold betterM
          rw [if_neg hlt]
          exact (e4.trans e5) _ _ hb
    · rintro σ' H' ⟨b, v4, v5, rfl, e', hb⟩
      rw [List.length_map, hr.len, List.take_length, best_eq hn] at hb
      exact s_ret (ev_var rfl) fun H4 e4 => q _ H4 ((e03.trans e').trans e4) ⟨b, rfl, e4 _ _ hb⟩
def sp_least_cycle_time (_ : PySem.W.Frag) : Sp := spV fun vs H z => ∃ (a t : Addr) (ws : Sr120.Workshop) (l : List Nat), ArgT vs H a t ws l ∧ l.Nodup ∧ l.length ≤ 6 ∧ z = .int ((Sr120.minCycleTime ws l : Nat) : Int)
theorem best_tourT {ws : Sr120.Workshop} {l : List Nat} (T : Tour ws l) (hn : l.Nodup) : Tour ws (Sr120.bestTour ws l) := by
  have p := (best_min (w := ws) hn).1
  exact ⟨by rw [p.length_eq]; exact T.len, fun i hi => T.lt i (p.subset hi)⟩
abbrev st_least_cycle_time : Stmt := top 58
abbrev N_least_cycle_time : List Str := ["machines", "indices"]
theorem sc_least_cycle_time : FnScope N_least_cycle_time ["machines", "indices"] (defScope st_least_cycle_time) := ⟨rfl, rfl, rfl, by decide +kernel, rfl, by decide +kernel, by decide +kernel⟩
theorem ok_least_cycle_time (D0 : DefAt K mg "least_cycle_time" st_least_cycle_time ["machines", "indices"]) (f_cycle_time : Fn P w K mg base "cycle_time" 5 (sp_cycle_time K)) (f_best_tour : Fn P w K mg base "best_tour" 6 (sp_best_tour K))  : Fn P w K mg base "least_cycle_time" 7 (sp_least_cycle_time K) := by
  refine D0.fn fun f fd F => F.ok sc_least_cycle_time (fun vs H Q E h => ?_) (fun cdv A outer s H vs Q E hr h => ?_)
  · obtain ⟨z, H0, e0, ⟨a, t, ws, l, ⟨rfl, _⟩, _⟩, k⟩ := h; rfl
  · obtain ⟨z, H0, e0, ⟨a, t, ws, l, ⟨rfl, hm, ht, T⟩, hn, hl, rfl⟩, q⟩ := h
    refine ⟨_, (pss_one (ps_ret (pe_fn f_cycle_time hr (by decide) rfl (pa_cons (pv 0) (pa_cons (pe_fn f_best_tour hr (by decide) rfl (pa_cons (pv 0) (pa_cons (pv 1) pa_nil))) pa_nil))))), ?_⟩
    have hm := hm.mono e0
    have ht := e0 _ _ ht
    refine s_ret (ev_fnP (eap_cons (Ev.toP (ev_var rfl)) fun v H1 e1 ev => eap_cons (ep_fn (ea_cons (ev_var rfl) (ea_cons (ev_var rfl) ea_nil)) fun H2 e2 => ⟨a, t, ws, l, ⟨rfl, hm.mono (e1.trans e2), (e1.trans e2) _ _ ht, T⟩, hn, hl, rfl⟩) fun u H2 e2 ⟨p, eu, hp⟩ => eap_nil fun H3 e3 =>
      ⟨a, p, ws, Sr120.bestTour ws l, ⟨by rw [ev, eu], hm.mono ((e1.trans e2).trans e3), e3 _ _ hp, best_tourT T hn⟩, rfl⟩)) q
end
end Tw
namespace Tw
open PySem PySem.Spec PyProof.Rows L2 Evl
section
variable {P : Program} {w : World} {K : PySem.W.Frag} {mg : Str → Option Value} {base : Heap}
def sp_largest_set (_ : PySem.W.Frag) : Sp := spP fun vs H P => ∃ (a : Addr) (ws : Sr120.Workshop) (lim : Nat), vs = [.ref a, .int (lim : Int)] ∧ MsAt H a ws ∧ ws.length ≤ 6 ∧ P = LstV (nV (groupM ws lim (2 ^ ws.length)))
theorem mask_tour (ws : Sr120.Workshop) (hw : ws.length ≤ 6) (x : Nat) : Tour ws (SrCommon.maskMembers ws.length x) := ⟨by have := mask_len ws.length x; omega, fun _ h => mask_lt h⟩
abbrev st_largest_set : Stmt := top 62
abbrev N_largest_set : List Str := ["machines", "limit", "found", "mask", "indices"]
theorem sc_largest_set : FnScope N_largest_set ["machines", "limit"] (defScope st_largest_set) := ⟨rfl, rfl, rfl, by decide +kernel, rfl, by decide +kernel, by decide +kernel⟩
theorem ok_largest_set (D0 : DefAt K mg "largest_set" st_largest_set ["machines", "limit"]) (b_range : mg "range" = none) (b_len : mg "len" = none) (f_count_of_sets : Fn P w K mg base "count_of_sets" 1 (sp_count_of_sets K)) (f_set_of : Fn P w K mg base "set_of" 1 (sp_set_of K)) (f_least_cycle_time : Fn P w K mg base "least_cycle_time" 7 (sp_least_cycle_time K))  : Fn P w K mg base "largest_set" 8 (sp_largest_set K) := by
  refine D0.fn fun f fd F => F.ok sc_largest_set (fun vs H Q E h => ?_) (fun cdv A outer s H vs Q E hr h => ?_)
  · obtain ⟨z, H0, e0, ⟨a, ws, lim, rfl, _⟩, k⟩ := h; rfl
  · obtain ⟨z, H0, e0, ⟨a, ws, lim, rfl, hm, hw, rfl⟩, q⟩ := h
    refine ⟨_, (pss_cons (ps_set (i := 2) sc_largest_set.nd rfl (Or.inl rfl) (pe_lst pa_nil)) (pss_cons (ps_for PassesOwn.never rfl (pi_range1 rfl b_range (pa_cons (pe_fn f_count_of_sets hr (by decide) rfl (pa_cons (pv 0) pa_nil)) pa_nil)) (pg_name (i := 3) sc_largest_set.nd rfl (Or.inl rfl)) (pss_cons (ps_set (i := 4) sc_largest_set.nd rfl (Or.inl rfl) (pe_fn f_set_of hr (by decide) rfl (pa_cons (pv 3) (pa_cons (pe_callB call_len_seq (by rfl) b_len (by decide +kernel) (pa_cons (pv 0) pa_nil)) pa_nil)))) (pss_one (ps_if (PW.pt (pw_and (pt_cmpR op_gt (pe_callB call_len_seq (by rfl) b_len (by decide +kernel) (pa_cons (pv 4) pa_nil)) (pe_callB call_len_seq (by rfl) b_len (by decide +kernel) (pa_cons (pv 2) pa_nil)) (nomark _)) (pw_and1 (pt_cmpR op_le (pe_fn f_least_cycle_time hr (by decide) rfl (pa_cons (pv 0) (pa_cons (pv 4) pa_nil))) (pv 1) (nomark _))))) (pss_one (ps_set (i := 2) sc_largest_set.nd rfl (Or.inl rfl) (pv 4))) pss_nil)))) (pss_one (ps_ret (pv 2))))), ?_⟩
    have hm := hm.mono e0
    obtain ⟨xs, hxl, hx⟩ := hm.sq
    have h64 : 2 ^ ws.length ≤ 64 := Nat.le_trans (Nat.pow_le_pow_right (by decide) hw) (by decide)
    refine q_asgL (el_lst ea_nil (Nat.zero_le _)) fun p H1 hp e1 h1 => ?_
    refine q_forR1 (n := ((2 ^ ws.length : Nat) : Int)) (ea_cons (ev_fn (ea_cons (ev_var rfl) ea_nil) fun H2 e2 => ⟨a, xs, rfl, (e1.trans e2) _ _ hx, by omega, by rw [hxl]⟩) ea_nil) ⟨Int.natCast_nonneg _, Int.ofNat_le.mpr (Nat.le_trans h64 (by decide))⟩ (fun i σ' H' => ∃ (c : Addr) (v3 v4 : Option V), σ' = [some (.ref a), some (.int (lim : Int)), some (.ref c), v3, v4] ∧ Ex H H' ∧ H' c = some (.lst (nV (groupM ws lim i))))
      (fun H2 e2 => ⟨p, none, none, rfl, e1.trans e2, e2 _ _ h1⟩) ?_ ?_
    · rintro i σ' H' hi ⟨c, v3, v4, rfl, e', hc⟩
      refine q_asgL (el_fn (ea_cons (ev_var rfl) (ea_cons (ev_is (ev_len (ev_var rfl) (sq_of (e' _ _ hx))) (by rw [hxl])) ea_nil)) fun H2 e2 => ⟨i, ws.length, rfl, by omega, rfl⟩) fun p2 H2 hp2 e2 h2 => ?_
      have e02 := e'.trans e2
      have hc2 := e2 _ _ hc
      refine s_when (b := decide ((groupM ws lim i).length < (SrCommon.maskMembers ws.length i).length) && decide (Sr120.minCycleTime ws (SrCommon.maskMembers ws.length i) ≤ lim))
        (et_and (et_is (et_test (ev_op (ev_len (ev_var rfl) (sq_of h2)) (ev_len (ev_var rfl) (sq_of hc2)) rv_I0)) (decide_eq_decide.mpr (by rw [nV_len, nV_len]; omega)))
          (fun _ => et_is (et_test (ev_op (ev_fn (ea_cons (ev_var rfl) (ea_cons (ev_var rfl) ea_nil)) fun H3 e3 => ⟨a, p2, ws, SrCommon.maskMembers ws.length i, ⟨rfl, hm.mono (e02.trans e3), e3 _ _ h2, mask_tour ws hw i⟩, mask_nodup _ _, by have := mask_len ws.length i; omega, rfl⟩) (ev_var rfl) rv_I0)) (decide_eq_decide.mpr (by omega)))) (fun hb H3 e3 => ?_) (fun hb H3 e3 => ?_)
      · have hb' := Bool.and_eq_true_iff.mp hb
        refine s_asg (ev_var rfl) fun H4 e4 => ⟨p2, some (.int (i : Int)), some (.ref p2), rfl, (e02.trans e3).trans e4, ?_⟩
        rw [group_succ, if_pos ⟨of_decide_eq_true hb'.1, of_decide_eq_true hb'.2⟩]
        exact (e3.trans e4) _ _ h2
      · refine ⟨c, some (.int (i : Int)), some (.ref p2), rfl, e02.trans e3, ?_⟩
        rw [group_succ, if_neg (fun w0 => by rw [decide_eq_true w0.1, decide_eq_true w0.2] at hb; cases hb)]
        exact e3 _ _ hc2
    · rintro σ' H' ⟨c, v3, v4, rfl, e', hc⟩
      rw [Int.toNat_natCast] at hc
      exact s_ret (ev_var rfl) fun H3 e3 => q _ H3 (e'.trans e3) ⟨c, rfl, e3 _ _ hc⟩
/-! ### pairs of ints in a row -/
abbrev gP (p : Int × Int) : HO := .tup [.int p.1, .int p.2]
def PairsV (ps : List (Int × Int)) : V → Hp → Prop := fun v H => ∃ D rs, v = .ref D ∧ H D = some (.lst (rs.map V.ref)) ∧ ObsP gP H rs ps
/-- [(.., ..) for i, x in enumerate(xs)] -/
theorem ep_lcE {σ : L2.St} {H : Hp} {a : Addr} {xs : List V} {tr : TA} {j1 j2 : Nat} {vs : List Nat} {te : TE} (f : Nat → Int × Int) (h : EvA tr σ H [.ref a]) (hx : SqL K H a xs) (hz : xs.length ≤ 40000) (hw : ∀ x y, wipe (((wipe σ vs).set j1 (some x)).set j2 (some y)) vs = wipe σ vs)
    (he : ∀ (i : Nat) (y : V) H1, Ex H H1 → xs[i]? = some y → EvU te (((wipe σ vs).set j1 (some (.int (i : Int)))).set j2 (some y)) H1 [.int (f i).1, .int (f i).2]) :
    EvP (tLc (iEnum K tr) (gTup K 2 (gCons (gName j1) (gCons (gName j2) gNil))) tYes te vs) σ H (PairsV ((List.range xs.length).map f)) := fun H0 e Q q => h H0 e _ fun H1 e1 => ⟨a, xs, rfl, ex_l (e.trans e1) hx, fun D hD => by
  have e01 := e.trans e1
  refine lc_it (walk_enum (K := K) (xs := xs)) (fun i H' => Ex H1 H' ∧ ∃ rs : List Addr, H' D = some (.lst (rs.map V.ref)) ∧ ObsP gP (wo H' D) rs ((List.range i).map f)) ⟨Ex.new hD, [], upd_same, trivial⟩ (fun i H' _ p => ex_l (e01.trans p.1) hx) ?_ ?_
  · rintro i v H2 H3 hi ⟨e2, rs, hd2, hr2⟩ ⟨T, x, y, rfl, hT, rfl, hxe, hy⟩
    cases hxe
    refine ⟨T, _, rfl, SqT.of upd_same, rfl, _, _, rfl, _, _, rfl, rfl, hw _ _, ?_⟩
    have e3 : Ex H2 (upd H2 T (.tup [.int (i : Int), y])) := Ex.new hT
    unfold tYes
    dsimp only
    rw [if_pos rfl]
    refine he i y _ (e01.trans (e2.trans e3)) hy _ (Ex.refl _) _ fun p H4 hp e4 h4 => ?_
    have hne : p ≠ D := fun q0 => by
      rw [q0, e3 _ _ hd2] at hp
      cases hp
    refine ⟨_, e4 _ _ (e3 _ _ hd2), ?_, Ex.mut ((e2.trans e3).trans e4) hD, rs ++ [p], ?_, ?_⟩
    · rw [List.length_map, hr2.len, List.length_map, List.length_range]
      exact sz_lt (by omega)
    · rw [upd_same, List.map_append]
      rfl
    · rw [wo_upd, List.range_succ, List.map_append]
      exact ObsP.snoc (g := gP) (wo_at h4 hne) (hr2.mono (wo_mono (e3.trans e4)))
  · rintro H' ⟨e2, rs, hd2, hr2⟩
    exact q _ H' (e1.trans e2) ⟨D, rs, rfl, hd2, hr2.mono wo_ex⟩⟩
def backA : V → Addr
  | .ref a => a
  | _ => 0
def keyP (H : Hp) (v : V) : Int × Int := match H (backA v) with
  | some (.tup [.int i, .int j]) => (i, j)
  | _ => (0, 0)
theorem keyP_at {H : Hp} {t : Addr} {p : Int × Int} (h : H t = some (gP p)) : keyP H (.ref t) = p := by
  unfold keyP
  show (match H t with
    | some (.tup [.int i, .int j]) => (i, j)
    | _ => (0, 0)) = p
  rw [h]
theorem obs_keys {H : Hp} : ∀ {rs : List Addr} {ps : List (Int × Int)}, ObsP gP H rs ps → (rs.map V.ref).map (keyP H) = ps
  | [], [], _ => rfl
  | r :: rs, p :: ps, h => by
    rw [List.map_cons, List.map_cons, keyP_at h.1, obs_keys h.2]
  | [], _ :: _, h => h.elim
  | _ :: _, [], h => h.elim
theorem obs_mem {H : Hp} {rs : List Addr} {ps : List (Int × Int)} (h : ObsP gP H rs ps) : ∀ x ∈ rs.map V.ref, ∃ t, x = V.ref t ∧ H t = some (.tup [.int (keyP H x).1, .int (keyP H x).2]) := fun x hx => by
  obtain ⟨r, hr, rfl⟩ := List.mem_map.mp hx
  obtain ⟨i, hi, e⟩ := List.mem_iff_getElem.mp hr
  obtain ⟨p, _, hp⟩ := h.get (i := i) (r := r) (by rw [List.getElem?_eq_getElem hi, e])
  exact ⟨r, rfl, by rw [keyP_at hp]; exact hp⟩
theorem obs_of {H : Hp} {k : V → Int × Int} : ∀ ys : List V, (∀ y ∈ ys, ∃ t, y = V.ref t ∧ H t = some (gP (k y))) → (ys.map backA).map V.ref = ys ∧ ObsP gP H (ys.map backA) (ys.map k)
  | [], _ => ⟨rfl, trivial⟩
  | y :: ys, h => by
    obtain ⟨t, e, ht⟩ := h y (List.mem_cons_self ..)
    obtain ⟨h1, h2⟩ := obs_of ys fun z hz => h z (List.mem_cons_of_mem _ hz)
    subst e
    exact ⟨by rw [List.map_cons, List.map_cons, h1]; rfl, ht, h2⟩
/-- sorted(pairs) -/
theorem ep_sorted {σ : L2.St} {H : Hp} {te : TE} {ps : List (Int × Int)} (h : EvP te σ H (PairsV ps)) : EvP (tCB (rSortedPO K) (tCons te tNil)) σ H (fun v H' => ∃ qs, qs.Perm ps ∧ qs.Pairwise leP ∧ PairsV qs v H') := fun H1 e Q q => h H1 e _ fun v H2 e2 ⟨D, rs, ev, hD, hr⟩ => by
  subst ev
  refine ⟨D, rs.map V.ref, keyP H2, rfl, sq_of hD, obs_mem hr, fun ys p hs hb hp => ?_⟩
  have e3 : Ex H2 (upd H2 p (.lst ys)) := Ex.new hp
  obtain ⟨h1, h2⟩ := obs_of (H := H2) (k := keyP H2) ys fun y hy => obs_mem hr y (hb.perm.subset hy)
  refine q _ _ (e2.trans e3) ⟨ys.map (keyP H2), ?_, ?_, p, ys.map backA, rfl, ?_, h2.mono e3⟩
  · have := hb.perm.map (keyP H2)
    rw [obs_keys hr] at this
    exact this
  · refine List.pairwise_map.mpr (List.Pairwise.imp (fun {x y} hxy => ?_) hs)
    have := SrtO.lexB_no.mp hxy
    unfold leP
    omega
  · rw [upd_same, h1]
/-- [j for i, j in pairs] -/
theorem el_lcP {σ : L2.St} {H : Hp} {a : Addr} {rs : List Addr} {ps : List (Int × Int)} {tl : TE} {j1 j2 : Nat} {vs : List Nat} {te : TE} (h : Ev tl σ H (.ref a)) (hx : H a = some (.lst (rs.map V.ref))) (hr : ObsP gP H rs ps) (hz : ps.length ≤ 40000) (hw : ∀ x y, wipe (((wipe σ vs).set j1 (some x)).set j2 (some y)) vs = wipe σ vs)
    (he : ∀ (x y : V) H1, Ev te (((wipe σ vs).set j1 (some x)).set j2 (some y)) H1 y) :
    EvL (tLc (iList K tl) (gTup K 2 (gCons (gName j1) (gCons (gName j2) gNil))) tYes te vs) σ H (ps.map fun p => .int p.2) := fun H0 e Q q => h H0 e _ fun H1 e1 => ⟨a, rfl, ⟨_, sq_of (e1 _ _ (e _ _ hx))⟩, fun D hD => by
  have e01 := e.trans e1
  refine lc_list (K := K) (a := a) (xs := rs.map V.ref) (fun i H' => Ex H1 H' ∧ H' D = some (.lst ((ps.take i).map fun p => .int p.2))) ⟨Ex.new hD, upd_same⟩ (fun i H' _ p => sq_of ((e01.trans p.1) _ _ hx)) ?_ ?_
  · rintro i x H2 hxi ⟨e2, hd2⟩
    obtain ⟨r, hri, rfl⟩ := at_map hxi
    obtain ⟨p, hpi, hrp⟩ := hr.get hri
    refine ⟨r, _, rfl, st_of ((e01.trans e2) _ _ hrp), rfl, _, _, rfl, _, _, rfl, rfl, hw _ _, ?_⟩
    unfold tYes
    dsimp only
    rw [if_pos rfl]
    refine he _ _ H2 H2 (Ex.refl _) _ fun H3 e3 => ⟨_, e3 _ _ hd2, ?_, Ex.mut (e2.trans e3) hD, ?_⟩
    · rw [List.length_map, List.length_take]
      exact sz_lt (by omega)
    · rw [upd_same, take_more hpi, List.map_append]
      rfl
  · rintro H' ⟨e2, hd2⟩
    rw [List.length_map, hr.len, List.take_length] at hd2
    exact q D H' (fresh_back e1 hD) (e1.trans e2) hd2⟩
def sp_wall_order (_ : PySem.W.Frag) : Sp := spL fun vs H xs => ∃ (a : Addr) (ws : Sr120.Workshop), vs = [.ref a] ∧ MsAt H a ws ∧ ws.length ≤ 6 ∧ xs = nV (Sr120.wallOrder ws (List.range ws.length))
abbrev st_wall_order : Stmt := top 53
abbrev N_wall_order : List Str := ["machines", "pairs", "index", "machine", "position"]
theorem sc_wall_order : FnScope N_wall_order ["machines"] (defScope st_wall_order) := ⟨rfl, rfl, rfl, by decide +kernel, rfl, by decide +kernel, by decide +kernel⟩
theorem ok_wall_order (D0 : DefAt K mg "wall_order" st_wall_order ["machines"]) (b_sorted : mg "sorted" = none) (b_enumerate : mg "enumerate" = none) (f_position_of : Fn P w K mg base "position_of" 1 (sp_position_of K))  : Fn P w K mg base "wall_order" 2 (sp_wall_order K) := by
  refine D0.fn fun f fd F => F.ok sc_wall_order (fun vs H Q E h => ?_) (fun cdv A outer s H vs Q E hr h => ?_)
  · obtain ⟨z, H0, e0, ⟨a, ws, rfl, _⟩, k⟩ := h; rfl
  · obtain ⟨z, H0, e0, ⟨a, ws, rfl, hm, hw, rfl⟩, q⟩ := h
    refine ⟨_, (pss_cons (ps_set (i := 1) sc_wall_order.nd rfl (Or.inl rfl) (pe_callB cr_sortedPO (by rfl) b_sorted (by decide +kernel) (pa_cons (pe_lc (own := [("index", 2), ("machine", 3)]) (g := gTup K 2 (gCons (gName 2) (gCons (gName 3) gNil))) rfl sc_wall_order.nd (pi_enum (by rfl) b_enumerate (pa_cons (pv 0) pa_nil)) (blkOk_by (own := [("index", 2), ("machine", 3)]) (N := N_wall_order) (sc := defScope st_wall_order) (by decide +kernel)) (fun _ _ _ _ _ => (pg_tup rfl (pgs_cons (pg_name (i := 2) sc_wall_order.nd rfl (Or.inl rfl)) (pgs_cons (pg_name (i := 3) sc_wall_order.nd rfl (Or.inl rfl)) pgs_nil)))) (fun _ _ _ _ _ => pts_nil) (fun _ _ _ _ _ => (pe_tup (pa_cons (pe_fn f_position_of hr (by decide) rfl (pa_cons (pv 3) pa_nil)) (pa_cons (pv 2) pa_nil))))) pa_nil))) (pss_one (ps_ret (pe_lc (own := [("position", 4), ("index", 2)]) (g := gTup K 2 (gCons (gName 4) (gCons (gName 2) gNil))) rfl sc_wall_order.nd (pi_list (pv 1)) (blkOk_by (own := [("position", 4), ("index", 2)]) (N := N_wall_order) (sc := defScope st_wall_order) (by decide +kernel)) (fun _ _ _ _ _ => (pg_tup rfl (pgs_cons (pg_name (i := 4) sc_wall_order.nd rfl (Or.inl rfl)) (pgs_cons (pg_name (i := 2) sc_wall_order.nd rfl (Or.inl rfl)) pgs_nil)))) (fun _ _ _ _ _ => pts_nil) (fun _ _ _ _ _ => (pv 2)))))), ?_⟩
    have hm := hm.mono e0
    obtain ⟨xs, hxl, hx⟩ := hm.sq
    refine q_asgP (ep_sorted (ep_lcE (pairOf ws) (ea_cons (ev_var rfl) ea_nil) (sq_of hx) (by omega) (fun _ _ => rfl) (fun i y H1 e1 hy => by
      have hi : i < ws.length := by
        have := (List.getElem?_eq_some_iff.mp hy).1
        omega
      obtain ⟨ys, r, a1, a2, a3, a4⟩ := (hm.mono e1).get hi
      have exs : ys = xs := by
        have := e1 _ _ hx
        rw [a1] at this
        cases this
        rfl
      subst exs
      rw [hy] at a3
      cases a3
      exact eu_tup (ea_cons (ev_fn (ea_cons (ev_var rfl) ea_nil) fun H2 e2 => ⟨r, _, rfl, e2 _ _ a4, rfl⟩) (ea_cons (ev_var rfl) ea_nil)) (by show 2 ≤ 100000; decide)))) ?_
    rintro v H1 e1 ⟨qs, hp, hs, D, rs, rfl, hD, hr⟩
    rw [hxl] at hp
    have eq := wall_sort hp hs
    subst eq
    have hlen : (Sr120.wallOrder ws (List.range ws.length)).length = ws.length := by rw [(wall_perm ws _).length_eq, List.length_range]
    refine s_retL (el_lcP (ev_var rfl) hD hr (by rw [List.length_map]; omega) (fun _ _ => rfl) (fun x y H2 => ev_var rfl)) fun p H2 hp2 e2 h2 => q p H2 (fresh_back e1 hp2) (e1.trans e2) ?_
    rw [h2, List.map_map]
    rfl
end
end Tw
namespace Tw
open PySem PySem.Spec PyProof.Rows L2 Evl
section
variable {P : Program} {w : World} {K : PySem.W.Frag} {mg : Str → Option Value} {base : Heap}
/-! ### the instance and what is asked of it -/
def WallOk (K : PySem.W.Frag) (H : Hp) (a l : Addr) : Prop := ∃ C dx, Cls K C ∧ NoAttr K C "machines" ∧ H a = some (.ins C dx [("machines", .ref l)])
theorem WallOk.mono {H H' : Hp} {a l : Addr} (e : Ex H H') (h : WallOk K H a l) : WallOk K H' a l := by
  obtain ⟨C, dx, h1, h2, h3⟩ := h
  exact ⟨C, dx, h1, h2, e _ _ h3⟩
structure QArg (K : PySem.W.Frag) (vs : List V) (H : Hp) (a l pp : Addr) (ws : Sr120.Workshop) (xs : List V) : Prop where
  vs : vs = [.ref a, .ref pp]
  wl : WallOk K H a l
  ms : MsAt H l ws
  pt : H pp = some (.lst xs)
  ok : Valid ws
/-- what a call answers -/
def ansV (r : SrCommon.Result) : List V := (r.code :: r.values).map V.int
def ans (ws : Sr120.Workshop) (c : Sr120.Call) : List V := ansV (Sr120.perform ws c).2
/-- a question's promise: xs the call's parts, c the call -/
def spQ (K : PySem.W.Frag) (A : Hp → List V → Sr120.Call → Prop) : Sp := spL fun vs H zs => ∃ (a l pp : Addr) (ws : Sr120.Workshop) (xs : List V) (c : Sr120.Call), QArg K vs H a l pp ws xs ∧ A H xs c ∧ zs = ans ws c
theorem spQ.len {A : Hp → List V → Sr120.Call → Prop} {vs : List V} {H : Hp} {Q : VK} {E : XK} (h : spQ K A vs H Q E) : vs.length = 2 := by
  obtain ⟨z, H0, e0, ⟨a, l, pp, ws, xs, c, ⟨rfl, _, _, _, _⟩, _, _⟩, k⟩ := h
  rfl
theorem look_m (l : Addr) : ([("machines", V.ref l)] : List (Str × V)).lookup ("machines" : Str) = some (V.ref l) := by
  have e : (("machines" : Str) == "machines") = true := beq_self_eq_true _
  simp only [List.lookup, e]
theorem ev_wm {σ : L2.St} {H : Hp} {a l : Addr} {te : TE} (h : WallOk K H a l) (ha : Ev te σ H (.ref a)) : Ev (tFld K te "machines") σ H (.ref l) := by
  obtain ⟨C, dx, h1, h2, h3⟩ := h
  exact ev_fld ha h3 h1 h2 (look_m l)
/-- parts[i] -/
theorem ev_pt {σ : L2.St} {H : Hp} {pp : Addr} {xs : List V} {v : V} {te tb : TE} {j : Nat} {i : Int} (hp : H pp = some (.lst xs)) (h1 : Ev te σ H (.ref pp)) (h2 : Ev tb σ H (.int i)) (hi : i = (j : Int)) (hx : xs[j]? = some v) : Ev (tOp (rIxL K) te tb) σ H v :=
  ev_op h1 h2 (rv_ixL (sq_of hp) (at_of hi hx))
theorem natsV (l : List Nat) : (SrCommon.natsToInts l).map V.int = nV l := (nV_ints l).symm
theorem allTour (ws : Sr120.Workshop) (V0 : Valid ws) : Tour ws (List.range ws.length) := ⟨by rw [List.length_range]; have := V0.len; omega, fun i h => List.mem_range.mp h⟩
/-- least_cycle_time(machines, all_indices(machines)) -/
theorem ev_least {σ : L2.St} {H : Hp} {l : Addr} {ws : Sr120.Workshop} {t1 t2 : TE} {E1 E2 : XK} (hm : MsAt H l ws) (V0 : Valid ws) (h1 : Ev t1 σ H (.ref l)) (h2 : Ev t2 σ H (.ref l)) :
    Ev (tCall (sp_least_cycle_time K) [] E1 (tCons t1 (tCons (tCall (sp_all_indices K) [] E2 (tCons t2 tNil)) tNil))) σ H (.int ((Sr120.minCycleTime ws (Sr120.allMachines ws) : Nat) : Int)) := by
  obtain ⟨xs, hxl, hx⟩ := hm.sq
  have hw := V0.len
  refine ev_fnP (eap_cons (Ev.toP h1) fun v H1 e1 ev => eap_cons (EvL.toP (el_fn (ea_cons (h2.mono e1) ea_nil) fun H2 e2 => ⟨l, xs, rfl, (e1.trans e2) _ _ hx, by omega, rfl⟩)) fun u H2 e2 ⟨p, eu, hp⟩ => eap_nil fun H3 e3 => ?_)
  rw [hxl] at hp
  exact ⟨l, p, ws, List.range ws.length, ⟨by rw [ev, eu], hm.mono ((e1.trans e2).trans e3), e3 _ _ hp, allTour ws V0⟩, List.nodup_range, by rw [List.length_range]; exact hw, rfl⟩
/-- best_tour(machines, indices) -/
theorem ep_best {σ : L2.St} {H : Hp} {l : Addr} {ws : Sr120.Workshop} {ts : List Nat} {t1 t2 : TE} {E1 : XK} (hm : MsAt H l ws) (T : Tour ws ts) (hn : ts.Nodup) (hl : ts.length ≤ 6) (h1 : Ev t1 σ H (.ref l)) (h2 : EvP t2 σ H (LstV (nV ts))) :
    EvP (tCall (sp_best_tour K) [] E1 (tCons t1 (tCons t2 tNil))) σ H (LstV (nV (Sr120.bestTour ws ts))) := fun H0 e Q q =>
  h1 H0 e _ fun H1 e1 => h2 H1 (e.trans e1) _ fun v H2 e2 ⟨p, ev, hp⟩ => ⟨_, H2, Ex.refl H2, ⟨l, p, ws, ts, ⟨by rw [ev]; rfl, hm.mono ((e.trans e1).trans e2), hp, T⟩, hn, hl, rfl⟩, fun u H3 e3 hu => q u H3 ((e1.trans e2).trans e3) hu⟩
/-- timed(machines, tour) -/
theorem el_timed {σ : L2.St} {H : Hp} {l : Addr} {ws : Sr120.Workshop} {ts : List Nat} {t1 t2 : TE} {E1 : XK} (hm : MsAt H l ws) (T : Tour ws ts) (h1 : Ev t1 σ H (.ref l)) (h2 : EvP t2 σ H (LstV (nV ts))) :
    EvL (tCall (sp_timed K) [] E1 (tCons t1 (tCons t2 tNil))) σ H (.int ((Sr120.cycleTime ws ts : Nat) : Int) :: nV ts) :=
  el_fnP (eap_cons (Ev.toP h1) fun v H1 e1 ev => eap_cons (h2.mono e1) fun u H2 e2 ⟨p, eu, hp⟩ => eap_nil fun H3 e3 => ⟨l, p, ws, ts, ⟨by rw [ev, eu], hm.mono ((e1.trans e2).trans e3), e3 _ _ hp, T⟩, rfl⟩)
theorem ep_all {σ : L2.St} {H : Hp} {l : Addr} {ws : Sr120.Workshop} {t2 : TE} {E2 : XK} (hm : MsAt H l ws) (V0 : Valid ws) (h2 : Ev t2 σ H (.ref l)) : EvP (tCall (sp_all_indices K) [] E2 (tCons t2 tNil)) σ H (LstV (nV (List.range ws.length))) := by
  obtain ⟨xs, hxl, hx⟩ := hm.sq
  have hw := V0.len
  rw [← hxl]
  exact EvL.toP (el_fn (ea_cons h2 ea_nil) fun H2 e2 => ⟨l, xs, rfl, e2 _ _ hx, by omega, rfl⟩)
theorem ep_wall {σ : L2.St} {H : Hp} {l : Addr} {ws : Sr120.Workshop} {t2 : TE} {E2 : XK} (hm : MsAt H l ws) (V0 : Valid ws) (h2 : Ev t2 σ H (.ref l)) : EvP (tCall (sp_wall_order K) [] E2 (tCons t2 tNil)) σ H (LstV (nV (Sr120.wallOrder ws (List.range ws.length)))) :=
  EvL.toP (el_fn (ea_cons h2 ea_nil) fun H2 e2 => ⟨l, ws, rfl, hm.mono e2, V0.len, rfl⟩)
theorem wallTour (ws : Sr120.Workshop) (V0 : Valid ws) : Tour ws (Sr120.wallOrder ws (List.range ws.length)) := by
  have p := wall_perm ws (List.range ws.length)
  exact ⟨by rw [p.length_eq, List.length_range]; have := V0.len; omega, fun i h => List.mem_range.mp (p.subset h)⟩
theorem tour_nats {n : Nat} {ns : List Int} (h : tourB n ns = true) : ns.map V.int = nV (SrCommon.intsToNats ns) ∧ ∀ i ∈ SrCommon.intsToNats ns, i < n := by
  obtain ⟨_, h2⟩ := tourB_iff.mp h
  have pos : ∀ i ∈ ns, 0 ≤ i ∧ i < (n : Int) := fun i hi => by
    have := h2 i hi
    unfold SrCommon.isIndex at this
    rw [Bool.and_eq_true, decide_eq_true_eq, decide_eq_true_eq] at this
    exact this
  refine ⟨?_, fun i hi => ?_⟩
  · unfold nV SrCommon.intsToNats
    rw [List.map_map]
    refine List.map_congr_left fun i hi => ?_
    have := pos i hi
    show V.int i = V.int ((i.toNat : Nat) : Int)
    rw [Int.toNat_of_nonneg this.1]
  · obtain ⟨x, hx, rfl⟩ := List.mem_map.mp hi
    have := pos x hx
    omega
theorem tour_T {ws : Sr120.Workshop} {ns : List Int} (hl : ns.length ≤ 70) (h : tourB ws.length ns = true) : Tour ws (SrCommon.intsToNats ns) := ⟨by unfold SrCommon.intsToNats; rw [List.length_map]; omega, (tour_nats h).2⟩
/-- is_tour(machines, tour) -/
theorem ev_isT {σ : L2.St} {H : Hp} {l t : Addr} {ws : Sr120.Workshop} {ns : List Int} {t1 t2 : TE} {E1 : XK} (hm : MsAt H l ws) (ht : H t = some (.lst (ns.map V.int))) (hl : ns.length ≤ 70) (h1 : Ev t1 σ H (.ref l)) (h2 : Ev t2 σ H (.ref t)) :
    Ev (tCall (sp_is_tour K) [] E1 (tCons t1 (tCons t2 tNil))) σ H (.bl (tourB ws.length ns)) := by
  obtain ⟨xs, hxl, hx⟩ := hm.sq
  exact ev_fn (ea_cons h1 (ea_cons h2 ea_nil)) fun H1 e => ⟨l, t, xs, ns, rfl, e _ _ hx, e _ _ ht, by omega, by rw [hxl]⟩
theorem not_true {b : Bool} (h : (!b) = true) : b = false := by cases b <;> first | rfl | cases h
theorem not_false' {b : Bool} (h : (!b) = false) : b = true := by cases b <;> first | rfl | cases h
def sp_min_cycle_time (K : PySem.W.Frag) : Sp := spQ K fun _ _ c => c = .minCycleTime
abbrev st_min_cycle_time : Stmt := top 66
abbrev N_min_cycle_time : List Str := ["wall", "parts"]
theorem sc_min_cycle_time : FnScope N_min_cycle_time ["wall", "parts"] (defScope st_min_cycle_time) := ⟨rfl, rfl, rfl, by decide +kernel, rfl, by decide +kernel, by decide +kernel⟩
theorem ok_min_cycle_time (D0 : DefAt K mg "min_cycle_time" st_min_cycle_time ["wall", "parts"]) (f_least_cycle_time : Fn P w K mg base "least_cycle_time" 7 (sp_least_cycle_time K)) (f_all_indices : Fn P w K mg base "all_indices" 1 (sp_all_indices K))  : Fn P w K mg base "min_cycle_time" 8 (sp_min_cycle_time K) := by
  refine D0.fn fun f fd F => F.ok sc_min_cycle_time (fun vs H Q E h => ?_) (fun cdv A outer s H vs Q E hr h => ?_)
  · exact h.len
  · obtain ⟨z, H0, e0, ⟨a, l, pp, ws, xs, c, ⟨rfl, hw, hm, hp, V0⟩, rfl, rfl⟩, k⟩ := h
    refine ⟨_, (pss_one (ps_ret (pe_lst (pa_cons (pe_fn f_least_cycle_time hr (by decide) rfl (pa_cons (pe_fld (pv 0) rfl) (pa_cons (pe_fn f_all_indices hr (by decide) rfl (pa_cons (pe_fld (pv 0) rfl) pa_nil)) pa_nil))) pa_nil)))), ?_⟩
    exact s_retL (el_lst (ea_cons (ev_least (hm.mono e0) V0 (ev_wm (hw.mono e0) (ev_var rfl)) (ev_wm (hw.mono e0) (ev_var rfl))) ea_nil) (by show 1 ≤ 100000; decide)) k
def sp_find_best_tour (K : PySem.W.Frag) : Sp := spQ K fun _ _ c => c = .bestTour
abbrev st_find_best_tour : Stmt := top 67
abbrev N_find_best_tour : List Str := ["wall", "parts"]
theorem sc_find_best_tour : FnScope N_find_best_tour ["wall", "parts"] (defScope st_find_best_tour) := ⟨rfl, rfl, rfl, by decide +kernel, rfl, by decide +kernel, by decide +kernel⟩
theorem ok_find_best_tour (D0 : DefAt K mg "find_best_tour" st_find_best_tour ["wall", "parts"]) (f_timed : Fn P w K mg base "timed" 6 (sp_timed K)) (f_best_tour : Fn P w K mg base "best_tour" 6 (sp_best_tour K)) (f_all_indices : Fn P w K mg base "all_indices" 1 (sp_all_indices K))  : Fn P w K mg base "find_best_tour" 7 (sp_find_best_tour K) := by
  refine D0.fn fun f fd F => F.ok sc_find_best_tour (fun vs H Q E h => ?_) (fun cdv A outer s H vs Q E hr h => ?_)
  · exact h.len
  · obtain ⟨z, H0, e0, ⟨a, l, pp, ws, xs, c, ⟨rfl, hw, hm, hp, V0⟩, rfl, rfl⟩, k⟩ := h
    refine ⟨_, (pss_one (ps_ret (pe_fn f_timed hr (by decide) rfl (pa_cons (pe_fld (pv 0) rfl) (pa_cons (pe_fn f_best_tour hr (by decide) rfl (pa_cons (pe_fld (pv 0) rfl) (pa_cons (pe_fn f_all_indices hr (by decide) rfl (pa_cons (pe_fld (pv 0) rfl) pa_nil)) pa_nil))) pa_nil))))), ?_⟩
    have hm := hm.mono e0
    have hw := hw.mono e0
    have T := allTour ws V0
    refine s_retL (el_timed hm (best_tourT T List.nodup_range) (ev_wm hw (ev_var rfl)) (ep_best hm T List.nodup_range (by rw [List.length_range]; exact V0.len) (ev_wm hw (ev_var rfl)) (ep_all hm V0 (ev_wm hw (ev_var rfl))))) fun p H1 h1 h2 h3 => k p H1 h1 h2 ?_
    rw [h3]
    show _ = some (HO.lst (V.int _ :: (SrCommon.natsToInts _).map V.int))
    rw [natsV]
    rfl
def sp_find_wall_order (K : PySem.W.Frag) : Sp := spQ K fun _ _ c => c = .wallOrder
abbrev st_find_wall_order : Stmt := top 69
abbrev N_find_wall_order : List Str := ["wall", "parts"]
theorem sc_find_wall_order : FnScope N_find_wall_order ["wall", "parts"] (defScope st_find_wall_order) := ⟨rfl, rfl, rfl, by decide +kernel, rfl, by decide +kernel, by decide +kernel⟩
theorem ok_find_wall_order (D0 : DefAt K mg "find_wall_order" st_find_wall_order ["wall", "parts"]) (f_timed : Fn P w K mg base "timed" 6 (sp_timed K)) (f_wall_order : Fn P w K mg base "wall_order" 2 (sp_wall_order K))  : Fn P w K mg base "find_wall_order" 7 (sp_find_wall_order K) := by
  refine D0.fn fun f fd F => F.ok sc_find_wall_order (fun vs H Q E h => ?_) (fun cdv A outer s H vs Q E hr h => ?_)
  · exact h.len
  · obtain ⟨z, H0, e0, ⟨a, l, pp, ws, xs, c, ⟨rfl, hw, hm, hp, V0⟩, rfl, rfl⟩, k⟩ := h
    refine ⟨_, (pss_one (ps_ret (pe_fn f_timed hr (by decide) rfl (pa_cons (pe_fld (pv 0) rfl) (pa_cons (pe_fn f_wall_order hr (by decide) rfl (pa_cons (pe_fld (pv 0) rfl) pa_nil)) pa_nil))))), ?_⟩
    have hm := hm.mono e0
    have hw := hw.mono e0
    refine s_retL (el_timed hm (wallTour ws V0) (ev_wm hw (ev_var rfl)) (ep_wall hm V0 (ev_wm hw (ev_var rfl)))) fun p H1 h1 h2 h3 => k p H1 h1 h2 ?_
    rw [h3]
    show _ = some (HO.lst (V.int _ :: (SrCommon.natsToInts _).map V.int))
    rw [natsV]
    rfl
def sp_times_of_tour (K : PySem.W.Frag) : Sp := spQ K fun H xs c => ∃ (t : Addr) (ns : List Int), xs = [.ref t] ∧ H t = some (.lst (ns.map V.int)) ∧ ns.length ≤ 70 ∧ c = .cycleTime ns
theorem ans_cycle {ws : Sr120.Workshop} {ns : List Int} : ans ws (.cycleTime ns) = if tourB ws.length ns = false then [.int (-22)] else [.int ((Sr120.cycleTime ws (SrCommon.intsToNats ns) : Nat) : Int), .int ((Sr120.busyTime ws (SrCommon.intsToNats ns) : Nat) : Int), .int ((Sr120.walkTime ws (SrCommon.intsToNats ns) : Nat) : Int)] := by
  have e : Sr120.isTour ws ns = tourB ws.length ns := rfl
  unfold ans Sr120.perform
  dsimp only
  rw [e]
  split <;> rfl
abbrev st_times_of_tour : Stmt := top 68
abbrev N_times_of_tour : List Str := ["wall", "parts", "machines", "tour"]
theorem sc_times_of_tour : FnScope N_times_of_tour ["wall", "parts"] (defScope st_times_of_tour) := ⟨rfl, rfl, rfl, by decide +kernel, rfl, by decide +kernel, by decide +kernel⟩
theorem ok_times_of_tour (D0 : DefAt K mg "times_of_tour" st_times_of_tour ["wall", "parts"]) (c_OUT_OF_RANGE : CI mg "OUT_OF_RANGE" (-22)) (f_is_tour : Fn P w K mg base "is_tour" 2 (sp_is_tour K)) (f_cycle_time : Fn P w K mg base "cycle_time" 5 (sp_cycle_time K)) (f_busy_time : Fn P w K mg base "busy_time" 4 (sp_busy_time K)) (f_walking_time : Fn P w K mg base "walking_time" 3 (sp_walking_time K))  : Fn P w K mg base "times_of_tour" 6 (sp_times_of_tour K) := by
  refine D0.fn fun f fd F => F.ok sc_times_of_tour (fun vs H Q E h => ?_) (fun cdv A outer s H vs Q E hr h => ?_)
  · exact h.len
  · obtain ⟨z, H0, e0, ⟨a, l, pp, ws, xs, c, ⟨rfl, hw, hm, hp, V0⟩, ⟨t, ns, rfl, ht, hl, rfl⟩, rfl⟩, k⟩ := h
    refine ⟨_, (pss_cons (ps_par (i := 2) (j := 3) rfl sc_times_of_tour.nd rfl rfl (by decide) rfl rfl (pa_cons (pe_fld (pv 0) rfl) (pa_cons (pe_ix (r := rIxL K) ix_list (pv 1) pe_int (fun _ _ => rfl)) pa_nil)) (by rfl)) (pss_cons (ps_if (pt_not (pt_val (pe_fn f_is_tour hr (by decide) rfl (pa_cons (pv 2) (pa_cons (pv 3) pa_nil))))) (pss_one (ps_ret (pe_lst (pa_cons (pe_ci c_OUT_OF_RANGE rfl) pa_nil)))) pss_nil) (pss_one (ps_ret (pe_lst (pa_cons (pe_fn f_cycle_time hr (by decide) rfl (pa_cons (pv 2) (pa_cons (pv 3) pa_nil))) (pa_cons (pe_fn f_busy_time hr (by decide) rfl (pa_cons (pv 2) (pa_cons (pv 3) pa_nil))) (pa_cons (pe_fn f_walking_time hr (by decide) rfl (pa_cons (pv 2) (pa_cons (pv 3) pa_nil))) pa_nil)))))))), ?_⟩
    have hm := hm.mono e0
    have hw := hw.mono e0
    have hp := e0 _ _ hp
    have ht := e0 _ _ ht
    refine q_par (ea_cons (ev_wm hw (ev_var rfl)) (ea_cons (ev_pt (j := 0) hp (ev_var rfl) ev_c rfl rfl) ea_nil)) fun H1 e1 => ?_
    have hm1 := hm.mono e1
    have ht1 := e1 _ _ ht
    refine q_when (et_not (et_B (ev_isT hm1 ht1 hl (ev_var rfl) (ev_var rfl)))) (fun hb H2 e2 => ?_) (fun hb H2 e2 => ?_)
    · refine s_retL (el_lst (ea_cons ev_c ea_nil) (by show 1 ≤ 100000; decide)) fun p H3 h3 e3 g3 => k p H3 (fresh_back (e1.trans e2) h3) ((e1.trans e2).trans e3) ?_
      rw [g3, ans_cycle, if_pos (not_true hb)]
    · have hg := not_false' hb
      have T := tour_T hl hg
      rw [(tour_nats hg).1] at ht1
      have A : ∀ H3, Ex H2 H3 → ArgT [.ref l, .ref t] H3 l t ws (SrCommon.intsToNats ns) := fun H3 e3 => ⟨rfl, hm1.mono (e2.trans e3), (e2.trans e3) _ _ ht1, T⟩
      refine s_retL (el_lst (ea_cons (ev_fn (ea_cons (ev_var rfl) (ea_cons (ev_var rfl) ea_nil)) fun H3 e3 => ⟨l, t, ws, _, A H3 e3, rfl⟩) (ea_cons (ev_fn (ea_cons (ev_var rfl) (ea_cons (ev_var rfl) ea_nil)) fun H3 e3 => ⟨l, t, ws, _, A H3 e3, rfl⟩)
        (ea_cons (ev_fn (ea_cons (ev_var rfl) (ea_cons (ev_var rfl) ea_nil)) fun H3 e3 => ⟨l, t, ws, _, A H3 e3, rfl⟩) ea_nil))) (by show 3 ≤ 100000; decide)) fun p H3 h3 e3 g3 => k p H3 (fresh_back (e1.trans e2) h3) ((e1.trans e2).trans e3) ?_
      rw [g3, ans_cycle, if_neg (by rw [hg]; decide)]
def sp_starts_of_tour (K : PySem.W.Frag) : Sp := spQ K fun H xs c => ∃ (t : Addr) (ns : List Int), xs = [.ref t] ∧ H t = some (.lst (ns.map V.int)) ∧ ns.length ≤ 70 ∧ c = .startTimes ns
theorem ans_starts {ws : Sr120.Workshop} {ns : List Int} : ans ws (.startTimes ns) = if tourB ws.length ns = false then [.int (-22)] else .int (ns.length : Int) :: nV (Sr120.startTimes ws (SrCommon.intsToNats ns)) := by
  have e : Sr120.isTour ws ns = tourB ws.length ns := rfl
  unfold ans Sr120.perform
  dsimp only
  rw [e]
  split
  · rfl
  · rw [← natsV]
    rfl
theorem starts_len (ws : Sr120.Workshop) (ts : List Nat) : (Sr120.startTimes ws ts).length = ts.length := by
  rw [← start_eq, List.length_map, List.length_range]
abbrev st_starts_of_tour : Stmt := top 70
abbrev N_starts_of_tour : List Str := ["wall", "parts"]
theorem sc_starts_of_tour : FnScope N_starts_of_tour ["wall", "parts"] (defScope st_starts_of_tour) := ⟨rfl, rfl, rfl, by decide +kernel, rfl, by decide +kernel, by decide +kernel⟩
theorem ok_starts_of_tour (D0 : DefAt K mg "starts_of_tour" st_starts_of_tour ["wall", "parts"]) (c_OUT_OF_RANGE : CI mg "OUT_OF_RANGE" (-22)) (f_counted : Fn P w K mg base "counted" 1 (sp_counted K)) (f_is_tour : Fn P w K mg base "is_tour" 2 (sp_is_tour K)) (f_start_times : Fn P w K mg base "start_times" 3 (sp_start_times K))  : Fn P w K mg base "starts_of_tour" 4 (sp_starts_of_tour K) := by
  refine D0.fn fun f fd F => F.ok sc_starts_of_tour (fun vs H Q E h => ?_) (fun cdv A outer s H vs Q E hr h => ?_)
  · exact h.len
  · obtain ⟨z, H0, e0, ⟨a, l, pp, ws, xs, c, ⟨rfl, hw, hm, hp, V0⟩, ⟨t, ns, rfl, ht, hl, rfl⟩, rfl⟩, k⟩ := h
    refine ⟨_, (pss_cons (ps_if (pt_not (pt_val (pe_fn f_is_tour hr (by decide) rfl (pa_cons (pe_fld (pv 0) rfl) (pa_cons (pe_ix (r := rIxL K) ix_list (pv 1) pe_int (fun _ _ => rfl)) pa_nil))))) (pss_one (ps_ret (pe_lst (pa_cons (pe_ci c_OUT_OF_RANGE rfl) pa_nil)))) pss_nil) (pss_one (ps_ret (pe_fn f_counted hr (by decide) rfl (pa_cons (pe_fn f_start_times hr (by decide) rfl (pa_cons (pe_fld (pv 0) rfl) (pa_cons (pe_ix (r := rIxL K) ix_list (pv 1) pe_int (fun _ _ => rfl)) pa_nil))) pa_nil))))), ?_⟩
    have hm := hm.mono e0
    have hw := hw.mono e0
    have hp := e0 _ _ hp
    have ht := e0 _ _ ht
    refine q_when (et_not (et_B (ev_isT hm ht hl (ev_wm hw (ev_var rfl)) (ev_pt (j := 0) hp (ev_var rfl) ev_c rfl rfl)))) (fun hb H2 e2 => ?_) (fun hb H2 e2 => ?_)
    · refine s_retL (el_lst (ea_cons ev_c ea_nil) (by show 1 ≤ 100000; decide)) fun p H3 h3 e3 g3 => k p H3 (fresh_back e2 h3) (e2.trans e3) ?_
      rw [g3, ans_starts, if_pos (not_true hb)]
    · have hg := not_false' hb
      have T := tour_T hl hg
      rw [(tour_nats hg).1] at ht
      have hlen : (nV (Sr120.startTimes ws (SrCommon.intsToNats ns))).length = ns.length := by
        rw [nV_len, starts_len]
        exact List.length_map ..
      refine s_retL (el_fnP (eap_cons (EvL.toP (el_fn (ea_cons (ev_wm (hw.mono e2) (ev_var rfl)) (ea_cons (ev_pt (j := 0) (e2 _ _ hp) (ev_var rfl) ev_c rfl rfl) ea_nil)) fun H3 e3 => ⟨l, t, ws, _, ⟨rfl, hm.mono (e2.trans e3), (e2.trans e3) _ _ ht, T⟩, rfl⟩)) fun v H3 e3 ⟨p, ev, hp3⟩ => eap_nil fun H4 e4 => ⟨p, _, by rw [ev], e4 _ _ hp3, by omega, rfl⟩)) fun p H3 h3 e3 g3 => k p H3 (fresh_back e2 h3) (e2.trans e3) ?_
      rw [g3, ans_starts, if_neg (by rw [hg]; decide), hlen]
def sp_idle_time (K : PySem.W.Frag) : Sp := spQ K fun _ xs c => ∃ i : Int, xs = [.int i] ∧ c = .idleTime i
theorem ans_idle {ws : Sr120.Workshop} {i : Int} : ans ws (.idleTime i) = if SrCommon.isIndex i ws.length = false then [.int (-2)] else [.int ((Sr120.minCycleTime ws (Sr120.allMachines ws) - rnd ws i.toNat : Nat) : Int)] := by
  have e : Sr120.isMachine ws i = SrCommon.isIndex i ws.length := rfl
  unfold ans Sr120.perform
  dsimp only
  rw [e]
  split <;> rfl
theorem index_nat {i : Int} {n : Nat} (h : SrCommon.isIndex i n = true) : i = ((i.toNat : Nat) : Int) ∧ i.toNat < n := by
  unfold SrCommon.isIndex at h
  rw [Bool.and_eq_true, decide_eq_true_eq, decide_eq_true_eq] at h
  omega
/-- has_machine(machines, index) -/
theorem ev_has {σ : L2.St} {H : Hp} {l : Addr} {ws : Sr120.Workshop} {i : Int} {t1 t2 : TE} {E1 : XK} (hm : MsAt H l ws) (h1 : Ev t1 σ H (.ref l)) (h2 : Ev t2 σ H (.int i)) : Ev (tCall (sp_has_machine K) [] E1 (tCons t1 (tCons t2 tNil))) σ H (.bl (SrCommon.isIndex i ws.length)) := by
  obtain ⟨xs, hxl, hx⟩ := hm.sq
  exact ev_fn (ea_cons h1 (ea_cons h2 ea_nil)) fun H1 e => ⟨l, xs, i, rfl, e _ _ hx, by rw [hxl]⟩
theorem rnd_min {ws : Sr120.Workshop} {i : Nat} (h : i < ws.length) : rnd ws i ≤ Sr120.minCycleTime ws (Sr120.allMachines ws) := by
  have p := (best_min (w := ws) (l := Sr120.allMachines ws) List.nodup_range).1
  exact rnd_le_cycle (p.symm.subset (List.mem_range.mpr h))
abbrev st_idle_time : Stmt := top 71
abbrev N_idle_time : List Str := ["wall", "parts", "machines", "index"]
theorem sc_idle_time : FnScope N_idle_time ["wall", "parts"] (defScope st_idle_time) := ⟨rfl, rfl, rfl, by decide +kernel, rfl, by decide +kernel, by decide +kernel⟩
theorem ok_idle_time (D0 : DefAt K mg "idle_time" st_idle_time ["wall", "parts"]) (c_NO_MACHINE : CI mg "NO_MACHINE" (-2)) (f_has_machine : Fn P w K mg base "has_machine" 1 (sp_has_machine K)) (f_least_cycle_time : Fn P w K mg base "least_cycle_time" 7 (sp_least_cycle_time K)) (f_round_time_of : Fn P w K mg base "round_time_of" 2 (sp_round_time_of K)) (f_all_indices : Fn P w K mg base "all_indices" 1 (sp_all_indices K))  : Fn P w K mg base "idle_time" 8 (sp_idle_time K) := by
  refine D0.fn fun f fd F => F.ok sc_idle_time (fun vs H Q E h => ?_) (fun cdv A outer s H vs Q E hr h => ?_)
  · exact h.len
  · obtain ⟨z, H0, e0, ⟨a, l, pp, ws, xs, c, ⟨rfl, hw, hm, hp, V0⟩, ⟨i, rfl, rfl⟩, rfl⟩, k⟩ := h
    refine ⟨_, (pss_cons (ps_par (i := 2) (j := 3) rfl sc_idle_time.nd rfl rfl (by decide) rfl rfl (pa_cons (pe_fld (pv 0) rfl) (pa_cons (pe_ix (r := rIxL K) ix_list (pv 1) pe_int (fun _ _ => rfl)) pa_nil)) (by rfl)) (pss_cons (ps_if (pt_not (pt_val (pe_fn f_has_machine hr (by decide) rfl (pa_cons (pv 2) (pa_cons (pv 3) pa_nil))))) (pss_one (ps_ret (pe_lst (pa_cons (pe_ci c_NO_MACHINE rfl) pa_nil)))) pss_nil) (pss_one (ps_ret (pe_lst (pa_cons (pe_op op_sub (pe_fn f_least_cycle_time hr (by decide) rfl (pa_cons (pv 2) (pa_cons (pe_fn f_all_indices hr (by decide) rfl (pa_cons (pv 2) pa_nil)) pa_nil))) (pe_fn f_round_time_of hr (by decide) rfl (pa_cons (pe_ix (r := rIxL K) ix_list (pv 2) (pv 3) (fun _ _ => rfl)) pa_nil))) pa_nil)))))), ?_⟩
    have hm := hm.mono e0
    have hw := hw.mono e0
    have hp := e0 _ _ hp
    refine q_par (ea_cons (ev_wm hw (ev_var rfl)) (ea_cons (ev_pt (j := 0) hp (ev_var rfl) ev_c rfl rfl) ea_nil)) fun H1 e1 => ?_
    have hm1 := hm.mono e1
    refine q_when (et_not (et_B (ev_has hm1 (ev_var rfl) (ev_var rfl)))) (fun hb H2 e2 => ?_) (fun hb H2 e2 => ?_)
    · refine s_retL (el_lst (ea_cons ev_c ea_nil) (by show 1 ≤ 100000; decide)) fun p H3 h3 e3 g3 => k p H3 (fresh_back (e1.trans e2) h3) ((e1.trans e2).trans e3) ?_
      rw [g3, ans_idle, if_pos (not_true hb)]
    · have hg := not_false' hb
      obtain ⟨ei, hi⟩ := index_nat hg
      refine s_retL (el_lst (ea_cons (ev_op (ev_least (hm1.mono e2) V0 (ev_var rfl) (ev_var rfl)) (ev_rnd (hm1.mono e2) hi (ev_var rfl) (ev_is (ev_var rfl) (congrArg V.int ei))) rv_I0) ea_nil) (by show 1 ≤ 100000; decide)) fun p H3 h3 e3 g3 => k p H3 (fresh_back (e1.trans e2) h3) ((e1.trans e2).trans e3) ?_
      rw [g3, ans_idle, if_neg (by rw [hg]; decide)]
      have := rnd_min hi
      rw [Int.ofNat_sub this]
def sp_largest_group (K : PySem.W.Frag) : Sp := spQ K fun _ xs c => ∃ i : Int, xs = [.int i] ∧ c = .largestGroup i
theorem ans_group {ws : Sr120.Workshop} {i : Int} : ans ws (.largestGroup i) = if i < 0 then [.int (-22)] else .int ((groupM ws i.toNat (2 ^ ws.length)).length : Int) :: nV (groupM ws i.toNat (2 ^ ws.length)) := by
  unfold ans Sr120.perform
  dsimp only
  rw [group_eq]
  split
  · rfl
  · rw [← natsV]
    rfl
abbrev st_largest_group : Stmt := top 73
abbrev N_largest_group : List Str := ["wall", "parts"]
theorem sc_largest_group : FnScope N_largest_group ["wall", "parts"] (defScope st_largest_group) := ⟨rfl, rfl, rfl, by decide +kernel, rfl, by decide +kernel, by decide +kernel⟩
theorem ok_largest_group (D0 : DefAt K mg "largest_group" st_largest_group ["wall", "parts"]) (c_OUT_OF_RANGE : CI mg "OUT_OF_RANGE" (-22)) (f_counted : Fn P w K mg base "counted" 1 (sp_counted K)) (f_largest_set : Fn P w K mg base "largest_set" 8 (sp_largest_set K))  : Fn P w K mg base "largest_group" 9 (sp_largest_group K) := by
  refine D0.fn fun f fd F => F.ok sc_largest_group (fun vs H Q E h => ?_) (fun cdv A outer s H vs Q E hr h => ?_)
  · exact h.len
  · obtain ⟨z, H0, e0, ⟨a, l, pp, ws, xs, c, ⟨rfl, hw, hm, hp, V0⟩, ⟨i, rfl, rfl⟩, rfl⟩, k⟩ := h
    refine ⟨_, (pss_cons (ps_if (pt_cmpR op_lt (pe_ix (r := rIxL K) ix_list (pv 1) pe_int (fun _ _ => rfl)) pe_int (nomark _)) (pss_one (ps_ret (pe_lst (pa_cons (pe_ci c_OUT_OF_RANGE rfl) pa_nil)))) pss_nil) (pss_one (ps_ret (pe_fn f_counted hr (by decide) rfl (pa_cons (pe_fn f_largest_set hr (by decide) rfl (pa_cons (pe_fld (pv 0) rfl) (pa_cons (pe_ix (r := rIxL K) ix_list (pv 1) pe_int (fun _ _ => rfl)) pa_nil))) pa_nil))))), ?_⟩
    have hm := hm.mono e0
    have hw := hw.mono e0
    have hp := e0 _ _ hp
    refine q_when (et_test (ev_op (ev_pt (j := 0) hp (ev_var rfl) ev_c rfl rfl) ev_c rv_I0)) (fun hb H2 e2 => ?_) (fun hb H2 e2 => ?_)
    · refine s_retL (el_lst (ea_cons ev_c ea_nil) (by show 1 ≤ 100000; decide)) fun p H3 h3 e3 g3 => k p H3 (fresh_back e2 h3) (e2.trans e3) ?_
      rw [g3, ans_group, if_pos (of_decide_eq_true hb)]
    · have hi := of_decide_eq_false hb
      have ei : i = ((i.toNat : Nat) : Int) := by omega
      have hgl := group_len ws i.toNat (2 ^ ws.length)
      have hw6 := V0.len
      refine s_retL (el_fnP (eap_cons (ep_fn (ea_cons (ev_wm (hw.mono e2) (ev_var rfl)) (ea_cons (ev_is (ev_pt (j := 0) (e2 _ _ hp) (ev_var rfl) ev_c rfl rfl) (congrArg V.int ei)) ea_nil)) fun H3 e3 => ⟨l, ws, i.toNat, rfl, hm.mono (e2.trans e3), hw6, rfl⟩) fun v H3 e3 ⟨p, ev, hp3⟩ => eap_nil fun H4 e4 => ⟨p, _, by rw [ev], e4 _ _ hp3, by rw [nV_len]; omega, rfl⟩)) fun p H3 h3 e3 g3 => k p H3 (fresh_back e2 h3) (e2.trans e3) ?_
      rw [g3, ans_group, if_neg hi, nV_len]
def sp_best_tour_of (K : PySem.W.Frag) : Sp := spQ K fun _ xs c => ∃ i : Int, xs = [.int i] ∧ c = .bestTourOf i
theorem ans_of {ws : Sr120.Workshop} {i : Int} : ans ws (.bestTourOf i) = if i < 0 ∨ ((2 ^ ws.length : Nat) : Int) ≤ i then [.int (-22)] else .int ((Sr120.minCycleTime ws (SrCommon.maskMembers ws.length i.toNat) : Nat) : Int) :: nV (Sr120.bestTour ws (SrCommon.maskMembers ws.length i.toNat)) := by
  unfold ans Sr120.perform
  dsimp only
  split
  · rfl
  · rw [← natsV]
    rfl
theorem mask_in (i : Int) (n : Nat) : (!SrCommon.inRange i 0 (((2 ^ n : Nat) : Int) - 1)) = decide (i < 0 ∨ ((2 ^ n : Nat) : Int) ≤ i) := by
  unfold SrCommon.inRange
  generalize ((2 ^ n : Nat) : Int) = N
  by_cases h1 : 0 ≤ i <;> by_cases h2 : i ≤ N - 1
  · rw [decide_eq_true h1, decide_eq_true h2, decide_eq_false (by omega)]
    rfl
  · rw [decide_eq_true h1, decide_eq_false h2, decide_eq_true (by omega)]
    rfl
  · rw [decide_eq_false h1, decide_eq_true (p := i < 0 ∨ N ≤ i) (by omega)]
    rfl
  · rw [decide_eq_false h1, decide_eq_true (p := i < 0 ∨ N ≤ i) (by omega)]
    rfl
abbrev st_best_tour_of : Stmt := top 74
abbrev N_best_tour_of : List Str := ["wall", "parts", "machines", "mask"]
theorem sc_best_tour_of : FnScope N_best_tour_of ["wall", "parts"] (defScope st_best_tour_of) := ⟨rfl, rfl, rfl, by decide +kernel, rfl, by decide +kernel, by decide +kernel⟩
theorem ok_best_tour_of (D0 : DefAt K mg "best_tour_of" st_best_tour_of ["wall", "parts"]) (c_OUT_OF_RANGE : CI mg "OUT_OF_RANGE" (-22)) (b_len : mg "len" = none) (f_timed : Fn P w K mg base "timed" 6 (sp_timed K)) (f_is_within : Fn P w K mg base "is_within" 1 (sp_is_within K)) (f_best_tour : Fn P w K mg base "best_tour" 6 (sp_best_tour K)) (f_set_of : Fn P w K mg base "set_of" 1 (sp_set_of K)) (f_count_of_sets : Fn P w K mg base "count_of_sets" 1 (sp_count_of_sets K))  : Fn P w K mg base "best_tour_of" 7 (sp_best_tour_of K) := by
  refine D0.fn fun f fd F => F.ok sc_best_tour_of (fun vs H Q E h => ?_) (fun cdv A outer s H vs Q E hr h => ?_)
  · exact h.len
  · obtain ⟨z, H0, e0, ⟨a, l, pp, ws, xs, c, ⟨rfl, hw, hm, hp, V0⟩, ⟨i, rfl, rfl⟩, rfl⟩, k⟩ := h
    refine ⟨_, (pss_cons (ps_par (i := 2) (j := 3) rfl sc_best_tour_of.nd rfl rfl (by decide) rfl rfl (pa_cons (pe_fld (pv 0) rfl) (pa_cons (pe_ix (r := rIxL K) ix_list (pv 1) pe_int (fun _ _ => rfl)) pa_nil)) (by rfl)) (pss_cons (ps_if (pt_not (pt_val (pe_fn f_is_within hr (by decide) rfl (pa_cons (pv 3) (pa_cons pe_int (pa_cons (pe_op op_sub (pe_fn f_count_of_sets hr (by decide) rfl (pa_cons (pv 2) pa_nil)) pe_int) pa_nil)))))) (pss_one (ps_ret (pe_lst (pa_cons (pe_ci c_OUT_OF_RANGE rfl) pa_nil)))) pss_nil) (pss_one (ps_ret (pe_fn f_timed hr (by decide) rfl (pa_cons (pv 2) (pa_cons (pe_fn f_best_tour hr (by decide) rfl (pa_cons (pv 2) (pa_cons (pe_fn f_set_of hr (by decide) rfl (pa_cons (pv 3) (pa_cons (pe_callB call_len_seq (by rfl) b_len (by decide +kernel) (pa_cons (pv 2) pa_nil)) pa_nil))) pa_nil))) pa_nil))))))), ?_⟩
    have hm := hm.mono e0
    have hw := hw.mono e0
    have hp := e0 _ _ hp
    have hw6 := V0.len
    obtain ⟨ys, hyl, hy⟩ := hm.sq
    refine q_par (ea_cons (ev_wm hw (ev_var rfl)) (ea_cons (ev_pt (j := 0) hp (ev_var rfl) ev_c rfl rfl) ea_nil)) fun H1 e1 => ?_
    have hm1 := hm.mono e1
    refine q_when (b := decide (i < 0 ∨ ((2 ^ ws.length : Nat) : Int) ≤ i)) (et_is (et_not (et_B (ev_fn (ea_cons (ev_var rfl) (ea_cons ev_c (ea_cons (ev_op (ev_fn (ea_cons (ev_var rfl) ea_nil) fun H2 e2 => ⟨l, ys, rfl, (e1.trans e2) _ _ hy, by omega, rfl⟩) ev_c rv_I0) ea_nil))) fun H2 e2 => ⟨i, 0, _, rfl, rfl⟩))) (by rw [hyl]; exact mask_in i ws.length)) (fun hb H2 e2 => ?_) (fun hb H2 e2 => ?_)
    · refine s_retL (el_lst (ea_cons ev_c ea_nil) (by show 1 ≤ 100000; decide)) fun p H3 h3 e3 g3 => k p H3 (fresh_back (e1.trans e2) h3) ((e1.trans e2).trans e3) ?_
      rw [g3, ans_of, if_pos (of_decide_eq_true hb)]
    · have hi := of_decide_eq_false hb
      have ei : i = ((i.toNat : Nat) : Int) := by omega
      have T := mask_tour ws hw6 i.toNat
      have hn := mask_nodup ws.length i.toNat
      have hl6 : (SrCommon.maskMembers ws.length i.toNat).length ≤ 6 := by have := mask_len ws.length i.toNat; omega
      refine s_retL (el_timed (hm1.mono e2) (best_tourT T hn) (ev_var rfl) (ep_best (hm1.mono e2) T hn hl6 (ev_var rfl) (EvL.toP (el_fn (ea_cons (ev_is (ev_var rfl) (congrArg V.int ei)) (ea_cons (ev_len (ev_var rfl) (sq_of ((e1.trans e2) _ _ hy))) ea_nil)) fun H3 e3 => ⟨i.toNat, ws.length, by rw [hyl], by omega, rfl⟩)))) fun p H3 h3 e3 g3 => k p H3 (fresh_back (e1.trans e2) h3) ((e1.trans e2).trans e3) ?_
      rw [g3, ans_of, if_neg hi]
      rfl
end
end Tw
namespace Tw
open PySem PySem.Spec PyProof.Rows L2 Evl
section
variable {P : Program} {w : World} {K : PySem.W.Frag} {mg : Str → Option Value} {base : Heap}
/-! ### machines == [] -/
def dM (m : Sr120.Machine) : PyData := .tuple [.int (m.position : Int), .int (m.runTime : Int), .int (m.serviceTime : Int)]
theorem dpM {H : Hp} : ∀ (rs : List Addr) (ws : Sr120.Workshop), rs.length = ws.length → (∀ (i : Nat) (m : Sr120.Machine), ws[i]? = some m → ∃ r, rs[i]? = some r ∧ H r = some (.tup (mV m))) → DpAll K H (rs.map V.ref) (ws.map dM)
  | [], [], _, _ => .nil
  | r :: rs, m :: ws, hl, h => by
    obtain ⟨r0, e, h0⟩ := h 0 m rfl
    cases Option.some.inj e
    exact .cons (.tup (st_of h0) (.cons (.int _) (.cons (.int _) (.cons (.int _) .nil)))) (dpM rs ws (Nat.succ.inj hl) fun i m' hm => h (i + 1) m' hm)
  | [], _ :: _, hl, _ => nomatch hl
  | _ :: _, [], hl, _ => nomatch hl
theorem dM_can : ∀ ws : Sr120.Workshop, PyData.canLayAll0 (ws.map dM) = true
  | [] => rfl
  | m :: ws => by
    show (PyData.canLay0 (dM m) && PyData.canLayAll0 (ws.map dM)) = true
    rw [dM_can ws]
    rfl
theorem dM_depth : ∀ ws : Sr120.Workshop, PyData.depthAll (ws.map dM) ≤ 5
  | [] => by decide
  | m :: ws => by
    have ih := dM_depth ws
    show max (PyData.depth (dM m)) (PyData.depthAll (ws.map dM)) ≤ 5
    have h : PyData.depth (dM m) ≤ 5 := by
      show PyData.depth (.tuple [.int _, .int _, .int _]) ≤ 5
      simp [PyData.depth, PyData.depthAll]
    omega
theorem dM_shaped (ws : Sr120.Workshop) : SeqAt.shaped (.list (ws.map dM)) = true := by
  unfold SeqAt.shaped
  rw [Bool.and_eq_true, decide_eq_true_eq]
  refine ⟨dM_can ws, ?_⟩
  have := dM_depth ws
  show PyData.depthAll (ws.map dM) + 1 ≤ 64
  omega
theorem rv_none {H : Hp} {l p : Addr} {ws : Sr120.Workshop} (hm : MsAt H l ws) (hp : H p = some (.lst [])) : RV (rEqD K) (.ref l) (.ref p) H (.bl ws.isEmpty) := fun H1 e Q q => by
  obtain ⟨rs, a1, a2, a3⟩ := hm.mono e
  refine ⟨.list (ws.map dM), .list [], .lst (sq_of a1) (dpM rs ws a2 a3), .lst (sq_of (e _ _ hp)) .nil, dM_shaped ws, by decide, ?_⟩
  have e1 : PyData.eqv (.list (ws.map dM)) (.list []) = ws.isEmpty := by
    cases ws <;> rfl
  rw [e1]
  exact q H1 (Ex.refl H1)
def sp_utilization (K : PySem.W.Frag) : Sp := spQ K fun _ _ c => c = .utilization
theorem ans_util {ws : Sr120.Workshop} (V0 : Valid ws) (hn : ws.isEmpty = false) : ans ws .utilization = [.int 0] ++ [.int ((Sr120.busyTime ws (Sr120.wallOrder ws (List.range ws.length)) / Nat.gcd (Sr120.busyTime ws (Sr120.wallOrder ws (List.range ws.length))) (Sr120.minCycleTime ws (Sr120.allMachines ws)) : Nat) : Int),
    .int ((Sr120.minCycleTime ws (Sr120.allMachines ws) / Nat.gcd (Sr120.busyTime ws (Sr120.wallOrder ws (List.range ws.length))) (Sr120.minCycleTime ws (Sr120.allMachines ws)) : Nat) : Int)] := by
  have h0 : ws ≠ [] := fun e => by
    rw [e] at hn
    cases hn
  have hl : 0 < ws.length := List.length_pos_iff.mpr h0
  have hp : 0 < Sr120.minCycleTime ws (Sr120.allMachines ws) := by
    have := rnd_min hl
    have h1 := V0.pos hl
    unfold rnd at this
    omega
  unfold ans Sr120.perform
  dsimp only
  rw [if_neg h0]
  unfold ansV
  dsimp only
  rw [frac_eq _ _ hp]
  rfl
abbrev st_utilization : Stmt := top 72
abbrev N_utilization : List Str := ["wall", "parts", "machines", "busy"]
theorem sc_utilization : FnScope N_utilization ["wall", "parts"] (defScope st_utilization) := ⟨rfl, rfl, rfl, by decide +kernel, rfl, by decide +kernel, by decide +kernel⟩
theorem ok_utilization (D0 : DefAt K mg "utilization" st_utilization ["wall", "parts"]) (c_NO_MACHINES : CI mg "NO_MACHINES" (-6)) (f_busy_time : Fn P w K mg base "busy_time" 4 (sp_busy_time K)) (f_wall_order : Fn P w K mg base "wall_order" 2 (sp_wall_order K)) (f_lowest_terms : Fn P w K mg base "lowest_terms" 2 (sp_lowest_terms K)) (f_least_cycle_time : Fn P w K mg base "least_cycle_time" 7 (sp_least_cycle_time K)) (f_all_indices : Fn P w K mg base "all_indices" 1 (sp_all_indices K))  : Fn P w K mg base "utilization" 8 (sp_utilization K) := by
  refine D0.fn fun f fd F => F.ok sc_utilization (fun vs H Q E h => ?_) (fun cdv A outer s H vs Q E hr h => ?_)
  · exact h.len
  · obtain ⟨z, H0, e0, ⟨a, l, pp, ws, xs, c, ⟨rfl, hw, hm, hp, V0⟩, rfl, rfl⟩, k⟩ := h
    refine ⟨_, (pss_cons (ps_set (i := 2) sc_utilization.nd rfl (Or.inl rfl) (pe_fld (pv 0) rfl)) (pss_cons (ps_if (pt_cmpR (op_eqD hr.units) (pv 2) (pe_lst pa_nil) (nomark _)) (pss_one (ps_ret (pe_lst (pa_cons (pe_ci c_NO_MACHINES rfl) pa_nil)))) pss_nil) (pss_cons (ps_set (i := 3) sc_utilization.nd rfl (Or.inl rfl) (pe_fn f_busy_time hr (by decide) rfl (pa_cons (pv 2) (pa_cons (pe_fn f_wall_order hr (by decide) rfl (pa_cons (pv 2) pa_nil)) pa_nil)))) (pss_one (ps_ret (pe_op op_cat (pe_lst (pa_cons pe_int pa_nil)) (pe_fn f_lowest_terms hr (by decide) rfl (pa_cons (pv 3) (pa_cons (pe_fn f_least_cycle_time hr (by decide) rfl (pa_cons (pv 2) (pa_cons (pe_fn f_all_indices hr (by decide) rfl (pa_cons (pv 2) pa_nil)) pa_nil))) pa_nil))))))))), ?_⟩
    have hm := hm.mono e0
    have hw := hw.mono e0
    refine q_asg (ev_wm hw (ev_var rfl)) fun H1 e1 => ?_
    have hm1 := hm.mono e1
    refine q_when (et_test (ev_opL (ev_var rfl) (el_lst ea_nil (Nat.zero_le _)) fun p H2 h2 e2 => rv_none (hm1.mono e2) h2)) (fun hb H2 e2 => ?_) (fun hb H2 e2 => ?_)
    · refine s_retL (el_lst (ea_cons ev_c ea_nil) (by show 1 ≤ 100000; decide)) fun p H3 h3 e3 g3 => k p H3 (fresh_back (e1.trans e2) h3) ((e1.trans e2).trans e3) ?_
      rw [g3, List.isEmpty_iff.mp hb]
      rfl
    · have hm2 := hm1.mono e2
      have hl : 0 < ws.length := by
        cases ws with
        | nil => cases hb
        | cons m ws => exact Nat.succ_pos _
      have hp : 0 < Sr120.minCycleTime ws (Sr120.allMachines ws) := by
        have := rnd_min hl
        have h1 := V0.pos hl
        unfold rnd at this
        omega
      have hb2 : Sr120.minCycleTime ws (Sr120.allMachines ws) ≤ 1000000 := cycle_le V0 _ (best_tourT (allTour ws V0) List.nodup_range).len
      refine q_asg (ev_fnP (eap_cons (Ev.toP (ev_var rfl)) fun v H3 e3 ev => eap_cons (ep_wall (hm2.mono e3) V0 (ev_var rfl)) fun u H4 e4 ⟨p, eu, hp4⟩ => eap_nil fun H5 e5 => ⟨l, p, ws, _, ⟨by rw [ev, eu], hm2.mono ((e3.trans e4).trans e5), e5 _ _ hp4, wallTour ws V0⟩, rfl⟩)) fun H3 e3 => ?_
      have hm3 := hm2.mono e3
      have e13 := (e1.trans e2).trans e3
      refine s_retL (el_cat (EvL.toP (el_lst (ea_cons ev_c ea_nil) (by show 1 ≤ 100000; decide))) (EvL.toP (el_fn (ea_cons (ev_var rfl) (ea_cons (ev_least hm3 V0 (ev_var rfl) (ev_var rfl)) ea_nil)) fun H4 e4 => ⟨_, _, rfl, hp, by omega, rfl⟩)) (by show 1 + 2 ≤ 100000; decide)) fun p H4 h4 e4 g4 => k p H4 (fresh_back e13 h4) (e13.trans e4) ?_
      rw [g4, ans_util V0 hb]
def sp_next_start (_ : PySem.W.Frag) : Sp := spV fun vs H z => ∃ (cy k : Nat) (s : Addr) (st : List Nat), vs = [.int (cy : Int), .ref s, .int (k : Int)] ∧ H s = some (.lst (nV st)) ∧ k < st.length ∧ z = .int ((if k + 1 < st.length then st.getD (k + 1) 0 else st.getD 0 0 + cy : Nat) : Int)
abbrev st_next_start : Stmt := top 77
abbrev N_next_start : List Str := ["cycle", "starts", "place"]
theorem sc_next_start : FnScope N_next_start ["cycle", "starts", "place"] (defScope st_next_start) := ⟨rfl, rfl, rfl, by decide +kernel, rfl, by decide +kernel, by decide +kernel⟩
theorem ok_next_start (D0 : DefAt K mg "next_start" st_next_start ["cycle", "starts", "place"]) (b_len : mg "len" = none)  : Fn P w K mg base "next_start" 1 (sp_next_start K) := by
  refine D0.fn fun f fd F => F.ok sc_next_start (fun vs H Q E h => ?_) (fun cdv A outer s H vs Q E hr h => ?_)
  · obtain ⟨z, H0, e0, ⟨cy, k, s, st, rfl, hs, hk, rfl⟩, q⟩ := h; rfl
  · obtain ⟨z, H0, e0, ⟨cy, k, s, st, rfl, hs, hk, rfl⟩, q⟩ := h
    refine ⟨_, (pss_one (ps_ret (pe_ifExp (pt_cmpR op_lt (pe_op op_add (pv 2) pe_int) (pe_callB call_len_seq (by rfl) b_len (by decide +kernel) (pa_cons (pv 1) pa_nil)) (nomark _)) (pe_ix (r := rIxL K) ix_list (pv 1) (pe_op op_add (pv 2) pe_int) (fun _ _ => rfl)) (pe_op op_add (pe_ix (r := rIxL K) ix_list (pv 1) pe_int (fun _ _ => rfl)) (pv 0))))), ?_⟩
    have hs := e0 _ _ hs
    refine s_ret (ev_if (b := decide (k + 1 < st.length)) (et_is (et_test (ev_op (ev_op (ev_var rfl) ev_c rv_I0) (ev_len (ev_var rfl) (sq_of hs)) rv_I0)) (decide_eq_decide.mpr (by rw [nV_len]; omega))) (fun hb => ?_) (fun hb => ?_)) q
    · have hb' := of_decide_eq_true hb
      rw [if_pos hb']
      exact ev_op (ev_var rfl) (ev_op (ev_var rfl) ev_c rv_I0) (rv_ixL (sq_of hs) (atI_nat (nV_get hb')))
    · have hb' := of_decide_eq_false hb
      rw [if_neg hb']
      exact ev_op (ev_op (ev_var rfl) ev_c (rv_ixL (sq_of hs) (at_of (j := 0) rfl (nV_get (by omega))))) (ev_var rfl) rv_I0
def sp_is_reached (_ : PySem.W.Frag) : Sp := spV fun vs H z => ∃ (l t s : Addr) (ws : Sr120.Workshop) (ts st : List Nat) (cy k : Nat), vs = [.ref l, .int (cy : Int), .ref t, .ref s, .int (k : Int)] ∧ MsAt H l ws ∧ H t = some (.lst (nV ts)) ∧ H s = some (.lst (nV st)) ∧ Tour ws ts ∧ k < ts.length ∧ st.length = ts.length ∧
  z = .bl (decide (st.getD k 0 + serv ws (ts.getD k 0) + dist ws (ts.getD k 0) (nxt ts k) ≤ (if k + 1 < st.length then st.getD (k + 1) 0 else st.getD 0 0 + cy)))
abbrev st_is_reached : Stmt := top 78
abbrev N_is_reached : List Str := ["machines", "cycle", "tour", "starts", "place", "index", "ready"]
theorem sc_is_reached : FnScope N_is_reached ["machines", "cycle", "tour", "starts", "place"] (defScope st_is_reached) := ⟨rfl, rfl, rfl, by decide +kernel, rfl, by decide +kernel, by decide +kernel⟩
theorem ok_is_reached (D0 : DefAt K mg "is_reached" st_is_reached ["machines", "cycle", "tour", "starts", "place"]) (f_distance : Fn P w K mg base "distance" 2 (sp_distance K)) (f_next_start : Fn P w K mg base "next_start" 1 (sp_next_start K)) (f_service_time_of : Fn P w K mg base "service_time_of" 1 (sp_service_time_of K)) (f_next_in : Fn P w K mg base "next_in" 1 (sp_next_in K))  : Fn P w K mg base "is_reached" 3 (sp_is_reached K) := by
  refine D0.fn fun f fd F => F.ok sc_is_reached (fun vs H Q E h => ?_) (fun cdv A outer s H vs Q E hr h => ?_)
  · obtain ⟨z, H0, e0, ⟨l, t, s, ws, ts, st, cy, k, rfl, _⟩, q⟩ := h; rfl
  · obtain ⟨z, H0, e0, ⟨l, t, s, ws, ts, st, cy, k, rfl, hm, ht, hs, T, hk, hl, rfl⟩, q⟩ := h
    refine ⟨_, (pss_cons (ps_set (i := 5) sc_is_reached.nd rfl (Or.inl rfl) (pe_ix (r := rIxL K) ix_list (pv 2) (pv 4) (fun _ _ => rfl))) (pss_cons (ps_set (i := 6) sc_is_reached.nd rfl (Or.inl rfl) (pe_op op_add (pe_op op_add (pe_ix (r := rIxL K) ix_list (pv 3) (pv 4) (fun _ _ => rfl)) (pe_fn f_service_time_of hr (by decide) rfl (pa_cons (pe_ix (r := rIxL K) ix_list (pv 0) (pv 5) (fun _ _ => rfl)) pa_nil))) (pe_fn f_distance hr (by decide) rfl (pa_cons (pv 0) (pa_cons (pv 5) (pa_cons (pe_fn f_next_in hr (by decide) rfl (pa_cons (pv 2) (pa_cons (pv 4) pa_nil))) pa_nil)))))) (pss_one (ps_ret (pe_cmpR op_le (pv 6) (pe_fn f_next_start hr (by decide) rfl (pa_cons (pv 1) (pa_cons (pv 3) (pa_cons (pv 4) pa_nil)))) (nomark _)))))), ?_⟩
    have hm := hm.mono e0
    have ht := e0 _ _ ht
    have hs := e0 _ _ hs
    refine q_asg (ev_op (ev_var rfl) (ev_var rfl) (rv_ixL (sq_of ht) (atI_nat (nV_get hk)))) fun H1 e1 => ?_
    refine q_asg (ev_op (ev_op (ev_op (ev_var rfl) (ev_var rfl) (rv_ixL (sq_of (e1 _ _ hs)) (atI_nat (nV_get (by omega))))) (ev_serv (hm.mono e1) (T.at hk) (ev_var rfl) (ev_var rfl)) rv_I0) (ev_leg (hm.mono e1) (e1 _ _ ht) T hk (ev_var rfl) (ev_var rfl) (ev_var rfl) (ev_var rfl)) rv_I0) fun H2 e2 => ?_
    refine s_ret (ev_is (ev_op (ev_var rfl) (ev_fn (ea_cons (ev_var rfl) (ea_cons (ev_var rfl) (ea_cons (ev_var rfl) ea_nil))) fun H3 e3 => ⟨cy, k, s, st, rfl, ((e1.trans e2).trans e3) _ _ hs, by omega, rfl⟩) rv_I0) (congrArg V.bl (decide_eq_decide.mpr ?_))) fun H3 e3 => q H3 ((e1.trans e2).trans e3)
    exact Int.ofNat_le
def sp_is_schedule (_ : PySem.W.Frag) : Sp := spV fun vs H z => ∃ (l t s : Addr) (ws : Sr120.Workshop) (ns st : List Int) (cy : Int), vs = [.ref l, .int cy, .ref t, .ref s] ∧ MsAt H l ws ∧ H t = some (.lst (ns.map V.int)) ∧ H s = some (.lst (st.map V.int)) ∧ ns.length ≤ 70 ∧ st.length ≤ 70 ∧
  z = .bl (tourB ws.length ns && decide (st.length = ns.length) && (Sr120.isScheduleTime cy && st.all Sr120.isScheduleTime))
theorem all_bl (g : Int → Bool) (st : List Int) : (st.map g).all id = st.all g := by
  rw [List.all_map]
  rfl
theorem map_range_at (g : Int → V) (st : List Int) : (List.range st.length).map (fun i => g (st.getD i 0)) = st.map g := by
  refine List.ext_getElem (by simp) fun i h1 h2 => ?_
  simp only [List.getElem_map, List.getElem_range]
  rw [List.getD_eq_getElem?_getD, List.getElem?_eq_getElem (by simpa using h2)]
  rfl
abbrev st_is_schedule : Stmt := top 76
abbrev N_is_schedule : List Str := ["machines", "cycle", "tour", "starts", "start"]
theorem sc_is_schedule : FnScope N_is_schedule ["machines", "cycle", "tour", "starts"] (defScope st_is_schedule) := ⟨rfl, rfl, rfl, by decide +kernel, rfl, by decide +kernel, by decide +kernel⟩
theorem ok_is_schedule (D0 : DefAt K mg "is_schedule" st_is_schedule ["machines", "cycle", "tour", "starts"]) (b_all : mg "all" = none) (b_len : mg "len" = none) (f_is_time : Fn P w K mg base "is_time" 2 (sp_is_time K)) (f_is_tour : Fn P w K mg base "is_tour" 2 (sp_is_tour K))  : Fn P w K mg base "is_schedule" 3 (sp_is_schedule K) := by
  refine D0.fn fun f fd F => F.ok sc_is_schedule (fun vs H Q E h => ?_) (fun cdv A outer s H vs Q E hr h => ?_)
  · obtain ⟨z, H0, e0, ⟨l, t, s, ws, ns, st, cy, rfl, _⟩, q⟩ := h; rfl
  · obtain ⟨z, H0, e0, ⟨l, t, s, ws, ns, st, cy, rfl, hm, ht, hs, hl1, hl2, rfl⟩, q⟩ := h
    refine ⟨_, (pss_cons (ps_if (PW.pt (pw_or (pt_not (pt_val (pe_fn f_is_tour hr (by decide) rfl (pa_cons (pv 0) (pa_cons (pv 2) pa_nil))))) (pw_or1 (pt_cmpR op_ne (pe_callB call_len_seq (by rfl) b_len (by decide +kernel) (pa_cons (pv 3) pa_nil)) (pe_callB call_len_seq (by rfl) b_len (by decide +kernel) (pa_cons (pv 2) pa_nil)) (nomark _))))) (pss_one (ps_ret pe_bl)) pss_nil) (pss_one (ps_ret (pe_and (pe_fn f_is_time hr (by decide) rfl (pa_cons (pv 1) pa_nil)) (pe_one (pe_callB (cr_all rfl) (by rfl) b_all (by decide +kernel) (pa_cons (pe_lc (own := [("start", 4)]) (g := gName 4) rfl sc_is_schedule.nd (pi_list (pv 3)) (blkOk_by (own := [("start", 4)]) (N := N_is_schedule) (sc := defScope st_is_schedule) (by decide +kernel)) (fun _ _ _ _ _ => (pg_name (i := 4) sc_is_schedule.nd rfl (Or.inl rfl))) (fun _ _ _ _ _ => pts_nil) (fun _ _ _ _ _ => (pe_fn f_is_time hr (by decide) rfl (pa_cons (pv 4) pa_nil)))) pa_nil))))))), ?_⟩
    have hm := hm.mono e0
    have ht := e0 _ _ ht
    have hs := e0 _ _ hs
    refine q_when (b := !tourB ws.length ns || !decide (st.length = ns.length)) (et_or (et_not (et_B (ev_isT hm ht hl1 (ev_var rfl) (ev_var rfl)))) (fun _ => et_is (et_test (ev_op (ev_len (ev_var rfl) (sq_of hs)) (ev_len (ev_var rfl) (sq_of ht)) (rv_ne rfl))) (congrArg (! ·) (decide_eq_decide.mpr (by
      rw [List.length_map, List.length_map]
      refine ⟨fun w0 => ?_, fun w0 => by rw [w0]⟩
      have := V.int.inj w0
      omega))))) (fun hb H2 e2 => ?_) (fun hb H2 e2 => ?_)
    · refine s_ret ev_c fun H3 e3 => ?_
      have g := q H3 (e2.trans e3)
      have e1 : (tourB ws.length ns && decide (st.length = ns.length)) = false := by
        rcases Bool.or_eq_true_iff.mp hb with w0 | w0
        · rw [not_true w0]
          rfl
        · rw [not_true w0, Bool.and_false]
      rw [e1] at g
      exact g
    · obtain ⟨b1, b2⟩ := Bool.or_eq_false_iff.mp hb
      have g1 := not_false' b1
      have g2 := not_false' b2
      have hs2 := e2 _ _ hs
      refine s_ret (ev_andV (ev_fn (ea_cons (ev_var rfl) ea_nil) fun H3 e3 => ⟨cy, rfl, rfl⟩) (fun _ => evP_cb (z := .bl (st.all Sr120.isScheduleTime)) (eap_cons (EvL.toP (el_lcL (fun _ => true) (fun i => .bl (Sr120.isScheduleTime (st.getD i 0))) (ev_var rfl) (sq_of hs2) (by rw [List.length_map]; omega) (fun _ => rfl) (fun i x H1 e hx H2 e2 Q k => k H2 (Ex.refl H2)) (fun i x H1 e hx _ => by
        obtain ⟨z0, hz, rfl⟩ := at_map hx
        have ez : st.getD i 0 = z0 := by
          rw [List.getD_eq_getElem?_getD, hz]
          rfl
        rw [ez]
        exact ev_fn (ea_cons (ev_var rfl) ea_nil) fun H3 e3 => ⟨z0, rfl, rfl⟩))) fun v H3 e3 ⟨p, ev, hp⟩ => eap_nil fun H4 e4 => ?_))) fun H3 e3 => ?_
      · subst ev
        have hp' := e4 _ _ hp
        rw [given_all, List.length_map, map_range_at (fun i => .bl (Sr120.isScheduleTime i)) st] at hp'
        rw [← all_bl]
        refine rc_all (bs := st.map Sr120.isScheduleTime) (sq_of ?_)
        rw [hp', List.map_map]
        rfl
      · have g := q H3 (e2.trans e3)
        rw [g1, g2] at g
        exact g
def sp_check_schedule (K : PySem.W.Frag) : Sp := spQ K fun H xs c => ∃ (t s : Addr) (ns st : List Int) (cy : Int), xs = [.int cy, .ref t, .ref s] ∧ H t = some (.lst (ns.map V.int)) ∧ H s = some (.lst (st.map V.int)) ∧ ns.length ≤ 70 ∧ st.length ≤ 70 ∧ c = .checkSchedule cy ns st
theorem ans_check {ws : Sr120.Workshop} {ns st : List Int} {cy : Int} : ans ws (.checkSchedule cy ns st) = if (tourB ws.length ns && decide (st.length = ns.length) && (Sr120.isScheduleTime cy && st.all Sr120.isScheduleTime)) = false then [.int (-22)]
    else [.int (if Sr120.isFeasible ws (SrCommon.intsToNats ns) (SrCommon.intsToNats st) cy.toNat then 1 else 0)] := by
  have e : Sr120.isTour ws ns = tourB ws.length ns := rfl
  unfold ans Sr120.perform
  dsimp only
  rw [e]
  have e2 : (tourB ws.length ns = false ∨ st.length ≠ ns.length ∨ st.all Sr120.isScheduleTime = false ∨ Sr120.isScheduleTime cy = false) ↔ (tourB ws.length ns && decide (st.length = ns.length) && (Sr120.isScheduleTime cy && st.all Sr120.isScheduleTime)) = false := by
    by_cases h : st.length = ns.length
    · rw [decide_eq_true h]
      cases tourB ws.length ns <;> cases Sr120.isScheduleTime cy <;> cases st.all Sr120.isScheduleTime <;> simp [h]
    · rw [decide_eq_false h]
      cases tourB ws.length ns <;> cases Sr120.isScheduleTime cy <;> cases st.all Sr120.isScheduleTime <;> simp [h]
  by_cases h : (tourB ws.length ns && decide (st.length = ns.length) && (Sr120.isScheduleTime cy && st.all Sr120.isScheduleTime)) = false
  · rw [if_pos h, if_pos (e2.mpr h)]
    rfl
  · rw [if_neg h, if_neg (fun w0 => h (e2.mp w0))]
    rfl
theorem times_nats : ∀ st : List Int, st.all Sr120.isScheduleTime = true → st.map V.int = nV (SrCommon.intsToNats st)
  | [], _ => rfl
  | x :: st, h => by
    rw [List.all_cons, Bool.and_eq_true] at h
    have ih := times_nats st h.2
    have hx : 0 ≤ x := by
      have := h.1
      unfold Sr120.isScheduleTime SrCommon.inRange at this
      rw [Bool.and_eq_true, decide_eq_true_eq] at this
      exact this.1
    show V.int x :: st.map V.int = V.int ((x.toNat : Nat) : Int) :: nV (SrCommon.intsToNats st)
    rw [ih, Int.toNat_of_nonneg hx]
theorem all_range_succ {p : Nat → Bool} {i : Nat} : (List.range (i + 1)).all p = ((List.range i).all p && p i) := by
  rw [List.range_succ, List.all_append]
  simp
theorem all_range_false {p : Nat → Bool} {i n : Nat} (h : i < n) (hp : p i = false) : (List.range n).all p = false := by
  refine Bool.eq_false_iff.mpr fun q => ?_
  rw [List.all_eq_true] at q
  have := q i (List.mem_range.mpr h)
  rw [hp] at this
  cases this
abbrev st_check_schedule : Stmt := top 79
abbrev N_check_schedule : List Str := ["wall", "parts", "machines", "cycle", "tour", "starts", "place", "index"]
theorem sc_check_schedule : FnScope N_check_schedule ["wall", "parts"] (defScope st_check_schedule) := ⟨rfl, rfl, rfl, by decide +kernel, rfl, by decide +kernel, by decide +kernel⟩
theorem ok_check_schedule (D0 : DefAt K mg "check_schedule" st_check_schedule ["wall", "parts"]) (c_OUT_OF_RANGE : CI mg "OUT_OF_RANGE" (-22)) (b_enumerate : mg "enumerate" = none) (f_is_schedule : Fn P w K mg base "is_schedule" 3 (sp_is_schedule K)) (f_round_time_of : Fn P w K mg base "round_time_of" 2 (sp_round_time_of K)) (f_is_reached : Fn P w K mg base "is_reached" 3 (sp_is_reached K))  : Fn P w K mg base "check_schedule" 4 (sp_check_schedule K) := by
  refine D0.fn fun f fd F => F.ok sc_check_schedule (fun vs H Q E h => ?_) (fun cdv A outer s H vs Q E hr h => ?_)
  · exact h.len
  · obtain ⟨z, H0, e0, ⟨a, l, pp, ws, xs, c, ⟨rfl, hw, hm, hp, V0⟩, ⟨t, s, ns, st, cy, rfl, ht, hs, hl1, hl2, rfl⟩, rfl⟩, k⟩ := h
    refine ⟨_, (pss_cons (ps_asg (pe_tup (pa_cons (pe_fld (pv 0) rfl) (pa_cons (pe_ix (r := rIxL K) ix_list (pv 1) pe_int (fun _ _ => rfl)) (pa_cons (pe_ix (r := rIxL K) ix_list (pv 1) pe_int (fun _ _ => rfl)) (pa_cons (pe_ix (r := rIxL K) ix_list (pv 1) pe_int (fun _ _ => rfl)) pa_nil))))) (pg_tup rfl (pgs_cons (pg_name (i := 2) sc_check_schedule.nd rfl (Or.inl rfl)) (pgs_cons (pg_name (i := 3) sc_check_schedule.nd rfl (Or.inl rfl)) (pgs_cons (pg_name (i := 4) sc_check_schedule.nd rfl (Or.inl rfl)) (pgs_cons (pg_name (i := 5) sc_check_schedule.nd rfl (Or.inl rfl)) pgs_nil)))))) (pss_cons (ps_if (pt_not (pt_val (pe_fn f_is_schedule hr (by decide) rfl (pa_cons (pv 2) (pa_cons (pv 3) (pa_cons (pv 4) (pa_cons (pv 5) pa_nil))))))) (pss_one (ps_ret (pe_lst (pa_cons (pe_ci c_OUT_OF_RANGE rfl) pa_nil)))) pss_nil) (pss_cons (ps_for PassesOwn.never rfl (pi_enum (by rfl) b_enumerate (pa_cons (pv 4) pa_nil)) (pg_tup rfl (pgs_cons (pg_name (i := 6) sc_check_schedule.nd rfl (Or.inl rfl)) (pgs_cons (pg_name (i := 7) sc_check_schedule.nd rfl (Or.inl rfl)) pgs_nil))) (pss_one (ps_if (PW.pt (pw_or (pt_cmpR op_gt (pe_fn f_round_time_of hr (by decide) rfl (pa_cons (pe_ix (r := rIxL K) ix_list (pv 2) (pv 7) (fun _ _ => rfl)) pa_nil)) (pv 3) (nomark _)) (pw_or1 (pt_not (pt_val (pe_fn f_is_reached hr (by decide) rfl (pa_cons (pv 2) (pa_cons (pv 3) (pa_cons (pv 4) (pa_cons (pv 5) (pa_cons (pv 6) pa_nil))))))))))) (pss_one (ps_ret (pe_lst (pa_cons pe_int pa_nil)))) pss_nil))) (pss_one (ps_ret (pe_lst (pa_cons pe_int pa_nil))))))), ?_⟩
    have hm := hm.mono e0
    have hw := hw.mono e0
    have hp := e0 _ _ hp
    have ht := e0 _ _ ht
    have hs := e0 _ _ hs
    refine q_tup4 (K := K) (ea_cons (ev_wm hw (ev_var rfl)) (ea_cons (ev_pt (j := 0) hp (ev_var rfl) ev_c rfl rfl) (ea_cons (ev_pt (j := 1) hp (ev_var rfl) ev_c rfl rfl) (ea_cons (ev_pt (j := 2) hp (ev_var rfl) ev_c rfl rfl) ea_nil)))) fun H1 e1 => ?_
    refine q_when (et_not (et_B (ev_fn (ea_cons (ev_var rfl) (ea_cons (ev_var rfl) (ea_cons (ev_var rfl) (ea_cons (ev_var rfl) ea_nil)))) fun H2 e2 => ⟨l, t, s, ws, ns, st, cy, rfl, hm.mono (e1.trans e2), (e1.trans e2) _ _ ht, (e1.trans e2) _ _ hs, hl1, hl2, rfl⟩))) (fun hb H2 e2 => ?_) (fun hb H2 e2 => ?_)
    · refine s_retL (el_lst (ea_cons ev_c ea_nil) (by show 1 ≤ 100000; decide)) fun p H3 h3 e3 g3 => k p H3 (fresh_back (e1.trans e2) h3) ((e1.trans e2).trans e3) ?_
      rw [g3, ans_check, if_pos (not_true hb)]
    · have hg := not_false' hb
      have e12 := e1.trans e2
      obtain ⟨g12, g34⟩ := Bool.and_eq_true_iff.mp hg
      obtain ⟨g1, g2⟩ := Bool.and_eq_true_iff.mp g12
      obtain ⟨g3, g4⟩ := Bool.and_eq_true_iff.mp g34
      have T := tour_T hl1 g1
      have et := (tour_nats g1).1
      have es := times_nats st g4
      have hcy : cy = ((cy.toNat : Nat) : Int) := by
        unfold Sr120.isScheduleTime SrCommon.inRange at g3
        rw [Bool.and_eq_true, decide_eq_true_eq] at g3
        omega
      have hlen : (SrCommon.intsToNats st).length = (SrCommon.intsToNats ns).length := by
        unfold SrCommon.intsToNats
        rw [List.length_map, List.length_map]
        exact of_decide_eq_true g2
      have hans : ans ws (.checkSchedule cy ns st) = [.int (if (List.range (SrCommon.intsToNats ns).length).all (okM ws (SrCommon.intsToNats ns) (SrCommon.intsToNats st) cy.toNat) then 1 else 0)] := by
        rw [ans_check, if_neg (by rw [hg]; decide), feasible_eq hlen]
      have ht2 := e12 _ _ ht
      have hs2 := e12 _ _ hs
      have hm2 := hm.mono e12
      rw [et] at ht2
      rw [es] at hs2
      rw [hans] at k
      generalize SrCommon.intsToNats ns = tt at *
      generalize SrCommon.intsToNats st = ss at *
      refine q_forE (xs := nV tt) (ea_cons (ev_var rfl) ea_nil) (sq_of ht2) (fun i σ' H' => ∃ v6 v7 : Option V, σ' = [some (.ref a), some (.ref pp), some (.ref l), some (.int cy), some (.ref t), some (.ref s), v6, v7] ∧ Ex H2 H' ∧ (List.range i).all (okM ws tt ss cy.toNat) = true)
        (fun H3 e3 => ⟨none, none, rfl, e3, rfl⟩) (fun i σ' H' _ ⟨_, _, _, e', _⟩ => sq_of (e' _ _ ht2)) ?_ ?_
      · rintro i x σ' H' H'' hx ⟨v6, v7, rfl, e', hall⟩ e''
        obtain ⟨hi, rfl⟩ := nV_at hx
        have eH := e'.trans e''
        refine s_when (b := !okM ws tt ss cy.toNat i) (et_is (et_or (et_is (et_test (ev_op (ev_rnd (hm2.mono eH) (T.at hi) (ev_var rfl) (ev_var rfl)) (ev_var rfl) rv_I0)) (show decide (cy < ((rnd ws (tt.getD i 0) : Nat) : Int)) = !decide (rnd ws (tt.getD i 0) ≤ cy.toNat) by
            by_cases w0 : rnd ws (tt.getD i 0) ≤ cy.toNat
            · rw [decide_eq_true w0, decide_eq_false (by omega)]
              rfl
            · rw [decide_eq_false w0, decide_eq_true (by omega)]
              rfl))
          (fun _ => et_not (et_B (ev_fn (ea_cons (ev_var rfl) (ea_cons (ev_is (ev_var rfl) (congrArg V.int hcy)) (ea_cons (ev_var rfl) (ea_cons (ev_var rfl) (ea_cons (ev_var rfl) ea_nil))))) fun H3 e3 => ⟨l, t, s, ws, tt, ss, cy.toNat, i, rfl, hm2.mono (eH.trans e3), (eH.trans e3) _ _ ht2, (eH.trans e3) _ _ hs2, T, hi, hlen, rfl⟩)))) (by
            unfold okM
            rw [Bool.not_and])) (fun hb2 H3 e3 => ?_) (fun hb2 H3 e3 => ?_)
        · refine s_retL (el_lst (ea_cons ev_c ea_nil) (by show 1 ≤ 100000; decide)) fun p H4 h4 e4 g4 => k p H4 (fresh_back ((e12.trans eH).trans e3) h4) (((e12.trans eH).trans e3).trans e4) ?_
          rw [g4, all_range_false hi (not_true hb2)]
          rfl
        · refine ⟨some (.int (i : Int)), some (.int ((tt.getD i 0 : Nat) : Int)), rfl, eH.trans e3, ?_⟩
          rw [all_range_succ, hall, not_false' hb2]
          rfl
      · rintro σ' H' ⟨v6, v7, rfl, e', hall⟩
        rw [nV_len] at hall
        refine s_retL (el_lst (ea_cons ev_c ea_nil) (by show 1 ≤ 100000; decide)) fun p H4 h4 e4 g4 => k p H4 (fresh_back (e12.trans e') h4) ((e12.trans e').trans e4) ?_
        rw [g4, hall]
        rfl
end
end Tw
namespace Tw
open PySem PySem.Spec PyProof.Rows L2 Evl
section
variable {P : Program} {w : World} {K : PySem.W.Frag} {mg : Str → Option Value} {base : Heap}
/-! ### machines as objects in a row -/
abbrev gM (m : Sr120.Machine) : HO := .tup (mV m)
section
variable {α : Type} {g : α → HO} {H : Hp}
theorem ObsP.append : ∀ {rs qs : List Addr} {xs ys : List α}, ObsP g H rs xs → ObsP g H qs ys → ObsP g H (rs ++ qs) (xs ++ ys)
  | [], _, [], _, _, h => h
  | _ :: _, _, _ :: _, _, h1, h => ⟨h1.1, ObsP.append h1.2 h⟩
  | [], _, _ :: _, _, h, _ => h.elim
  | _ :: _, _, [], _, h, _ => h.elim
theorem ObsP.take : ∀ {rs : List Addr} {xs : List α} (n : Nat), ObsP g H rs xs → ObsP g H (rs.take n) (xs.take n)
  | _, _, 0, _ => by
    rw [List.take_zero, List.take_zero]
    trivial
  | [], [], n + 1, _ => trivial
  | _ :: _, _ :: _, n + 1, h => ⟨h.1, ObsP.take n h.2⟩
  | [], _ :: _, _ + 1, h => h.elim
  | _ :: _, [], _ + 1, h => h.elim
theorem ObsP.drop : ∀ {rs : List Addr} {xs : List α} (n : Nat), ObsP g H rs xs → ObsP g H (rs.drop n) (xs.drop n)
  | _, _, 0, h => h
  | [], [], n + 1, _ => trivial
  | _ :: rs, _ :: xs, n + 1, h => ObsP.drop (rs := rs) (xs := xs) n h.2
  | [], _ :: _, _ + 1, h => h.elim
  | _ :: _, [], _ + 1, h => h.elim
end
theorem obs_build {H : Hp} : ∀ (rs : List Addr) (ws : Sr120.Workshop), rs.length = ws.length → (∀ (i : Nat) (m : Sr120.Machine), ws[i]? = some m → ∃ r, rs[i]? = some r ∧ H r = some (.tup (mV m))) → ObsP gM H rs ws
  | [], [], _, _ => trivial
  | r :: rs, m :: ws, hl, h => by
    obtain ⟨r0, e, h0⟩ := h 0 m rfl
    cases Option.some.inj e
    exact ⟨h0, obs_build rs ws (Nat.succ.inj hl) fun i m' hm => h (i + 1) m' hm⟩
  | [], _ :: _, hl, _ => nomatch hl
  | _ :: _, [], hl, _ => nomatch hl
theorem MsAt.obs {H : Hp} {a : Addr} {ws : Sr120.Workshop} (h : MsAt H a ws) : ∃ rs : List Addr, H a = some (.lst (rs.map V.ref)) ∧ ObsP gM H rs ws := by
  obtain ⟨rs, h1, h2, h3⟩ := h
  exact ⟨rs, h1, obs_build rs ws h2 h3⟩
theorem MsAt.mk {H : Hp} {a : Addr} {rs : List Addr} {ws : Sr120.Workshop} (h1 : H a = some (.lst (rs.map V.ref))) (h2 : ObsP gM H rs ws) : MsAt H a ws :=
  ⟨rs, h1, h2.len, fun _ _ hm => h2.get' hm⟩
def MsV (ws : Sr120.Workshop) : V → Hp → Prop := fun v H => ∃ a, v = .ref a ∧ MsAt H a ws
/-- a list made, of which the objects stand -/
def MsN (H0 : Hp) (ws : Sr120.Workshop) : V → Hp → Prop := fun v H => ∃ a, v = .ref a ∧ H0 a = none ∧ MsAt H a ws
theorem set_cut {α : Type} {l : List α} {i : Nat} {x : α} (h : i < l.length) : l.set i x = l.take i ++ [x] ++ l.drop (i + 1) := by
  rw [List.set_eq_take_append_cons_drop, if_pos h, List.append_assoc]
  rfl
/-- with_machine(machines, index, machine) -/
theorem ep_with {σ : L2.St} {H : Hp} {l : Addr} {ws : Sr120.Workshop} {i : Nat} {m : Sr120.Machine} {t1 t2 t3 : TE} {E1 : XK} (hm : MsAt H l ws) (hw : ws.length ≤ 6) (hi : i < ws.length) (h1 : Ev t1 σ H (.ref l)) (h2 : Ev t2 σ H (.int (i : Int))) (h3 : EvP t3 σ H (TupV (mV m))) :
    EvP (tCall (sp_with_machine K) [] E1 (tCons t1 (tCons t2 (tCons t3 tNil)))) σ H (MsN H (ws.set i m)) := fun H0 e Q q =>
  h1 H0 e _ fun H1 e1 => h2 H1 (e.trans e1) _ fun H2 e2 => h3 H2 ((e.trans e1).trans e2) _ fun v H3 e3 ⟨p, ev, hp⟩ => by
    have e03 := (e1.trans e2).trans e3
    obtain ⟨rs, a1, a2⟩ := (hm.mono (e.trans e03)).obs
    refine ⟨_, H3, Ex.refl H3, ⟨l, rs.map V.ref, i, v, rfl, a1, by rw [List.length_map, a2.len]; omega, rfl⟩, fun p' H4 hn e4 h4 => q _ H4 (e03.trans e4) ⟨p', rfl, fresh_back e (fresh_back e03 hn), ?_⟩⟩
    refine MsAt.mk (rs := rs.take i ++ [p] ++ rs.drop (i + 1)) ?_ ?_
    · rw [h4, ev, List.map_append, List.map_append, List.map_take, List.map_drop]
      rfl
    · rw [set_cut hi]
      have b := a2.mono e4
      exact ((b.take i).append (g := gM) (rs := rs.take i) (qs := [p]) (ys := [m]) ⟨e4 _ _ hp, trivial⟩).append (b.drop (i + 1))
/-- machines + [machine] -/
theorem ep_push {σ : L2.St} {H : Hp} {l : Addr} {ws : Sr120.Workshop} {m : Sr120.Machine} {ta te : TE} (hm : MsAt H l ws) (hw : ws.length ≤ 6) (ha : Ev ta σ H (.ref l)) (he : EvU te σ H (mV m)) : EvP (tOp rCat ta (tLst (tCons te tNil))) σ H (MsN H (ws ++ [m])) := fun H0 e Q q =>
  ha H0 e _ fun H1 e1 => he H1 (e.trans e1) _ fun p H2 hp e2 h2 => ⟨by show 1 ≤ sizeLine; decide, fun p2 hp2 => by
    have e3 : Ex H2 (upd H2 p2 (.lst [.ref p])) := Ex.new hp2
    obtain ⟨rs, a1, a2⟩ := (hm.mono (((e.trans e1).trans e2).trans e3)).obs
    refine ⟨l, p2, rs.map V.ref, [.ref p], rfl, rfl, a1, upd_same, ?_, fun p3 hp3 => ?_⟩
    · rw [List.length_map, a2.len]
      exact sz_of (by show ws.length + 1 ≤ _; omega)
    · have e4 : Ex (upd H2 p2 (.lst [.ref p])) (upd (upd H2 p2 (.lst [.ref p])) p3 (.lst (rs.map V.ref ++ [.ref p]))) := Ex.new hp3
      refine q _ _ (((e1.trans e2).trans e3).trans e4) ⟨p3, rfl, fresh_back e (fresh_back e1 (fresh_back (e2.trans e3) hp3)), MsAt.mk (rs := rs ++ [p]) ?_ ?_⟩
      · rw [upd_same, List.map_append]
        rfl
      · exact ObsP.snoc (g := gM) (e4 _ _ (e3 _ _ h2)) (a2.mono e4)⟩
/-- machines[:i] + machines[i + 1:] -/
theorem ep_erase {σ : L2.St} {H : Hp} {l : Addr} {ws : Sr120.Workshop} {i : Nat} {t1 t2 t3 t4 : TE} (hm : MsAt H l ws) (hw : ws.length ≤ 6) (h1 : Ev t1 σ H (.ref l)) (h2 : Ev t2 σ H (.int (i : Int))) (h3 : Ev t3 σ H (.ref l)) (h4 : Ev t4 σ H (.int ((i : Int) + 1))) :
    EvP (tOp rCat (tSl (rSlL K) t1 tNoPart (tPart t2)) (tSl (rSlL K) t3 (tPart t4) tNoPart)) σ H (MsN H (ws.eraseIdx i)) := by
  obtain ⟨rs, a1, a2⟩ := hm.obs
  have hl1 := cutV_length (rs.map V.ref) none (some (i : Int))
  have hl2 := cutV_length (rs.map V.ref) (some ((i : Int) + 1)) none
  have hl3 : (rs.map V.ref).length ≤ 6 := by rw [List.length_map, a2.len]; exact hw
  have g := el_cat (EvL.toP (el_sl h1 eo_none (eo_some h2) (sq_of (K := K) a1))) (EvL.toP (el_sl h3 (eo_some h4) eo_none (sq_of (K := K) a1))) (by omega)
  have e2 : cutV (rs.map V.ref) (some ((i : Int) + 1)) none = (rs.map V.ref).drop (i + 1) := cut_from _ (i + 1)
  rw [cut_to, e2] at g
  exact fun H0 e Q q => g H0 e _ fun p H1 hp e1 h5 => q _ H1 e1 ⟨p, rfl, fresh_back e hp, MsAt.mk (rs := rs.take i ++ rs.drop (i + 1)) (by rw [h5, List.map_append, List.map_take, List.map_drop]) (by
    rw [List.eraseIdx_eq_take_drop_succ]
    have b := a2.mono (e.trans e1)
    exact (b.take i).append (b.drop (i + 1)))⟩
/-! ### the workshop stays within its bounds -/
theorem len_iff {x : Int} : Sr120.isLength x = true ↔ 0 ≤ x ∧ x ≤ 99 := by
  unfold Sr120.isLength SrCommon.inRange
  rw [Bool.and_eq_true, decide_eq_true_eq, decide_eq_true_eq]
theorem serv_iff {x : Int} : Sr120.isServiceTime x = true ↔ 1 ≤ x ∧ x ≤ 99 := by
  unfold Sr120.isServiceTime SrCommon.inRange
  rw [Bool.and_eq_true, decide_eq_true_eq, decide_eq_true_eq]
theorem mem_set {α : Type} {l : List α} {i : Nat} {x y : α} (h : y ∈ l.set i x) : y ∈ l ∨ y = x := List.mem_or_eq_of_mem_set h
theorem Valid.set {ws : Sr120.Workshop} (V0 : Valid ws) {i : Nat} {m : Sr120.Machine} (hm : m.position ≤ 99 ∧ m.runTime ≤ 99 ∧ 1 ≤ m.serviceTime ∧ m.serviceTime ≤ 99) : Valid (ws.set i m) :=
  ⟨by rw [List.length_set]; exact V0.len, fun y hy => (mem_set hy).elim (V0.ok y) fun e => by rw [e]; exact hm⟩
theorem Valid.at {ws : Sr120.Workshop} (V0 : Valid ws) {i : Nat} (hi : i < ws.length) : (Sr120.machineAt ws i).position ≤ 99 ∧ (Sr120.machineAt ws i).runTime ≤ 99 ∧ 1 ≤ (Sr120.machineAt ws i).serviceTime ∧ (Sr120.machineAt ws i).serviceTime ≤ 99 :=
  ⟨(V0.le i).1, (V0.le i).2.1, V0.pos hi, (V0.le i).2.2⟩
def sp_min_cycle_time_if (K : PySem.W.Frag) : Sp := spQ K fun _ xs c => ∃ i t : Int, xs = [.int i, .int t] ∧ c = .minCycleTimeIf i t
theorem ans_if {ws : Sr120.Workshop} {i t : Int} : ans ws (.minCycleTimeIf i t) = if SrCommon.isIndex i ws.length = false then [.int (-2)] else if Sr120.isLength t = false then [.int (-22)] else
    [.int ((Sr120.minCycleTime (Sr120.withRunTime ws i.toNat t.toNat) (Sr120.allMachines (Sr120.withRunTime ws i.toNat t.toNat)) : Nat) : Int)] := by
  have e : Sr120.isMachine ws i = SrCommon.isIndex i ws.length := rfl
  unfold ans Sr120.perform
  dsimp only
  rw [e]
  split
  · rfl
  · split <;> rfl
abbrev st_min_cycle_time_if : Stmt := top 80
abbrev N_min_cycle_time_if : List Str := ["wall", "parts", "machines", "index", "run_time", "changed"]
theorem sc_min_cycle_time_if : FnScope N_min_cycle_time_if ["wall", "parts"] (defScope st_min_cycle_time_if) := ⟨rfl, rfl, rfl, by decide +kernel, rfl, by decide +kernel, by decide +kernel⟩
theorem ok_min_cycle_time_if (D0 : DefAt K mg "min_cycle_time_if" st_min_cycle_time_if ["wall", "parts"]) (c_NO_MACHINE : CI mg "NO_MACHINE" (-2)) (c_MOST_RUN_TIME : CI mg "MOST_RUN_TIME" (99)) (c_OUT_OF_RANGE : CI mg "OUT_OF_RANGE" (-22)) (f_with_machine : Fn P w K mg base "with_machine" 1 (sp_with_machine K)) (f_has_machine : Fn P w K mg base "has_machine" 1 (sp_has_machine K)) (f_is_within : Fn P w K mg base "is_within" 1 (sp_is_within K)) (f_with_run_time : Fn P w K mg base "with_run_time" 2 (sp_with_run_time K)) (f_least_cycle_time : Fn P w K mg base "least_cycle_time" 7 (sp_least_cycle_time K)) (f_all_indices : Fn P w K mg base "all_indices" 1 (sp_all_indices K))  : Fn P w K mg base "min_cycle_time_if" 8 (sp_min_cycle_time_if K) := by
  refine D0.fn fun f fd F => F.ok sc_min_cycle_time_if (fun vs H Q E h => ?_) (fun cdv A outer s H vs Q E hr h => ?_)
  · exact h.len
  · obtain ⟨z, H0, e0, ⟨a, l, pp, ws, xs, c, ⟨rfl, hw, hm, hp, V0⟩, ⟨i, t, rfl, rfl⟩, rfl⟩, k⟩ := h
    refine ⟨_, (pss_cons (ps_par3 (i := 2) (j := 3) (l := 4) rfl sc_min_cycle_time_if.nd rfl rfl rfl (by decide) (by decide) (by decide) rfl rfl rfl (pa_cons (pe_fld (pv 0) rfl) (pa_cons (pe_ix (r := rIxL K) ix_list (pv 1) pe_int (fun _ _ => rfl)) (pa_cons (pe_ix (r := rIxL K) ix_list (pv 1) pe_int (fun _ _ => rfl)) pa_nil))) (by rfl)) (pss_cons (ps_if (pt_not (pt_val (pe_fn f_has_machine hr (by decide) rfl (pa_cons (pv 2) (pa_cons (pv 3) pa_nil))))) (pss_one (ps_ret (pe_lst (pa_cons (pe_ci c_NO_MACHINE rfl) pa_nil)))) pss_nil) (pss_cons (ps_if (pt_not (pt_val (pe_fn f_is_within hr (by decide) rfl (pa_cons (pv 4) (pa_cons pe_int (pa_cons (pe_ci c_MOST_RUN_TIME rfl) pa_nil)))))) (pss_one (ps_ret (pe_lst (pa_cons (pe_ci c_OUT_OF_RANGE rfl) pa_nil)))) pss_nil) (pss_cons (ps_set (i := 5) sc_min_cycle_time_if.nd rfl (Or.inl rfl) (pe_fn f_with_machine hr (by decide) rfl (pa_cons (pv 2) (pa_cons (pv 3) (pa_cons (pe_fn f_with_run_time hr (by decide) rfl (pa_cons (pe_ix (r := rIxL K) ix_list (pv 2) (pv 3) (fun _ _ => rfl)) (pa_cons (pv 4) pa_nil))) pa_nil))))) (pss_one (ps_ret (pe_lst (pa_cons (pe_fn f_least_cycle_time hr (by decide) rfl (pa_cons (pv 5) (pa_cons (pe_fn f_all_indices hr (by decide) rfl (pa_cons (pv 5) pa_nil)) pa_nil))) pa_nil)))))))), ?_⟩
    have hm := hm.mono e0
    have hw := hw.mono e0
    have hp := e0 _ _ hp
    refine q_par3 (ea_cons (ev_wm hw (ev_var rfl)) (ea_cons (ev_pt (j := 0) hp (ev_var rfl) ev_c rfl rfl) (ea_cons (ev_pt (j := 1) hp (ev_var rfl) ev_c rfl rfl) ea_nil))) fun H1 e1 => ?_
    have hm1 := hm.mono e1
    refine q_when (et_not (et_B (ev_has hm1 (ev_var rfl) (ev_var rfl)))) (fun hb H2 e2 => ?_) (fun hb H2 e2 => ?_)
    · refine s_retL (el_lst (ea_cons ev_c ea_nil) (by show 1 ≤ 100000; decide)) fun p H3 h3 e3 g3 => k p H3 (fresh_back (e1.trans e2) h3) ((e1.trans e2).trans e3) ?_
      rw [g3, ans_if, if_pos (not_true hb)]
    · have hg := not_false' hb
      obtain ⟨ei, hi⟩ := index_nat hg
      refine q_when (et_not (et_B (ev_fn (ea_cons (ev_var rfl) (ea_cons ev_c (ea_cons ev_c ea_nil))) fun H3 e3 => ⟨t, 0, 99, rfl, rfl⟩))) (fun hb3 H3 e3 => ?_) (fun hb3 H3 e3 => ?_)
      · refine s_retL (el_lst (ea_cons ev_c ea_nil) (by show 1 ≤ 100000; decide)) fun p H4 h4 e4 g4 => k p H4 (fresh_back ((e1.trans e2).trans e3) h4) (((e1.trans e2).trans e3).trans e4) ?_
        rw [g4, ans_if, if_neg (by rw [hg]; decide), if_pos (show Sr120.isLength t = false from not_true hb3)]
      · have hg3 : Sr120.isLength t = true := not_false' hb3
        have ht := len_iff.mp hg3
        have et : t = ((t.toNat : Nat) : Int) := by omega
        have e13 := (e1.trans e2).trans e3
        have hm3 := hm.mono e13
        obtain ⟨ys, r, a1, a2, a3, a4⟩ := hm3.get hi
        refine q_asgP (ep_with hm3 V0.len hi (ev_var rfl) (ev_is (ev_var rfl) (congrArg V.int ei)) (ep_fn (ea_cons (ev_op (ev_var rfl) (ev_is (ev_var rfl) (congrArg V.int ei)) (rv_ixL (sq_of a1) (atI_nat a3))) (ea_cons (ev_is (ev_var rfl) (congrArg V.int et)) ea_nil)) fun H4 e4 => ⟨r, _, t.toNat, rfl, e4 _ _ a4, rfl⟩)) ?_
        rintro v H4 e4 ⟨l2, rfl, _, hm4⟩
        have b := V0.at hi
        have V1 : Valid (Sr120.withRunTime ws i.toNat t.toNat) := V0.set ⟨b.1, by show t.toNat ≤ 99; omega, b.2.2.1, b.2.2.2⟩
        have e14 := e13.trans e4
        refine s_retL (el_lst (ea_cons (ev_least hm4 V1 (ev_var rfl) (ev_var rfl)) ea_nil) (by show 1 ≤ 100000; decide)) fun p H5 h5 e5 g5 => k p H5 (fresh_back e14 h5) (e14.trans e5) ?_
        rw [g5, ans_if, if_neg (by rw [hg]; decide), if_neg (by rw [hg3]; decide)]
        rfl
def sp_list_machines (K : PySem.W.Frag) : Sp := spQ K fun _ _ c => c = .listMachines
theorem ans_list {ws : Sr120.Workshop} : ans ws .listMachines = .int (ws.length : Int) :: ws.flatMap mV := by
  show V.int _ :: (ws.flatMap _).map V.int = _
  rw [List.map_flatMap]
  rfl
theorem s_ext {σ : L2.St} {H : Hp} {D : Ends} {l : Addr} {xs ys : List V} {ta te : TE} (hl : H l = some (.lst xs)) (ha : Ev ta σ H (.ref l)) (h : EvP te σ H (LstV ys)) (hz : xs.length + ys.length ≤ sizeLine) (k : ∀ H1, Ex H H1 → D.nx σ (upd H1 l (.lst (xs ++ ys)))) :
    tDrop (tBM K "list" rExtend ta (tCons te tNil)) D σ H := ha H (Ex.refl H) _ fun H1 e1 =>
  ⟨Or.inl ⟨rfl, xs, sq_of (e1 l _ hl)⟩, h H1 e1 _ fun v H2 e2 ⟨p, ev, hp⟩ => ⟨l, p, xs, ys, rfl, by rw [ev], e2 l _ (e1 l _ hl), hp, hz, k H2 (e1.trans e2)⟩⟩
theorem el_listT {σ : L2.St} {H : Hp} {p : Addr} {xs : List V} {ta : TE} (ha : Ev ta σ H (.ref p)) (h : SqT K H p xs) : EvL (tCB (fun xs H Q => ∃ p ys, xs = [V.ref p] ∧ (SqL K H p ys ∨ SqT K H p ys) ∧ ∀ l, H l = none → Q (.ref l) (upd H l (.lst ys))) (tCons ta tNil)) σ H xs := fun H1 e Q q =>
  ha H1 e _ fun H2 e2 => ⟨p, xs, rfl, Or.inr (ex_t (e.trans e2) h), fun l hl => q l _ (fresh_back e2 hl) (e2.trans (Ex.new hl)) upd_same⟩
theorem flat_len : ∀ ws : Sr120.Workshop, (ws.flatMap mV).length = 3 * ws.length
  | [] => rfl
  | m :: ws => by
    rw [List.flatMap_cons, List.length_append, flat_len ws, List.length_cons]
    show 3 + _ = _
    omega
abbrev st_list_machines : Stmt := top 81
abbrev N_list_machines : List Str := ["wall", "parts", "found", "machine"]
theorem sc_list_machines : FnScope N_list_machines ["wall", "parts"] (defScope st_list_machines) := ⟨rfl, rfl, rfl, by decide +kernel, rfl, by decide +kernel, by decide +kernel⟩
theorem ok_list_machines (D0 : DefAt K mg "list_machines" st_list_machines ["wall", "parts"]) (b_len : mg "len" = none) (b_list : mg "list" = none)  : Fn P w K mg base "list_machines" 1 (sp_list_machines K) := by
  refine D0.fn fun f fd F => F.ok sc_list_machines (fun vs H Q E h => ?_) (fun cdv A outer s H vs Q E hr h => ?_)
  · exact h.len
  · obtain ⟨z, H0, e0, ⟨a, l, pp, ws, xs, c, ⟨rfl, hw, hm, hp, V0⟩, rfl, rfl⟩, k⟩ := h
    refine ⟨_, (pss_cons (ps_set (i := 2) sc_list_machines.nd rfl (Or.inl rfl) (pe_lst (pa_cons (pe_callB call_len_seq (by rfl) b_len (by decide +kernel) (pa_cons (pe_fld (pv 0) rfl) pa_nil)) pa_nil))) (pss_cons (ps_for PassesOwn.never rfl (pi_list (pe_fld (pv 0) rfl)) (pg_name (i := 3) sc_list_machines.nd rfl (Or.inl rfl)) (pss_one (ps_expr (pe_bm PySem.F.plainAttrs_list PySem.F.slot_list_extend PySem.F.type_list_extend mt_extend (pv 2) (pa_cons (pe_callTy call_list_of (by rfl) b_list (by decide +kernel) (pa_cons (pv 3) pa_nil)) pa_nil))))) (pss_one (ps_ret (pv 2))))), ?_⟩
    have hm := hm.mono e0
    have hw := hw.mono e0
    obtain ⟨rs, a1, a2⟩ := hm.obs
    have hw6 := V0.len
    refine q_asgL (el_lst (ea_cons (ev_len (ev_wm hw (ev_var rfl)) (sq_of a1)) ea_nil) (by show 1 ≤ 100000; decide)) fun p H1 hp1 e1 h1 => ?_
    refine q_forLn (xs := rs.map V.ref) (ev_wm (hw.mono e1) (ev_var rfl)) (sq_of (e1 _ _ a1)) (fun i σ' H' => ∃ v3 : Option V, σ' = [some (.ref a), some (.ref pp), some (.ref p), v3] ∧ Ex H H' ∧ H' p = some (.lst ([.int (ws.length : Int)] ++ (ws.take i).flatMap mV)))
      (fun H2 e2 => ⟨none, rfl, e1.trans e2, by
        rw [List.length_map, a2.len] at h1
        exact e2 _ _ h1⟩) (fun i σ' H' _ ⟨_, _, e', _⟩ => sq_of (e' _ _ a1)) ?_ ?_
    · rintro i x σ' H' hx ⟨v3, rfl, e', hp'⟩
      obtain ⟨r, hri, rfl⟩ := at_map hx
      obtain ⟨m, hmi, hr⟩ := a2.get hri
      refine s_ext hp' (ev_var rfl) (EvL.toP (el_listT (ev_var rfl) (st_of (e' _ _ hr)))) ?_ fun H2 e2 => ⟨some (.ref r), rfl, Ex.mut (e'.trans e2) hp1, ?_⟩
      · refine sz_of ?_
        rw [List.length_append, flat_len, List.length_take]
        show 1 + _ + 3 ≤ _
        omega
      · rw [upd_same, take_more hmi, List.flatMap_append, List.append_assoc]
        simp
    · rintro σ' H' ⟨v3, rfl, e', hp'⟩
      rw [List.length_map, a2.len, List.take_length] at hp'
      refine s_ret (ev_var rfl) fun H3 e3 => k p H3 hp1 (e'.trans e3) ?_
      rw [e3 _ _ hp', ans_list]
      rfl
end
end Tw
namespace Tw
open PySem PySem.Spec PyProof.Rows L2 Evl
section
variable {P : Program} {w : World} {K : PySem.W.Frag} {mg : Str → Option Value} {base : Heap}
/-! ### deeds: the instance changes -/
def newW (ws : Sr120.Workshop) (c : Sr120.Call) : Sr120.Workshop := (Sr120.perform ws c).1.getD ws
/-- what follows a call on an instance -/
def After (K : PySem.W.Frag) (H : Hp) (a l : Addr) (ws : Sr120.Workshop) (c : Sr120.Call) (Q : VK) : Prop := ∀ (p : Addr) (H' : Hp) (l' : Addr), H p = none → H' p = some (.lst (ans ws c)) → WallOk K H' a l' → MsAt H' l' (newW ws c) → (l' = l ∨ H l' = none) → (∀ b o, b ≠ a → H b = some o → H' b = some o) → Q (.ref p) H'
def spD (K : PySem.W.Frag) (A : List V → Sr120.Call → Prop) : Sp := fun vs H Q _ => ∃ (a l pp : Addr) (ws : Sr120.Workshop) (xs : List V) (c : Sr120.Call), QArg K vs H a l pp ws xs ∧ A xs c ∧ After K H a l ws c Q
theorem spD.len {A : List V → Sr120.Call → Prop} {vs : List V} {H : Hp} {Q : VK} {E : XK} (h : spD K A vs H Q E) : vs.length = 2 := by
  obtain ⟨a, l, pp, ws, xs, c, ⟨rfl, _, _, _, _⟩, _, _⟩ := h
  rfl
/-- nothing changed -/
theorem After.same {H H' : Hp} {a l p : Addr} {ws : Sr120.Workshop} {c : Sr120.Call} {Q : VK} (k : After K H a l ws c Q) (hw : WallOk K H a l) (hm : MsAt H l ws) (hn : newW ws c = ws) (hp : H p = none) (e : Ex H H') (h : H' p = some (.lst (ans ws c))) : Q (.ref p) H' :=
  k p H' l hp h (hw.mono e) (by rw [hn]; exact hm.mono e) (.inl rfl) fun b o _ hb => e b o hb
theorem MsAt.upd_ins {H : Hp} {l a C dx : Addr} {fs : List (Str × V)} {ws : Sr120.Workshop} {o : HO} (hm : MsAt H l ws) (ha : H a = some (.ins C dx fs)) : MsAt (upd H a o) l ws := by
  obtain ⟨rs, h1, h2, h3⟩ := hm
  refine ⟨rs, by rw [upd_ne (ne_of h1 ha (by intro z; cases z))]; exact h1, h2, fun i m hi => ?_⟩
  obtain ⟨r, g1, g2⟩ := h3 i m hi
  exact ⟨r, g1, by rw [upd_ne (ne_of g2 ha (by intro z; cases z))]; exact g2⟩
theorem MsAt.upd_lst {H : Hp} {l f : Addr} {ys : List V} {ws : Sr120.Workshop} {zs : List V} (hm : MsAt H l ws) (hf : H f = some (.lst ys)) (hn : l ≠ f) : MsAt (upd H f (.lst zs)) l ws := by
  obtain ⟨rs, h1, h2, h3⟩ := hm
  refine ⟨rs, by rw [upd_ne hn]; exact h1, h2, fun i m hi => ?_⟩
  obtain ⟨r, g1, g2⟩ := h3 i m hi
  exact ⟨r, g1, by rw [upd_ne (ne_of g2 hf (by intro z; cases z))]; exact g2⟩
/-- wall.machines = e; the rest -/
theorem q_wall {σ : L2.St} {H H0 : Hp} {D : Ends} {tz : TS} {a l : Addr} {ws : Sr120.Workshop} {ta tv : TE} (hv : EvP tv σ H (MsN H0 ws)) (ha : Ev ta σ H (.ref a)) (hw : WallOk K H a l)
    (k : ∀ (l2 : Addr) (H1 : Hp) (C dx : Addr), Ex H H1 → H0 l2 = none → MsAt H1 l2 ws → Cls K C → NoAttr K C "machines" → H1 a = some (.ins C dx [("machines", .ref l)]) → tz D σ (upd H1 a (.ins C dx [("machines", .ref l2)]))) : tSeq (sFld K ta tv "machines") tz D σ H :=
  hv H (Ex.refl H) _ fun v H1 e1 ⟨l2, ev, hn, hm⟩ => ha H1 e1 _ fun H2 e2 => by
    obtain ⟨C, dx, h1, h2, h3⟩ := hw
    have h4 := e2 _ _ (e1 _ _ h3)
    refine ⟨a, C, dx, _, rfl, h4, h1, h2, by show 1 < 1000; decide, ?_⟩
    have e : putF "machines" v [(("machines" : Str), V.ref l)] = [(("machines" : Str), V.ref l2)] := by
      rw [ev]
      exact if_pos rfl
    rw [e]
    exact k l2 H2 C dx (e1.trans e2) hn (hm.mono e2) h1 h2 h4
/-- changed -/
theorem After.done {H H2 H4 : Hp} {a l l2 p C dx : Addr} {ws : Sr120.Workshop} {c : Sr120.Call} {Q : VK} (k : After K H a l ws c Q) (e : Ex H H2) (hn : H l2 = none) (hm : MsAt H2 l2 (newW ws c)) (h1 : Cls K C) (h2 : NoAttr K C "machines") (h3 : H2 a = some (.ins C dx [("machines", .ref l)]))
    (hp : (upd H2 a (.ins C dx [("machines", .ref l2)])) p = none) (e4 : Ex (upd H2 a (.ins C dx [("machines", .ref l2)])) H4) (h4 : H4 p = some (.lst (ans ws c))) : Q (.ref p) H4 := by
  have hpa : p ≠ a := fun q => by
    rw [q, upd_same] at hp
    cases hp
  rw [upd_ne hpa] at hp
  exact k p H4 l2 (fresh_back e hp) h4 ⟨C, dx, h1, h2, e4 _ _ upd_same⟩ ((hm.upd_ins h3).mono e4) (.inr hn) fun b o hb ho => e4 _ _ (by rw [upd_ne hb]; exact e _ _ ho)
def sp_add_machine (K : PySem.W.Frag) : Sp := spD K fun xs c => ∃ p r s : Int, xs = [.int p, .int r, .int s] ∧ c = .addMachine p r s
theorem add_bad {ws : Sr120.Workshop} {p r s : Int} (h : (!Sr120.isLength p || (!Sr120.isLength r || !Sr120.isServiceTime s)) = true) : Sr120.perform ws (.addMachine p r s) = (none, ⟨-22, []⟩) := by
  unfold Sr120.perform
  dsimp only
  rw [if_pos]
  · rfl
  · rw [Bool.or_eq_true, Bool.or_eq_true] at h
    rcases h with h | h | h
    · exact .inl (not_true h)
    · exact .inr (.inl (not_true h))
    · exact .inr (.inr (not_true h))
theorem add_ok {ws : Sr120.Workshop} {p r s : Int} (h : (!Sr120.isLength p || (!Sr120.isLength r || !Sr120.isServiceTime s)) = false) : Sr120.perform ws (.addMachine p r s) = if 6 ≤ ws.length then (none, ⟨-28, []⟩) else (some (ws ++ [⟨p.toNat, r.toNat, s.toNat⟩]), ⟨(ws.length : Int), []⟩) := by
  rw [Bool.or_eq_false_iff, Bool.or_eq_false_iff] at h
  unfold Sr120.perform
  dsimp only
  rw [if_neg]
  · rfl
  · rw [not_false' h.1, not_false' h.2.1, not_false' h.2.2]
    decide
abbrev st_add_machine : Stmt := top 34
abbrev N_add_machine : List Str := ["wall", "parts", "position", "run_time", "service_time"]
theorem sc_add_machine : FnScope N_add_machine ["wall", "parts"] (defScope st_add_machine) := ⟨rfl, rfl, rfl, by decide +kernel, rfl, by decide +kernel, by decide +kernel⟩
theorem ok_add_machine (D0 : DefAt K mg "add_machine" st_add_machine ["wall", "parts"]) (c_MOST_MACHINES : CI mg "MOST_MACHINES" (6)) (c_OUT_OF_RANGE : CI mg "OUT_OF_RANGE" (-22)) (c_TOO_MANY_MACHINES : CI mg "TOO_MANY_MACHINES" (-28)) (b_len : mg "len" = none) (f_is_position : Fn P w K mg base "is_position" 2 (sp_is_position K)) (f_is_run_time : Fn P w K mg base "is_run_time" 2 (sp_is_run_time K)) (f_is_service_time : Fn P w K mg base "is_service_time" 2 (sp_is_service_time K))  : Fn P w K mg base "add_machine" 3 (sp_add_machine K) := by
  refine D0.fn fun f fd F => F.ok sc_add_machine (fun vs H Q E h => ?_) (fun cdv A outer s H vs Q E hr h => ?_)
  · exact h.len
  · obtain ⟨a, l, pp, ws, xs, c, ⟨rfl, hw, hm, hp, V0⟩, ⟨po, r, se, rfl, rfl⟩, k⟩ := h
    refine ⟨_, (pss_cons (ps_par3 (i := 2) (j := 3) (l := 4) rfl sc_add_machine.nd rfl rfl rfl (by decide) (by decide) (by decide) rfl rfl rfl (pa_cons (pe_ix (r := rIxL K) ix_list (pv 1) pe_int (fun _ _ => rfl)) (pa_cons (pe_ix (r := rIxL K) ix_list (pv 1) pe_int (fun _ _ => rfl)) (pa_cons (pe_ix (r := rIxL K) ix_list (pv 1) pe_int (fun _ _ => rfl)) pa_nil))) (by rfl)) (pss_cons (ps_if (PW.pt (pw_or (pt_not (pt_val (pe_fn f_is_position hr (by decide) rfl (pa_cons (pv 2) pa_nil)))) (pw_or (pt_not (pt_val (pe_fn f_is_run_time hr (by decide) rfl (pa_cons (pv 3) pa_nil)))) (pw_or1 (pt_not (pt_val (pe_fn f_is_service_time hr (by decide) rfl (pa_cons (pv 4) pa_nil)))))))) (pss_one (ps_ret (pe_lst (pa_cons (pe_ci c_OUT_OF_RANGE rfl) pa_nil)))) pss_nil) (pss_cons (ps_if (pt_cmpR op_eq (pe_callB call_len_seq (by rfl) b_len (by decide +kernel) (pa_cons (pe_fld (pv 0) rfl) pa_nil)) (pe_ci c_MOST_MACHINES rfl) (nomark _)) (pss_one (ps_ret (pe_lst (pa_cons (pe_ci c_TOO_MANY_MACHINES rfl) pa_nil)))) pss_nil) (pss_cons (ps_fld (pv 0) (pe_op op_cat (pe_fld (pv 0) rfl) (pe_lst (pa_cons (pe_tup (pa_cons (pv 2) (pa_cons (pv 3) (pa_cons (pv 4) pa_nil)))) pa_nil))) rfl) (pss_one (ps_ret (pe_lst (pa_cons (pe_op op_sub (pe_callB call_len_seq (by rfl) b_len (by decide +kernel) (pa_cons (pe_fld (pv 0) rfl) pa_nil)) pe_int) pa_nil)))))))), ?_⟩
    obtain ⟨ys, hyl, hy⟩ := hm.sq
    refine q_par3 (ea_cons (ev_pt (j := 0) hp (ev_var rfl) ev_c rfl rfl) (ea_cons (ev_pt (j := 1) hp (ev_var rfl) ev_c rfl rfl) (ea_cons (ev_pt (j := 2) hp (ev_var rfl) ev_c rfl rfl) ea_nil))) fun H1 e1 => ?_
    refine q_when (et_or (et_not (et_B (ev_fn (ea_cons (ev_var rfl) ea_nil) fun H2 e2 => ⟨po, rfl, rfl⟩))) (fun _ => et_or (et_not (et_B (ev_fn (ea_cons (ev_var rfl) ea_nil) fun H2 e2 => ⟨r, rfl, rfl⟩))) (fun _ => et_not (et_B (ev_fn (ea_cons (ev_var rfl) ea_nil) fun H2 e2 => ⟨se, rfl, rfl⟩))))) (fun hb H2 e2 => ?_) (fun hb H2 e2 => ?_)
    · have ep := add_bad (ws := ws) hb
      refine s_retL (el_lst (ea_cons ev_c ea_nil) (by show 1 ≤ 100000; decide)) fun p H3 h3 e3 g3 => k.same hw hm (by unfold newW; rw [ep]; rfl) (fresh_back (e1.trans e2) h3) ((e1.trans e2).trans e3) ?_
      rw [g3]
      unfold ans
      rw [ep]
      rfl
    · have ep := add_ok (ws := ws) hb
      have e12 := e1.trans e2
      refine q_when (b := decide (6 ≤ ws.length)) (et_is (et_test (ev_op (ev_len (ev_wm (hw.mono e12) (ev_var rfl)) (sq_of (e12 _ _ hy))) ev_c (rv_eq rfl))) (decide_eq_decide.mpr (by
        rw [hyl]
        have := V0.len
        refine ⟨fun w0 => ?_, fun w0 => ?_⟩
        · have := V.int.inj w0
          omega
        · have : ws.length = 6 := by omega
          rw [this]
          rfl))) (fun hb3 H3 e3 => ?_) (fun hb3 H3 e3 => ?_)
      · rw [if_pos (of_decide_eq_true hb3)] at ep
        refine s_retL (el_lst (ea_cons ev_c ea_nil) (by show 1 ≤ 100000; decide)) fun p H4 h4 e4 g4 => k.same hw hm (by unfold newW; rw [ep]; rfl) (fresh_back (e12.trans e3) h4) ((e12.trans e3).trans e4) ?_
        rw [g4]
        unfold ans
        rw [ep]
        rfl
      · rw [if_neg (of_decide_eq_false hb3)] at ep
        rw [Bool.or_eq_false_iff, Bool.or_eq_false_iff] at hb
        have b1 := len_iff.mp (not_false' hb.1)
        have b2 := len_iff.mp (not_false' hb.2.1)
        have b3 := serv_iff.mp (not_false' hb.2.2)
        have e13 := e12.trans e3
        have en : newW ws (.addMachine po r se) = ws ++ [⟨po.toNat, r.toNat, se.toNat⟩] := by
          unfold newW
          rw [ep]
          rfl
        have em : mV ⟨po.toNat, r.toNat, se.toNat⟩ = [.int po, .int r, .int se] := by
          unfold mV
          dsimp only
          rw [Int.toNat_of_nonneg b1.1, Int.toNat_of_nonneg b2.1, Int.toNat_of_nonneg (by omega)]
        refine q_wall (ws := ws ++ [⟨po.toNat, r.toNat, se.toNat⟩]) (ep_push (hm.mono e13) V0.len (ev_wm (hw.mono e13) (ev_var rfl)) (by rw [em]; exact eu_tup (ea_cons (ev_var rfl) (ea_cons (ev_var rfl) (ea_cons (ev_var rfl) ea_nil))) (by show 3 ≤ 100000; decide))) (ev_var rfl) (hw.mono e13) ?_
        intro l2 H4 C dx e4 hn hm4 c1 c2 c3
        obtain ⟨zs, hzl, hz⟩ := (hm4.upd_ins (o := .ins C dx [("machines", .ref l2)]) c3).sq
        refine s_retL (el_lst (ea_cons (ev_op (ev_len (ev_wm ⟨C, dx, c1, c2, upd_same⟩ (ev_var rfl)) (sq_of hz)) ev_c rv_I0) ea_nil) (by show 1 ≤ 100000; decide)) fun p H5 h5 e5 g5 => k.done (e13.trans e4) (fresh_back e13 hn) (by rw [en]; exact hm4) c1 c2 c3 h5 e5 ?_
        rw [g5]
        unfold ans
        rw [ep, hzl, List.length_append]
        show some (HO.lst [V.int (((ws.length + 1 : Nat) : Int) - 1)]) = some (HO.lst [V.int (ws.length : Int)])
        have e9 : ((ws.length + 1 : Nat) : Int) - 1 = (ws.length : Int) := by omega
        rw [e9]
def sp_remove_machine (K : PySem.W.Frag) : Sp := spD K fun xs c => ∃ i : Int, xs = [.int i] ∧ c = .removeMachine i
theorem rem_is {ws : Sr120.Workshop} {i : Int} : Sr120.perform ws (.removeMachine i) = if SrCommon.isIndex i ws.length = false then (none, ⟨-2, []⟩) else (some (ws.eraseIdx i.toNat), ⟨((ws.length - 1 : Nat) : Int), []⟩) := by
  have e : Sr120.isMachine ws i = SrCommon.isIndex i ws.length := rfl
  unfold Sr120.perform
  dsimp only
  rw [e]
  rfl
abbrev st_remove_machine : Stmt := top 35
abbrev N_remove_machine : List Str := ["wall", "parts", "index"]
theorem sc_remove_machine : FnScope N_remove_machine ["wall", "parts"] (defScope st_remove_machine) := ⟨rfl, rfl, rfl, by decide +kernel, rfl, by decide +kernel, by decide +kernel⟩
theorem ok_remove_machine (D0 : DefAt K mg "remove_machine" st_remove_machine ["wall", "parts"]) (c_NO_MACHINE : CI mg "NO_MACHINE" (-2)) (b_len : mg "len" = none) (f_has_machine : Fn P w K mg base "has_machine" 1 (sp_has_machine K))  : Fn P w K mg base "remove_machine" 2 (sp_remove_machine K) := by
  refine D0.fn fun f fd F => F.ok sc_remove_machine (fun vs H Q E h => ?_) (fun cdv A outer s H vs Q E hr h => ?_)
  · exact h.len
  · obtain ⟨a, l, pp, ws, xs, c, ⟨rfl, hw, hm, hp, V0⟩, ⟨i, rfl, rfl⟩, k⟩ := h
    refine ⟨_, (pss_cons (ps_set (i := 2) sc_remove_machine.nd rfl (Or.inl rfl) (pe_ix (r := rIxL K) ix_list (pv 1) pe_int (fun _ _ => rfl))) (pss_cons (ps_if (pt_not (pt_val (pe_fn f_has_machine hr (by decide) rfl (pa_cons (pe_fld (pv 0) rfl) (pa_cons (pv 2) pa_nil))))) (pss_one (ps_ret (pe_lst (pa_cons (pe_ci c_NO_MACHINE rfl) pa_nil)))) pss_nil) (pss_cons (ps_fld (pv 0) (pe_op op_cat (pe_slice sl_list (pe_fld (pv 0) rfl) po_none (po_some (pv 2))) (pe_slice sl_list (pe_fld (pv 0) rfl) (po_some (pe_op op_add (pv 2) pe_int)) po_none)) rfl) (pss_one (ps_ret (pe_lst (pa_cons (pe_callB call_len_seq (by rfl) b_len (by decide +kernel) (pa_cons (pe_fld (pv 0) rfl) pa_nil)) pa_nil))))))), ?_⟩
    have ep := rem_is (ws := ws) (i := i)
    refine q_asg (ev_pt (j := 0) hp (ev_var rfl) ev_c rfl rfl) fun H1 e1 => ?_
    refine q_when (et_not (et_B (ev_has (hm.mono e1) (ev_wm (hw.mono e1) (ev_var rfl)) (ev_var rfl)))) (fun hb H2 e2 => ?_) (fun hb H2 e2 => ?_)
    · rw [if_pos (not_true hb)] at ep
      refine s_retL (el_lst (ea_cons ev_c ea_nil) (by show 1 ≤ 100000; decide)) fun p H3 h3 e3 g3 => k.same hw hm (by unfold newW; rw [ep]; rfl) (fresh_back (e1.trans e2) h3) ((e1.trans e2).trans e3) ?_
      rw [g3]
      unfold ans
      rw [ep]
      rfl
    · have hg := not_false' hb
      obtain ⟨ei, hi⟩ := index_nat hg
      rw [if_neg (by rw [hg]; decide)] at ep
      have e12 := e1.trans e2
      have en : newW ws (.removeMachine i) = ws.eraseIdx i.toNat := by
        unfold newW
        rw [ep]
        rfl
      refine q_wall (ws := ws.eraseIdx i.toNat) (ep_erase (hm.mono e12) V0.len (ev_wm (hw.mono e12) (ev_var rfl)) (ev_is (ev_var rfl) (congrArg V.int ei)) (ev_wm (hw.mono e12) (ev_var rfl)) (ev_is (ev_op (ev_var rfl) ev_c rv_I0) (congrArg V.int (show i + 1 = ((i.toNat : Nat) : Int) + 1 by omega)))) (ev_var rfl) (hw.mono e12) ?_
      intro l2 H4 C dx e4 hn hm4 c1 c2 c3
      obtain ⟨zs, hzl, hz⟩ := (hm4.upd_ins (o := .ins C dx [("machines", .ref l2)]) c3).sq
      refine s_retL (el_lst (ea_cons (ev_len (ev_wm ⟨C, dx, c1, c2, upd_same⟩ (ev_var rfl)) (sq_of hz)) ea_nil) (by show 1 ≤ 100000; decide)) fun p H5 h5 e5 g5 => k.done (e12.trans e4) (fresh_back e12 hn) (by rw [en]; exact hm4) c1 c2 c3 h5 e5 ?_
      rw [g5]
      unfold ans
      rw [ep, hzl, List.length_eraseIdx_of_lt hi]
      rfl
def sp_set_position (K : PySem.W.Frag) : Sp := spD K fun xs c => ∃ i t : Int, xs = [.int i, .int t] ∧ c = .setPosition i t
theorem setp_is {ws : Sr120.Workshop} {i t : Int} : Sr120.perform ws (.setPosition i t) = if SrCommon.isIndex i ws.length = false then (none, ⟨-2, []⟩) else if Sr120.isLength t = false then (none, ⟨-22, []⟩) else (some (ws.set i.toNat { Sr120.machineAt ws i.toNat with position := t.toNat }), ⟨((Sr120.machineAt ws i.toNat).position : Int), []⟩) := by
  have e : Sr120.isMachine ws i = SrCommon.isIndex i ws.length := rfl
  unfold Sr120.perform
  dsimp only
  rw [e]
  rfl
abbrev st_set_position : Stmt := top 36
abbrev N_set_position : List Str := ["wall", "parts", "index", "position", "former", "machine"]
theorem sc_set_position : FnScope N_set_position ["wall", "parts"] (defScope st_set_position) := ⟨rfl, rfl, rfl, by decide +kernel, rfl, by decide +kernel, by decide +kernel⟩
theorem ok_set_position (D0 : DefAt K mg "set_position" st_set_position ["wall", "parts"]) (c_NO_MACHINE : CI mg "NO_MACHINE" (-2)) (c_OUT_OF_RANGE : CI mg "OUT_OF_RANGE" (-22)) (f_with_machine : Fn P w K mg base "with_machine" 1 (sp_with_machine K)) (f_has_machine : Fn P w K mg base "has_machine" 1 (sp_has_machine K)) (f_is_position : Fn P w K mg base "is_position" 2 (sp_is_position K)) (f_run_time_of : Fn P w K mg base "run_time_of" 1 (sp_run_time_of K)) (f_service_time_of : Fn P w K mg base "service_time_of" 1 (sp_service_time_of K)) (f_position_of : Fn P w K mg base "position_of" 1 (sp_position_of K))  : Fn P w K mg base "set_position" 3 (sp_set_position K) := by
  refine D0.fn fun f fd F => F.ok sc_set_position (fun vs H Q E h => ?_) (fun cdv A outer s H vs Q E hr h => ?_)
  · exact h.len
  · obtain ⟨a, l, pp, ws, xs, c, ⟨rfl, hw, hm, hp, V0⟩, ⟨i, t, rfl, rfl⟩, k⟩ := h
    refine ⟨_, (pss_cons (ps_par (i := 2) (j := 3) rfl sc_set_position.nd rfl rfl (by decide) rfl rfl (pa_cons (pe_ix (r := rIxL K) ix_list (pv 1) pe_int (fun _ _ => rfl)) (pa_cons (pe_ix (r := rIxL K) ix_list (pv 1) pe_int (fun _ _ => rfl)) pa_nil)) (by rfl)) (pss_cons (ps_if (pt_not (pt_val (pe_fn f_has_machine hr (by decide) rfl (pa_cons (pe_fld (pv 0) rfl) (pa_cons (pv 2) pa_nil))))) (pss_one (ps_ret (pe_lst (pa_cons (pe_ci c_NO_MACHINE rfl) pa_nil)))) pss_nil) (pss_cons (ps_if (pt_not (pt_val (pe_fn f_is_position hr (by decide) rfl (pa_cons (pv 3) pa_nil)))) (pss_one (ps_ret (pe_lst (pa_cons (pe_ci c_OUT_OF_RANGE rfl) pa_nil)))) pss_nil) (pss_cons (ps_set (i := 4) sc_set_position.nd rfl (Or.inl rfl) (pe_ix (r := rIxL K) ix_list (pe_fld (pv 0) rfl) (pv 2) (fun _ _ => rfl))) (pss_cons (ps_set (i := 5) sc_set_position.nd rfl (Or.inl rfl) (pe_tup (pa_cons (pv 3) (pa_cons (pe_fn f_run_time_of hr (by decide) rfl (pa_cons (pv 4) pa_nil)) (pa_cons (pe_fn f_service_time_of hr (by decide) rfl (pa_cons (pv 4) pa_nil)) pa_nil))))) (pss_cons (ps_fld (pv 0) (pe_fn f_with_machine hr (by decide) rfl (pa_cons (pe_fld (pv 0) rfl) (pa_cons (pv 2) (pa_cons (pv 5) pa_nil)))) rfl) (pss_one (ps_ret (pe_lst (pa_cons (pe_fn f_position_of hr (by decide) rfl (pa_cons (pv 4) pa_nil)) pa_nil)))))))))), ?_⟩
    have ep := setp_is (ws := ws) (i := i) (t := t)
    refine q_par (ea_cons (ev_pt (j := 0) hp (ev_var rfl) ev_c rfl rfl) (ea_cons (ev_pt (j := 1) hp (ev_var rfl) ev_c rfl rfl) ea_nil)) fun H1 e1 => ?_
    refine q_when (et_not (et_B (ev_has (hm.mono e1) (ev_wm (hw.mono e1) (ev_var rfl)) (ev_var rfl)))) (fun hb H2 e2 => ?_) (fun hb H2 e2 => ?_)
    · rw [if_pos (not_true hb)] at ep
      refine s_retL (el_lst (ea_cons ev_c ea_nil) (by show 1 ≤ 100000; decide)) fun p H3 h3 e3 g3 => k.same hw hm (by unfold newW; rw [ep]; rfl) (fresh_back (e1.trans e2) h3) ((e1.trans e2).trans e3) ?_
      rw [g3]
      unfold ans
      rw [ep]
      rfl
    · have hg := not_false' hb
      obtain ⟨ei, hi⟩ := index_nat hg
      rw [if_neg (by rw [hg]; decide)] at ep
      refine q_when (et_not (et_B (ev_fn (ea_cons (ev_var rfl) ea_nil) fun H3 e3 => ⟨t, rfl, rfl⟩))) (fun hb3 H3 e3 => ?_) (fun hb3 H3 e3 => ?_)
      · rw [if_pos (not_true hb3)] at ep
        refine s_retL (el_lst (ea_cons ev_c ea_nil) (by show 1 ≤ 100000; decide)) fun p H4 h4 e4 g4 => k.same hw hm (by unfold newW; rw [ep]; rfl) (fresh_back ((e1.trans e2).trans e3) h4) (((e1.trans e2).trans e3).trans e4) ?_
        rw [g4]
        unfold ans
        rw [ep]
        rfl
      · have hg3 := not_false' hb3
        rw [if_neg (by rw [hg3]; decide)] at ep
        have ht := len_iff.mp hg3
        have e13 := (e1.trans e2).trans e3
        obtain ⟨ys, r, a1, a2, a3, a4⟩ := (hm.mono e13).get hi
        refine q_asg (ev_op (ev_wm (hw.mono e13) (ev_var rfl)) (ev_is (ev_var rfl) (congrArg V.int ei)) (rv_ixL (sq_of a1) (atI_nat a3))) fun H4 e4 => ?_
        have e14 := e13.trans e4
        refine q_asgU (xs := mV { Sr120.machineAt ws i.toNat with position := t.toNat }) (by
          have em : mV { Sr120.machineAt ws i.toNat with position := t.toNat } = [.int t, .int ((Sr120.machineAt ws i.toNat).runTime : Int), .int ((Sr120.machineAt ws i.toNat).serviceTime : Int)] := by
            unfold mV
            dsimp only
            rw [Int.toNat_of_nonneg ht.1]
          rw [em]
          exact eu_tup (ea_cons (ev_var rfl) (ea_cons (ev_fn (ea_cons (ev_var rfl) ea_nil) fun H5 e5 => ⟨r, _, rfl, (e4.trans e5) _ _ a4, rfl⟩) (ea_cons (ev_fn (ea_cons (ev_var rfl) ea_nil) fun H5 e5 => ⟨r, _, rfl, (e4.trans e5) _ _ a4, rfl⟩) ea_nil))) (by show 3 ≤ 100000; decide)) fun q H5 hq e5 h5 => ?_
        have e15 := e14.trans e5
        have en : newW ws (.setPosition i t) = ws.set i.toNat { Sr120.machineAt ws i.toNat with position := t.toNat } := by
          unfold newW
          rw [ep]
          rfl
        refine q_wall (ep_with (m := { Sr120.machineAt ws i.toNat with position := t.toNat }) (hm.mono e15) V0.len hi (ev_wm (hw.mono e15) (ev_var rfl)) (ev_is (ev_var rfl) (congrArg V.int ei)) (fun H6 e6 Q6 k6 => by exact ⟨_, rfl, k6 _ H6 (Ex.refl _) ⟨q, rfl, e6 _ _ h5⟩⟩)) (ev_var rfl) (hw.mono e15) ?_
        intro l2 H6 C dx e6 hn hm6 c1 c2 c3
        have hr6 : (upd H6 a (.ins C dx [("machines", .ref l2)])) r = some (.tup (mV (Sr120.machineAt ws i.toNat))) := by
          have := ((e4.trans e5).trans e6) _ _ a4
          rw [upd_ne (ne_of this c3 (by intro z; cases z))]
          exact this
        refine s_retL (el_lst (ea_cons (ev_fn (ea_cons (ev_var rfl) ea_nil) fun H7 e7 => ⟨r, _, rfl, e7 _ _ hr6, rfl⟩) ea_nil) (by show 1 ≤ 100000; decide)) fun p H7 h7 e7 g7 => k.done (e15.trans e6) (fresh_back e15 hn) (by rw [en]; exact hm6) c1 c2 c3 h7 e7 ?_
        rw [g7]
        unfold ans
        rw [ep]
        rfl
def sp_set_service_time (K : PySem.W.Frag) : Sp := spD K fun xs c => ∃ i t : Int, xs = [.int i, .int t] ∧ c = .setServiceTime i t
theorem sets_is {ws : Sr120.Workshop} {i t : Int} : Sr120.perform ws (.setServiceTime i t) = if SrCommon.isIndex i ws.length = false then (none, ⟨-2, []⟩) else if Sr120.isServiceTime t = false then (none, ⟨-22, []⟩) else (some (ws.set i.toNat { Sr120.machineAt ws i.toNat with serviceTime := t.toNat }), ⟨((Sr120.machineAt ws i.toNat).serviceTime : Int), []⟩) := by
  have e : Sr120.isMachine ws i = SrCommon.isIndex i ws.length := rfl
  unfold Sr120.perform
  dsimp only
  rw [e]
  rfl
abbrev st_set_service_time : Stmt := top 38
abbrev N_set_service_time : List Str := ["wall", "parts", "index", "service_time", "former", "machine"]
theorem sc_set_service_time : FnScope N_set_service_time ["wall", "parts"] (defScope st_set_service_time) := ⟨rfl, rfl, rfl, by decide +kernel, rfl, by decide +kernel, by decide +kernel⟩
theorem ok_set_service_time (D0 : DefAt K mg "set_service_time" st_set_service_time ["wall", "parts"]) (c_NO_MACHINE : CI mg "NO_MACHINE" (-2)) (c_OUT_OF_RANGE : CI mg "OUT_OF_RANGE" (-22)) (f_with_machine : Fn P w K mg base "with_machine" 1 (sp_with_machine K)) (f_has_machine : Fn P w K mg base "has_machine" 1 (sp_has_machine K)) (f_is_service_time : Fn P w K mg base "is_service_time" 2 (sp_is_service_time K)) (f_position_of : Fn P w K mg base "position_of" 1 (sp_position_of K)) (f_run_time_of : Fn P w K mg base "run_time_of" 1 (sp_run_time_of K)) (f_service_time_of : Fn P w K mg base "service_time_of" 1 (sp_service_time_of K))  : Fn P w K mg base "set_service_time" 3 (sp_set_service_time K) := by
  refine D0.fn fun f fd F => F.ok sc_set_service_time (fun vs H Q E h => ?_) (fun cdv A outer s H vs Q E hr h => ?_)
  · exact h.len
  · obtain ⟨a, l, pp, ws, xs, c, ⟨rfl, hw, hm, hp, V0⟩, ⟨i, t, rfl, rfl⟩, k⟩ := h
    refine ⟨_, (pss_cons (ps_par (i := 2) (j := 3) rfl sc_set_service_time.nd rfl rfl (by decide) rfl rfl (pa_cons (pe_ix (r := rIxL K) ix_list (pv 1) pe_int (fun _ _ => rfl)) (pa_cons (pe_ix (r := rIxL K) ix_list (pv 1) pe_int (fun _ _ => rfl)) pa_nil)) (by rfl)) (pss_cons (ps_if (pt_not (pt_val (pe_fn f_has_machine hr (by decide) rfl (pa_cons (pe_fld (pv 0) rfl) (pa_cons (pv 2) pa_nil))))) (pss_one (ps_ret (pe_lst (pa_cons (pe_ci c_NO_MACHINE rfl) pa_nil)))) pss_nil) (pss_cons (ps_if (pt_not (pt_val (pe_fn f_is_service_time hr (by decide) rfl (pa_cons (pv 3) pa_nil)))) (pss_one (ps_ret (pe_lst (pa_cons (pe_ci c_OUT_OF_RANGE rfl) pa_nil)))) pss_nil) (pss_cons (ps_set (i := 4) sc_set_service_time.nd rfl (Or.inl rfl) (pe_ix (r := rIxL K) ix_list (pe_fld (pv 0) rfl) (pv 2) (fun _ _ => rfl))) (pss_cons (ps_set (i := 5) sc_set_service_time.nd rfl (Or.inl rfl) (pe_tup (pa_cons (pe_fn f_position_of hr (by decide) rfl (pa_cons (pv 4) pa_nil)) (pa_cons (pe_fn f_run_time_of hr (by decide) rfl (pa_cons (pv 4) pa_nil)) (pa_cons (pv 3) pa_nil))))) (pss_cons (ps_fld (pv 0) (pe_fn f_with_machine hr (by decide) rfl (pa_cons (pe_fld (pv 0) rfl) (pa_cons (pv 2) (pa_cons (pv 5) pa_nil)))) rfl) (pss_one (ps_ret (pe_lst (pa_cons (pe_fn f_service_time_of hr (by decide) rfl (pa_cons (pv 4) pa_nil)) pa_nil)))))))))), ?_⟩
    have ep := sets_is (ws := ws) (i := i) (t := t)
    refine q_par (ea_cons (ev_pt (j := 0) hp (ev_var rfl) ev_c rfl rfl) (ea_cons (ev_pt (j := 1) hp (ev_var rfl) ev_c rfl rfl) ea_nil)) fun H1 e1 => ?_
    refine q_when (et_not (et_B (ev_has (hm.mono e1) (ev_wm (hw.mono e1) (ev_var rfl)) (ev_var rfl)))) (fun hb H2 e2 => ?_) (fun hb H2 e2 => ?_)
    · rw [if_pos (not_true hb)] at ep
      refine s_retL (el_lst (ea_cons ev_c ea_nil) (by show 1 ≤ 100000; decide)) fun p H3 h3 e3 g3 => k.same hw hm (by unfold newW; rw [ep]; rfl) (fresh_back (e1.trans e2) h3) ((e1.trans e2).trans e3) ?_
      rw [g3]
      unfold ans
      rw [ep]
      rfl
    · have hg := not_false' hb
      obtain ⟨ei, hi⟩ := index_nat hg
      rw [if_neg (by rw [hg]; decide)] at ep
      refine q_when (et_not (et_B (ev_fn (ea_cons (ev_var rfl) ea_nil) fun H3 e3 => ⟨t, rfl, rfl⟩))) (fun hb3 H3 e3 => ?_) (fun hb3 H3 e3 => ?_)
      · rw [if_pos (not_true hb3)] at ep
        refine s_retL (el_lst (ea_cons ev_c ea_nil) (by show 1 ≤ 100000; decide)) fun p H4 h4 e4 g4 => k.same hw hm (by unfold newW; rw [ep]; rfl) (fresh_back ((e1.trans e2).trans e3) h4) (((e1.trans e2).trans e3).trans e4) ?_
        rw [g4]
        unfold ans
        rw [ep]
        rfl
      · have hg3 := not_false' hb3
        rw [if_neg (by rw [hg3]; decide)] at ep
        have ht := serv_iff.mp hg3
        have e13 := (e1.trans e2).trans e3
        obtain ⟨ys, r, a1, a2, a3, a4⟩ := (hm.mono e13).get hi
        refine q_asg (ev_op (ev_wm (hw.mono e13) (ev_var rfl)) (ev_is (ev_var rfl) (congrArg V.int ei)) (rv_ixL (sq_of a1) (atI_nat a3))) fun H4 e4 => ?_
        have e14 := e13.trans e4
        refine q_asgU (xs := mV { Sr120.machineAt ws i.toNat with serviceTime := t.toNat }) (by
          have em : mV { Sr120.machineAt ws i.toNat with serviceTime := t.toNat } = [.int ((Sr120.machineAt ws i.toNat).position : Int), .int ((Sr120.machineAt ws i.toNat).runTime : Int), .int t] := by
            unfold mV
            dsimp only
            rw [Int.toNat_of_nonneg (by omega)]
          rw [em]
          exact eu_tup (ea_cons (ev_fn (ea_cons (ev_var rfl) ea_nil) fun H5 e5 => ⟨r, _, rfl, (e4.trans e5) _ _ a4, rfl⟩) (ea_cons (ev_fn (ea_cons (ev_var rfl) ea_nil) fun H5 e5 => ⟨r, _, rfl, (e4.trans e5) _ _ a4, rfl⟩) (ea_cons (ev_var rfl) ea_nil))) (by show 3 ≤ 100000; decide)) fun q H5 hq e5 h5 => ?_
        have e15 := e14.trans e5
        have en : newW ws (.setServiceTime i t) = ws.set i.toNat { Sr120.machineAt ws i.toNat with serviceTime := t.toNat } := by
          unfold newW
          rw [ep]
          rfl
        refine q_wall (ep_with (m := { Sr120.machineAt ws i.toNat with serviceTime := t.toNat }) (hm.mono e15) V0.len hi (ev_wm (hw.mono e15) (ev_var rfl)) (ev_is (ev_var rfl) (congrArg V.int ei)) (fun H6 e6 Q6 k6 => by exact ⟨_, rfl, k6 _ H6 (Ex.refl _) ⟨q, rfl, e6 _ _ h5⟩⟩)) (ev_var rfl) (hw.mono e15) ?_
        intro l2 H6 C dx e6 hn hm6 c1 c2 c3
        have hr6 : (upd H6 a (.ins C dx [("machines", .ref l2)])) r = some (.tup (mV (Sr120.machineAt ws i.toNat))) := by
          have := ((e4.trans e5).trans e6) _ _ a4
          rw [upd_ne (ne_of this c3 (by intro z; cases z))]
          exact this
        refine s_retL (el_lst (ea_cons (ev_fn (ea_cons (ev_var rfl) ea_nil) fun H7 e7 => ⟨r, _, rfl, e7 _ _ hr6, rfl⟩) ea_nil) (by show 1 ≤ 100000; decide)) fun p H7 h7 e7 g7 => k.done (e15.trans e6) (fresh_back e15 hn) (by rw [en]; exact hm6) c1 c2 c3 h7 e7 ?_
        rw [g7]
        unfold ans
        rw [ep]
        rfl
def sp_set_run_time (K : PySem.W.Frag) : Sp := spD K fun xs c => ∃ i t : Int, xs = [.int i, .int t] ∧ c = .setRunTime i t
theorem setr_is {ws : Sr120.Workshop} {i t : Int} : Sr120.perform ws (.setRunTime i t) = if SrCommon.isIndex i ws.length = false then (none, ⟨-2, []⟩) else if Sr120.isLength t = false then (none, ⟨-22, []⟩) else (some (ws.set i.toNat { Sr120.machineAt ws i.toNat with runTime := t.toNat }), ⟨((Sr120.machineAt ws i.toNat).runTime : Int), []⟩) := by
  have e : Sr120.isMachine ws i = SrCommon.isIndex i ws.length := rfl
  unfold Sr120.perform
  dsimp only
  rw [e]
  rfl
abbrev st_set_run_time : Stmt := top 37
abbrev N_set_run_time : List Str := ["wall", "parts", "index", "run_time", "former"]
theorem sc_set_run_time : FnScope N_set_run_time ["wall", "parts"] (defScope st_set_run_time) := ⟨rfl, rfl, rfl, by decide +kernel, rfl, by decide +kernel, by decide +kernel⟩
theorem ok_set_run_time (D0 : DefAt K mg "set_run_time" st_set_run_time ["wall", "parts"]) (c_NO_MACHINE : CI mg "NO_MACHINE" (-2)) (c_OUT_OF_RANGE : CI mg "OUT_OF_RANGE" (-22)) (f_with_machine : Fn P w K mg base "with_machine" 1 (sp_with_machine K)) (f_has_machine : Fn P w K mg base "has_machine" 1 (sp_has_machine K)) (f_is_run_time : Fn P w K mg base "is_run_time" 2 (sp_is_run_time K)) (f_with_run_time : Fn P w K mg base "with_run_time" 2 (sp_with_run_time K)) (f_run_time_of : Fn P w K mg base "run_time_of" 1 (sp_run_time_of K))  : Fn P w K mg base "set_run_time" 3 (sp_set_run_time K) := by
  refine D0.fn fun f fd F => F.ok sc_set_run_time (fun vs H Q E h => ?_) (fun cdv A outer s H vs Q E hr h => ?_)
  · exact h.len
  · obtain ⟨a, l, pp, ws, xs, c, ⟨rfl, hw, hm, hp, V0⟩, ⟨i, t, rfl, rfl⟩, k⟩ := h
    refine ⟨_, (pss_cons (ps_par (i := 2) (j := 3) rfl sc_set_run_time.nd rfl rfl (by decide) rfl rfl (pa_cons (pe_ix (r := rIxL K) ix_list (pv 1) pe_int (fun _ _ => rfl)) (pa_cons (pe_ix (r := rIxL K) ix_list (pv 1) pe_int (fun _ _ => rfl)) pa_nil)) (by rfl)) (pss_cons (ps_if (pt_not (pt_val (pe_fn f_has_machine hr (by decide) rfl (pa_cons (pe_fld (pv 0) rfl) (pa_cons (pv 2) pa_nil))))) (pss_one (ps_ret (pe_lst (pa_cons (pe_ci c_NO_MACHINE rfl) pa_nil)))) pss_nil) (pss_cons (ps_if (pt_not (pt_val (pe_fn f_is_run_time hr (by decide) rfl (pa_cons (pv 3) pa_nil)))) (pss_one (ps_ret (pe_lst (pa_cons (pe_ci c_OUT_OF_RANGE rfl) pa_nil)))) pss_nil) (pss_cons (ps_set (i := 4) sc_set_run_time.nd rfl (Or.inl rfl) (pe_ix (r := rIxL K) ix_list (pe_fld (pv 0) rfl) (pv 2) (fun _ _ => rfl))) (pss_cons (ps_fld (pv 0) (pe_fn f_with_machine hr (by decide) rfl (pa_cons (pe_fld (pv 0) rfl) (pa_cons (pv 2) (pa_cons (pe_fn f_with_run_time hr (by decide) rfl (pa_cons (pv 4) (pa_cons (pv 3) pa_nil))) pa_nil)))) rfl) (pss_one (ps_ret (pe_lst (pa_cons (pe_fn f_run_time_of hr (by decide) rfl (pa_cons (pv 4) pa_nil)) pa_nil))))))))), ?_⟩
    have ep := setr_is (ws := ws) (i := i) (t := t)
    refine q_par (ea_cons (ev_pt (j := 0) hp (ev_var rfl) ev_c rfl rfl) (ea_cons (ev_pt (j := 1) hp (ev_var rfl) ev_c rfl rfl) ea_nil)) fun H1 e1 => ?_
    refine q_when (et_not (et_B (ev_has (hm.mono e1) (ev_wm (hw.mono e1) (ev_var rfl)) (ev_var rfl)))) (fun hb H2 e2 => ?_) (fun hb H2 e2 => ?_)
    · rw [if_pos (not_true hb)] at ep
      refine s_retL (el_lst (ea_cons ev_c ea_nil) (by show 1 ≤ 100000; decide)) fun p H3 h3 e3 g3 => k.same hw hm (by unfold newW; rw [ep]; rfl) (fresh_back (e1.trans e2) h3) ((e1.trans e2).trans e3) ?_
      rw [g3]
      unfold ans
      rw [ep]
      rfl
    · have hg := not_false' hb
      obtain ⟨ei, hi⟩ := index_nat hg
      rw [if_neg (by rw [hg]; decide)] at ep
      refine q_when (et_not (et_B (ev_fn (ea_cons (ev_var rfl) ea_nil) fun H3 e3 => ⟨t, rfl, rfl⟩))) (fun hb3 H3 e3 => ?_) (fun hb3 H3 e3 => ?_)
      · rw [if_pos (not_true hb3)] at ep
        refine s_retL (el_lst (ea_cons ev_c ea_nil) (by show 1 ≤ 100000; decide)) fun p H4 h4 e4 g4 => k.same hw hm (by unfold newW; rw [ep]; rfl) (fresh_back ((e1.trans e2).trans e3) h4) (((e1.trans e2).trans e3).trans e4) ?_
        rw [g4]
        unfold ans
        rw [ep]
        rfl
      · have hg3 := not_false' hb3
        rw [if_neg (by rw [hg3]; decide)] at ep
        have ht := len_iff.mp hg3
        have et : t = ((t.toNat : Nat) : Int) := by omega
        have e13 := (e1.trans e2).trans e3
        obtain ⟨ys, r, a1, a2, a3, a4⟩ := (hm.mono e13).get hi
        refine q_asg (ev_op (ev_wm (hw.mono e13) (ev_var rfl)) (ev_is (ev_var rfl) (congrArg V.int ei)) (rv_ixL (sq_of a1) (atI_nat a3))) fun H4 e4 => ?_
        have e14 := e13.trans e4
        have en : newW ws (.setRunTime i t) = ws.set i.toNat { Sr120.machineAt ws i.toNat with runTime := t.toNat } := by
          unfold newW
          rw [ep]
          rfl
        refine q_wall (ep_with (m := { Sr120.machineAt ws i.toNat with runTime := t.toNat }) (hm.mono e14) V0.len hi (ev_wm (hw.mono e14) (ev_var rfl)) (ev_is (ev_var rfl) (congrArg V.int ei)) (ep_fn (ea_cons (ev_var rfl) (ea_cons (ev_is (ev_var rfl) (congrArg V.int et)) ea_nil)) fun H6 e6 => ⟨r, _, t.toNat, rfl, (e4.trans e6) _ _ a4, rfl⟩)) (ev_var rfl) (hw.mono e14) ?_
        intro l2 H6 C dx e6 hn hm6 c1 c2 c3
        have hr6 : (upd H6 a (.ins C dx [("machines", .ref l2)])) r = some (.tup (mV (Sr120.machineAt ws i.toNat))) := by
          have := (e4.trans e6) _ _ a4
          rw [upd_ne (ne_of this c3 (by intro z; cases z))]
          exact this
        refine s_retL (el_lst (ea_cons (ev_fn (ea_cons (ev_var rfl) ea_nil) fun H7 e7 => ⟨r, _, rfl, e7 _ _ hr6, rfl⟩) ea_nil) (by show 1 ≤ 100000; decide)) fun p H7 h7 e7 g7 => k.done (e14.trans e6) (fresh_back e14 hn) (by rw [en]; exact hm6) c1 c2 c3 h7 e7 ?_
        rw [g7]
        unfold ans
        rw [ep]
        rfl
end
end Tw
namespace Tw
open PySem PySem.Spec PyProof.Rows L2 Evl
section
variable {P : Program} {w : World} {K : PySem.W.Frag} {mg : Str → Option Value} {base : Heap}
/-! ### the calls, read off one list -/
def NewL (H0 : Hp) (xs : List V) : V → Hp → Prop := fun v H => ∃ r, v = .ref r ∧ H0 r = none ∧ H r = some (.lst xs)
def sp_place_behind (K : PySem.W.Frag) : Sp := spV fun vs H z => ∃ (n : Addr) (l : List Int) (k : Nat) (s : Int), vs = [.ref n, .int (k : Int), .int s] ∧ SqL K H n (l.map V.int) ∧ ((s = 0 ∧ z = .int ((k + 1 : Nat) : Int)) ∨ (s = 1 ∧ ∃ x : Nat, l[k]? = some (x : Int) ∧ z = .int ((k + 1 + x : Nat) : Int)))
abbrev st_place_behind : Stmt := top 5
abbrev N_place_behind : List Str := ["numbers", "at", "shape"]
theorem sc_place_behind : FnScope N_place_behind ["numbers", "at", "shape"] (defScope st_place_behind) := ⟨rfl, rfl, rfl, by decide +kernel, rfl, by decide +kernel, by decide +kernel⟩
theorem ok_place_behind (D0 : DefAt K mg "place_behind" st_place_behind ["numbers", "at", "shape"]) (c_NUMBER : CI mg "NUMBER" (0))  : Fn P w K mg base "place_behind" 1 (sp_place_behind K) := by
  refine D0.fn fun f fd F => F.ok sc_place_behind (fun vs H Q E h => ?_) (fun cdv A outer s H vs Q E hr h => ?_)
  · obtain ⟨z, H0, e0, ⟨n, l, k, s, rfl, _⟩, q⟩ := h; rfl
  · obtain ⟨z, H0, e0, ⟨n, l, k, s0, rfl, hs, hc⟩, q⟩ := h
    refine ⟨_, (pss_one (ps_ret (pe_ifExp (pt_cmpR op_eq (pv 2) (pe_ci c_NUMBER rfl) (nomark _)) (pe_op op_add (pv 1) pe_int) (pe_op op_add (pe_op op_add (pv 1) pe_int) (pe_ix (r := rIxL K) ix_list (pv 0) (pv 1) (fun _ _ => rfl)))))), ?_⟩
    have hs := ex_l e0 hs
    refine s_ret (ev_if (b := decide (s0 = 0)) (et_is (et_test (ev_op (ev_var rfl) ev_c (rv_eq rfl))) (decide_eq_decide.mpr ⟨fun w0 => V.int.inj w0, fun w0 => by rw [w0]⟩)) (fun hb => ?_) (fun hb => ?_)) q
    · rcases hc with ⟨_, rfl⟩ | ⟨h1, _⟩
      · exact ev_op (ev_var rfl) ev_c rv_I0
      · rw [of_decide_eq_true hb] at h1
        cases h1
    · rcases hc with ⟨h1, _⟩ | ⟨h1, x, hx, rfl⟩
      · exact absurd h1 (of_decide_eq_false hb)
      · exact ev_op (ev_op (ev_var rfl) ev_c rv_I0) (ev_op (ev_var rfl) (ev_var rfl) (rv_ixL (v := .int (x : Int)) hs (atI_nat (by rw [List.getElem?_map, hx]; rfl)))) rv_I0
def sp_part_at (K : PySem.W.Frag) : Sp := spP fun vs H P => ∃ (n : Addr) (l : List Int) (k : Nat) (s : Int), vs = [.ref n, .int (k : Int), .int s] ∧ SqL K H n (l.map V.int) ∧ ((s = 0 ∧ ∃ x : Int, l[k]? = some x ∧ P = fun v _ => v = .int x) ∨ (s = 1 ∧ ∃ (x : Nat) (Hb : Hp), l[k]? = some (x : Int) ∧ Ex Hb H ∧ P = NewL Hb (((l.drop (k + 1)).take x).map V.int)))
abbrev st_part_at : Stmt := top 6
abbrev N_part_at : List Str := ["numbers", "at", "shape"]
theorem sc_part_at : FnScope N_part_at ["numbers", "at", "shape"] (defScope st_part_at) := ⟨rfl, rfl, rfl, by decide +kernel, rfl, by decide +kernel, by decide +kernel⟩
theorem ok_part_at (D0 : DefAt K mg "part_at" st_part_at ["numbers", "at", "shape"]) (c_NUMBER : CI mg "NUMBER" (0)) (f_place_behind : Fn P w K mg base "place_behind" 1 (sp_place_behind K))  : Fn P w K mg base "part_at" 2 (sp_part_at K) := by
  refine D0.fn fun f fd F => F.ok sc_part_at (fun vs H Q E h => ?_) (fun cdv A outer s H vs Q E hr h => ?_)
  · obtain ⟨z, H0, e0, ⟨n, l, k, s, rfl, _⟩, q⟩ := h; rfl
  · obtain ⟨z, H0, e0, ⟨n, l, k, s0, rfl, hs, hc⟩, q⟩ := h
    refine ⟨_, (pss_one (ps_ret (pe_ifExp (pt_cmpR op_eq (pv 2) (pe_ci c_NUMBER rfl) (nomark _)) (pe_ix (r := rIxL K) ix_list (pv 0) (pv 1) (fun _ _ => rfl)) (pe_slice sl_list (pv 0) (po_some (pe_op op_add (pv 1) pe_int)) (po_some (pe_fn f_place_behind hr (by decide) rfl (pa_cons (pv 0) (pa_cons (pv 1) (pa_cons (pv 2) pa_nil))))))))), ?_⟩
    have hs := ex_l e0 hs
    refine s_retP (P := z) (ep_if (b := decide (s0 = 0)) (et_is (et_test (ev_op (ev_var rfl) ev_c (rv_eq rfl))) (decide_eq_decide.mpr ⟨fun w0 => V.int.inj w0, fun w0 => by rw [w0]⟩)) (fun hb => ?_) (fun hb => ?_)) q
    · rcases hc with ⟨_, x, hx, rfl⟩ | ⟨h1, _⟩
      · exact Ev.toP (ev_op (ev_var rfl) (ev_var rfl) (rv_ixL hs (atI_nat (by rw [List.getElem?_map, hx]; rfl))))
      · rw [of_decide_eq_true hb] at h1
        cases h1
    · rcases hc with ⟨h1, _⟩ | ⟨h1, x, Hb, hx, eb, rfl⟩
      · exact absurd h1 (of_decide_eq_false hb)
      · have g := el_sl (K := K) (σ := [some (.ref n), some (.int (k : Int)), some (.int s0)]) (te := tVar 0) (tl := tPart (tOp (rI0 fun i j => .int (i + j)) (tVar 1) (tC (.int 1)))) (th := tPart (tCall (sp_place_behind K) [] E0 (tCons (tVar 0) (tCons (tVar 1) (tCons (tVar 2) tNil))))) (lo := some ((k + 1 : Nat) : Int)) (hi := some ((k + 1 + x : Nat) : Int)) (H := H)
          (ev_var rfl) (eo_some (ev_op (ev_var rfl) ev_c rv_I0)) (eo_some (ev_fn (ea_cons (ev_var rfl) (ea_cons (ev_var rfl) (ea_cons (ev_var rfl) ea_nil))) fun H1 e1 => ⟨n, l, k, s0, rfl, ex_l e1 hs, .inr ⟨h1, x, hx, rfl⟩⟩)) hs
        have ec : cutV (l.map V.int) (some ((k + 1 : Nat) : Int)) (some ((k + 1 + x : Nat) : Int)) = ((l.drop (k + 1)).take x).map V.int := by
          rw [cut_mid, List.map_take, List.map_drop]
          congr 1
          omega
        rw [ec] at g
        exact fun H1 e1 Q1 q1 => g H1 e1 _ fun p H2 hp e2 h2 => q1 _ H2 e2 ⟨p, rfl, fresh_back (eb.trans (e0.trans e1)) hp, h2⟩
abbrev gI (x : List Int) : HO := .lst (x.map V.int)
/-- at t: the call c, as the pair of its number and its parts -/
def CallAt (H : Hp) (t : Addr) (c : List (List Int)) : Prop := ∃ (p : Int) (a : List Int) (xs : List (List Int)) (pp : Addr) (qs : List Addr), c = (p :: a) :: xs ∧ H t = some (.tup [.int p, .ref pp]) ∧ H pp = some (.lst (a.map V.int ++ qs.map V.ref)) ∧ ObsP gI H qs xs
theorem CallAt.mono {H H' : Hp} {t : Addr} {c : List (List Int)} (e : Ex H H') (h : CallAt H t c) : CallAt H' t c := by
  obtain ⟨p, a, xs, pp, qs, h1, h2, h3, h4⟩ := h
  exact ⟨p, a, xs, pp, qs, h1, e _ _ h2, e _ _ h3, h4.mono e⟩
def CallsAt (H : Hp) : List Addr → List (List (List Int)) → Prop
  | [], [] => True
  | t :: ts, c :: cs => CallAt H t c ∧ CallsAt H ts cs
  | _, _ => False
theorem CallsAt.mono {H H' : Hp} (e : Ex H H') : ∀ {ts : List Addr} {cs : List (List (List Int))}, CallsAt H ts cs → CallsAt H' ts cs
  | [], [], _ => trivial
  | _ :: _, _ :: _, h => ⟨h.1.mono e, CallsAt.mono e h.2⟩
  | [], _ :: _, h => h.elim
  | _ :: _, [], h => h.elim
theorem CallsAt.snoc {H : Hp} {t : Addr} {c : List (List Int)} (hc : CallAt H t c) : ∀ {ts : List Addr} {cs : List (List (List Int))}, CallsAt H ts cs → CallsAt H (ts ++ [t]) (cs ++ [c])
  | [], [], _ => ⟨hc, trivial⟩
  | _ :: _, _ :: _, h => ⟨h.1, CallsAt.snoc hc h.2⟩
  | [], _ :: _, h => h.elim
  | _ :: _, [], h => h.elim
theorem CallsAt.len {H : Hp} : ∀ {ts : List Addr} {cs : List (List (List Int))}, CallsAt H ts cs → ts.length = cs.length
  | [], [], _ => rfl
  | _ :: _, _ :: _, h => congrArg (· + 1) (CallsAt.len h.2)
  | [], _ :: _, h => h.elim
  | _ :: _, [], h => h.elim
theorem CallsAt.get {H : Hp} : ∀ {ts : List Addr} {cs : List (List (List Int))} {i : Nat} {t : Addr}, CallsAt H ts cs → ts[i]? = some t → ∃ c, cs[i]? = some c ∧ CallAt H t c
  | [], [], _, _, _, h => by simp at h
  | a :: _, c :: _, 0, t, h, e => by
    have e' : a = t := Option.some.inj e
    subst e'
    exact ⟨c, rfl, h.1⟩
  | _ :: ts, _ :: cs, i + 1, t, h, e => CallsAt.get (ts := ts) (cs := cs) (i := i) h.2 e
  | [], _ :: _, _, _, h, _ => h.elim
  | _ :: _, [], _, _, h, _ => h.elim
/-- what of X the heap H does not know -/
def fr (H X : Hp) : Hp := fun b => match H b with
  | none => X b
  | some _ => none
theorem fr_ex {H X : Hp} : Ex (fr H X) X := fun b o h => by
  unfold fr at h
  cases e : H b with
  | none =>
    rw [e] at h
    exact h
  | some o' =>
    rw [e] at h
    cases h
theorem fr_at {H X : Hp} {b : Addr} {o : HO} (hn : H b = none) (h : X b = some o) : fr H X b = some o := by
  unfold fr
  rw [hn]
  exact h
theorem fr_mono {H X Y : Hp} (e : Ex X Y) : Ex (fr H X) (fr H Y) := fun b o h => by
  have h2 := fr_ex b o h
  cases q : H b with
  | none => exact fr_at q (e _ _ h2)
  | some o' =>
    unfold fr at h
    rw [q] at h
    cases h
def CallsV (Hb : Hp) (cs : List (List (List Int))) : V → Hp → Prop := fun v H => ∃ D ts, v = .ref D ∧ Hb D = none ∧ H D = some (.lst (ts.map V.ref)) ∧ CallsAt (fr Hb H) ts cs
/-! what stands where in the list -/
theorem put_snoc : ∀ (cs : List (List (List Int))) (c : List (List Int)), PyFlat.put (cs ++ [c]) = PyFlat.put cs ++ PyFlat.put1 c
  | [], c => by
    show PyFlat.put1 c ++ [] = [] ++ PyFlat.put1 c
    rw [List.append_nil]
    rfl
  | d :: cs, c => by
    show PyFlat.put1 d ++ PyFlat.put (cs ++ [c]) = (PyFlat.put1 d ++ PyFlat.put cs) ++ PyFlat.put1 c
    rw [put_snoc cs c, List.append_assoc]
theorem put_app : ∀ (cs ds : List (List (List Int))), PyFlat.put (cs ++ ds) = PyFlat.put cs ++ PyFlat.put ds
  | [], ds => rfl
  | d :: cs, ds => by
    show PyFlat.put1 d ++ PyFlat.put (cs ++ ds) = (PyFlat.put1 d ++ PyFlat.put cs) ++ PyFlat.put ds
    rw [put_app cs ds, List.append_assoc]
theorem rows_app : ∀ (xs ys : List (List Int)), PyFlat.putRows (xs ++ ys) = PyFlat.putRows xs ++ PyFlat.putRows ys
  | [], ys => rfl
  | x :: xs, ys => by
    show PyFlat.putRow x ++ PyFlat.putRows (xs ++ ys) = (PyFlat.putRow x ++ PyFlat.putRows xs) ++ PyFlat.putRows ys
    rw [rows_app xs ys, List.append_assoc]
theorem split_at {α : Type} {l : List α} {i : Nat} {x : α} (h : l[i]? = some x) : l = l.take i ++ x :: l.drop (i + 1) := by
  obtain ⟨hi, e⟩ := List.getElem?_eq_some_iff.mp h
  conv => lhs; rw [← List.take_append_drop i l]
  rw [List.drop_eq_getElem_cons hi, e]
theorem at_mid {α : Type} (pre : List α) (x : α) (post : List α) : (pre ++ x :: post)[pre.length]? = some x := by
  rw [List.getElem?_append_right (Nat.le_refl _), Nat.sub_self]
  rfl
theorem drop_mid {α : Type} (pre : List α) (x : α) (ys post : List α) : ((pre ++ x :: (ys ++ post)).drop (pre.length + 1)).take ys.length = ys := by
  have e : pre ++ x :: (ys ++ post) = (pre ++ [x]) ++ (ys ++ post) := by simp
  have e2 : pre.length + 1 = (pre ++ [x]).length := by simp
  rw [e, e2, List.drop_left, List.take_left]
/-- the part j of a call whose list stands behind pre -/
def placeOf (pre : List Int) (a : List Int) (xs : List (List Int)) (j : Nat) : Nat := pre.length + 1 + min j a.length + (PyFlat.putRows (xs.take (j - a.length))).length
theorem place_num {pre post : List Int} {p : Int} {a : List Int} {xs : List (List Int)} {j : Nat} {z : Int} (h : a[j]? = some z) : (pre ++ (PyFlat.put1 ((p :: a) :: xs) ++ post))[placeOf pre a xs j]? = some z ∧ placeOf pre a xs (j + 1) = placeOf pre a xs j + 1 := by
  have hj := (List.getElem?_eq_some_iff.mp h).1
  unfold placeOf
  have e1 : j - a.length = 0 := by omega
  have e2 : j + 1 - a.length = 0 := by omega
  rw [e1, e2]
  refine ⟨?_, by show _ + 0 = _ + 0 + 1; omega⟩
  show (pre ++ ((p :: a ++ PyFlat.putRows xs) ++ post))[pre.length + 1 + min j a.length + 0]? = some z
  have e3 : pre.length + 1 + min j a.length + 0 = pre.length + (1 + j) := by omega
  rw [e3, List.getElem?_append_right (by omega), Nat.add_sub_cancel_left, List.getElem?_append_left (by simp; omega), List.getElem?_append_left (by simp; omega)]
  show (p :: a)[1 + j]? = some z
  rw [Nat.add_comm 1 j]
  exact h
theorem place_row {pre post : List Int} {p : Int} {a : List Int} {xs : List (List Int)} {j : Nat} {x : List Int} (hj : a.length ≤ j) (h : xs[j - a.length]? = some x) :
    (pre ++ (PyFlat.put1 ((p :: a) :: xs) ++ post))[placeOf pre a xs j]? = some (x.length : Int) ∧ (((pre ++ (PyFlat.put1 ((p :: a) :: xs) ++ post)).drop (placeOf pre a xs j + 1)).take x.length) = x ∧ placeOf pre a xs (j + 1) = placeOf pre a xs j + 1 + x.length := by
  have hs := split_at h
  have el : pre ++ (PyFlat.put1 ((p :: a) :: xs) ++ post) = (pre ++ (p :: a) ++ PyFlat.putRows (xs.take (j - a.length))) ++ (x.length : Int) :: (x ++ (PyFlat.putRows (xs.drop (j - a.length + 1)) ++ post)) := by
    show pre ++ ((p :: a ++ PyFlat.putRows xs) ++ post) = _
    conv => lhs; rw [hs]
    rw [rows_app]
    show pre ++ ((p :: a ++ (PyFlat.putRows (xs.take (j - a.length)) ++ (((x.length : Int) :: x) ++ PyFlat.putRows (xs.drop (j - a.length + 1))))) ++ post) = _
    simp only [List.append_assoc, List.cons_append]
  have ep : placeOf pre a xs j = (pre ++ (p :: a) ++ PyFlat.putRows (xs.take (j - a.length))).length := by
    unfold placeOf
    rw [List.length_append, List.length_append, List.length_cons, Nat.min_eq_right hj]
    omega
  refine ⟨?_, ?_, ?_⟩
  · rw [el, ep]
    exact at_mid _ _ _
  · rw [el, ep]
    exact drop_mid _ _ _ _
  · unfold placeOf
    have e1 : j + 1 - a.length = (j - a.length) + 1 := by omega
    rw [e1, take_more h, rows_app, List.length_append]
    have e2 : (PyFlat.putRows [x]).length = x.length + 1 := by
      show (((x.length : Int) :: x) ++ []).length = _
      rw [List.append_nil]
      rfl
    rw [e2, Nat.min_eq_right hj, Nat.min_eq_right (by omega)]
    omega
theorem place_start (pre a : List Int) (xs : List (List Int)) : placeOf pre a xs 0 = pre.length + 1 := by
  unfold placeOf
  rw [Nat.zero_sub]
  show pre.length + 1 + min 0 a.length + 0 = _
  omega
theorem place_end (pre : List Int) (p : Int) (a : List Int) (xs : List (List Int)) : placeOf pre a xs (a.length + xs.length) = (pre ++ PyFlat.put1 ((p :: a) :: xs)).length := by
  unfold placeOf
  have e1 : a.length + xs.length - a.length = xs.length := by omega
  rw [e1, List.take_length, Nat.min_eq_right (by omega), List.length_append]
  show _ = pre.length + (p :: a ++ PyFlat.putRows xs).length
  rw [List.length_append, List.length_cons]
  omega
/-- the kinds of a call's parts -/
def kinds (n k : Nat) : List V := List.replicate n (V.int 0) ++ List.replicate k (V.int 1)
theorem kinds_at {n k j : Nat} {x : V} (h : (kinds n k)[j]? = some x) : (j < n ∧ x = .int 0) ∨ (n ≤ j ∧ j < n + k ∧ x = .int 1) := by
  unfold kinds at h
  by_cases hj : j < n
  · rw [List.getElem?_append_left (by simpa using hj), List.getElem?_replicate, if_pos hj] at h
    exact .inl ⟨hj, (Option.some.inj h).symm⟩
  · rw [List.getElem?_append_right (by simp; omega), List.length_replicate, List.getElem?_replicate] at h
    by_cases h2 : j - n < k
    · rw [if_pos h2] at h
      exact .inr ⟨by omega, by omega, (Option.some.inj h).symm⟩
    · rw [if_neg h2] at h
      cases h
theorem kinds_len (n k : Nat) : (kinds n k).length = n + k := by
  unfold kinds
  rw [List.length_append, List.length_replicate, List.length_replicate]
theorem s_appP {σ : L2.St} {H : Hp} {D : Ends} {l : Addr} {xs : List V} {ta te : TE} {Pz : V → Hp → Prop} (hl : H l = some (.lst xs)) (ha : Ev ta σ H (.ref l)) (h : EvP te σ H Pz) (hz : xs.length < sizeLine) (k : ∀ v H1, Ex H H1 → Pz v H1 → D.nx σ (upd H1 l (.lst (xs ++ [v])))) :
    tDrop (tBM K "list" rAppend ta (tCons te tNil)) D σ H := ha H (Ex.refl H) _ fun H1 e1 =>
  ⟨Or.inl ⟨rfl, xs, sq_of (e1 l _ hl)⟩, h H1 e1 _ fun v H2 e2 hv => ⟨l, xs, v, rfl, rfl, e2 l _ (e1 l _ hl), hz, k v H2 (e1.trans e2) hv⟩⟩
theorem q_appP {σ : L2.St} {H : Hp} {D : Ends} {tz : TS} {l : Addr} {xs : List V} {ta te : TE} {Pz : V → Hp → Prop} (hl : H l = some (.lst xs)) (ha : Ev ta σ H (.ref l)) (h : EvP te σ H Pz) (hz : xs.length < sizeLine) (k : ∀ v H1, Ex H H1 → Pz v H1 → tz D σ (upd H1 l (.lst (xs ++ [v])))) :
    tSeq (tDrop (tBM K "list" rAppend ta (tCons te tNil))) tz D σ H := s_appP (D := { D with nx := tz D }) hl ha h hz k
/-- what the module's SHAPES tells -/
structure ShapesAt (K : PySem.W.Frag) (S : Addr) : Prop where
  ex : ∃ sv : List V, (∀ H, SqT K H S sv) ∧ ∀ (p : Int) (n k : Nat), PySr120.shape p = some (n, k) → ∃ tp, atI sv p = some (.ref tp) ∧ ∀ H, SqT K H tp (kinds n k)
def sp_read_calls (K : PySem.W.Frag) : Sp := spP fun vs H P => ∃ (n : Addr) (cs : List (List (List Int))) (Hb : Hp), vs = [.ref n] ∧ Ex Hb H ∧ SqL K H n ((PyFlat.put cs).map V.int) ∧ (∀ c ∈ cs, PyFlat.okCall PySr120.shape c) ∧ cs.length ≤ 60 ∧ (∀ c ∈ cs, c.length ≤ 1000 ∧ ∀ r ∈ c, r.length ≤ 1000) ∧ P = CallsV Hb cs
abbrev st_read_calls : Stmt := top 7
abbrev N_read_calls : List Str := ["numbers", "found", "at", "number", "parts", "shape"]
theorem sc_read_calls : FnScope N_read_calls ["numbers"] (defScope st_read_calls) := ⟨rfl, rfl, rfl, by decide +kernel, rfl, by decide +kernel, by decide +kernel⟩
theorem ok_read_calls (D0 : DefAt K mg "read_calls" st_read_calls ["numbers"]) (b_len : mg "len" = none) (f_place_behind : Fn P w K mg base "place_behind" 1 (sp_place_behind K)) (f_part_at : Fn P w K mg base "part_at" 2 (sp_part_at K)) {dS : Addr} (c_SHAPES : mg "SHAPES" = some (.ref dS)) (k_SHAPES : ShapesAt K dS) : Fn P w K mg base "read_calls" 3 (sp_read_calls K) := by
  refine D0.fn fun f fd F => F.ok sc_read_calls (fun vs H Q E h => ?_) (fun cdv A outer s H vs Q E hr h => ?_)
  · obtain ⟨z, H0, e0, ⟨n, cs, Hb, rfl, _⟩, q⟩ := h; rfl
  · obtain ⟨z, H0, e0, ⟨n, cs, Hb, rfl, eb0, hn, hok, hl, hsz, rfl⟩, q⟩ := h
    refine ⟨_, (pss_cons (ps_set (i := 1) sc_read_calls.nd rfl (Or.inl rfl) (pe_lst pa_nil)) (pss_cons (ps_set (i := 2) sc_read_calls.nd rfl (Or.inl rfl) pe_int) (pss_cons (ps_while PassesOwn.never (pt_cmpR op_lt (pv 2) (pe_callB call_len_seq (by rfl) b_len (by decide +kernel) (pa_cons (pv 0) pa_nil)) (nomark _)) (pss_cons (ps_set (i := 3) sc_read_calls.nd rfl (Or.inl rfl) (pe_ix (r := rIxL K) ix_list (pv 0) (pv 2) (fun _ _ => rfl))) (pss_cons (ps_aug (i := 2) sc_read_calls.nd rfl (Or.inl rfl) pe_int ip_add) (pss_cons (ps_set (i := 4) sc_read_calls.nd rfl (Or.inl rfl) (pe_lst pa_nil)) (pss_cons (ps_for PassesOwn.never rfl (pi_tup (pe_ix (r := rIxT K) ix_tup (pe_glob (v := .ref _) rfl c_SHAPES rfl) (pv 3) (fun _ _ => rfl))) (pg_name (i := 5) sc_read_calls.nd rfl (Or.inl rfl)) (pss_cons (ps_expr (pe_bm PySem.F.plainAttrs_list PySem.F.slot_list_append PySem.F.type_list_append mt_append (pv 4) (pa_cons (pe_fn f_part_at hr (by decide) rfl (pa_cons (pv 0) (pa_cons (pv 2) (pa_cons (pv 5) pa_nil)))) pa_nil))) (pss_one (ps_set (i := 2) sc_read_calls.nd rfl (Or.inl rfl) (pe_fn f_place_behind hr (by decide) rfl (pa_cons (pv 0) (pa_cons (pv 2) (pa_cons (pv 5) pa_nil)))))))) (pss_one (ps_expr (pe_bm PySem.F.plainAttrs_list PySem.F.slot_list_append PySem.F.type_list_append mt_append (pv 1) (pa_cons (pe_tup (pa_cons (pv 3) (pa_cons (pv 4) pa_nil))) pa_nil))))))))) (pss_one (ps_ret (pv 1)))))), ?_⟩
    have eb : Ex Hb H := eb0.trans e0
    have hn := ex_l e0 hn
    obtain ⟨sv, hS, hSh⟩ := k_SHAPES.ex
    refine q_asgL (el_lst ea_nil (Nat.zero_le _)) fun D H1 hD e1 h1 => ?_
    refine q_asg ev_c fun H2 e2 => ?_
    refine q_while (fun m σ' H' => ∃ (i : Nat) (v3 v4 v5 : Option V), m = cs.length - i ∧ i ≤ cs.length ∧ σ' = [some (.ref n), some (.ref D), some (.int (((PyFlat.put (cs.take i)).length : Nat) : Int)), v3, v4, v5] ∧ Ex H H' ∧ ∃ ts : List Addr, H' D = some (.lst (ts.map V.ref)) ∧ CallsAt (fr Hb (wo H' D)) ts (cs.take i)) cs.length
      ⟨0, none, none, none, rfl, Nat.zero_le _, rfl, e1.trans e2, [], e2 _ _ h1, trivial⟩ ?_
    rintro m σ' H' ⟨i, v3, v4, v5, rfl, hi, rfl, e', ts, hts, hcs⟩
    have hlen : (PyFlat.put cs).length = (PyFlat.put (cs.take i)).length + (PyFlat.put (cs.drop i)).length := by
      rw [← List.length_append, ← put_app, List.take_append_drop]
    have hpos : i < cs.length → 0 < (PyFlat.put (cs.drop i)).length := fun hlt => by
      rw [List.drop_eq_getElem_cons hlt]
      obtain ⟨p, a, xs, ec, _⟩ := hok _ (List.getElem_mem hlt)
      rw [ec]
      show 0 < (((p :: a) ++ PyFlat.putRows xs) ++ _).length
      rw [List.length_append, List.length_append, List.length_cons]
      omega
    refine ⟨decide (i < cs.length), et_is (et_test (ev_op (ev_var rfl) (ev_len (ev_var rfl) (ex_l e' hn)) rv_I0)) (decide_eq_decide.mpr (by
      rw [List.length_map, hlen]
      refine ⟨fun w0 => ?_, fun w0 => by have := hpos w0; omega⟩
      by_cases h0 : i < cs.length
      · exact h0
      · rw [List.drop_eq_nil_of_le (by omega)] at w0
        have : (PyFlat.put []).length = 0 := rfl
        omega)), fun hb H3 e3 => ?_, fun hb H3 e3 => ?_⟩
    · have hlt := of_decide_eq_true hb
      obtain ⟨p, a, xs, ec, hsh⟩ := hok _ (List.getElem_mem hlt)
      have hci : cs[i]? = some ((p :: a) :: xs) := by rw [List.getElem?_eq_getElem hlt, ec]
      obtain ⟨tp, htp, hk⟩ := hSh p _ _ hsh
      have hbnd := hsz _ (List.mem_of_getElem? hci)
      have ba : a.length ≤ 1000 := by
        have := hbnd.2 (p :: a) (List.mem_cons_self ..)
        rw [List.length_cons] at this
        omega
      have bx : xs.length ≤ 1000 := by
        have := hbnd.1
        rw [List.length_cons] at this
        omega
      have hput : PyFlat.put cs = PyFlat.put (cs.take i) ++ (PyFlat.put1 ((p :: a) :: xs) ++ PyFlat.put (cs.drop (i + 1))) := by
        conv => lhs; rw [split_at hci]
        rw [put_app]
        rfl
      have hp0 : (PyFlat.put cs)[(PyFlat.put (cs.take i)).length]? = some p := by
        rw [hput]
        show (PyFlat.put (cs.take i) ++ p :: (a ++ PyFlat.putRows xs ++ _))[_]? = _
        exact at_mid _ _ _
      have eH3 := e'.trans e3
      refine ⟨fun σ2 H2 => ∃ m', m' < cs.length - i ∧ ∃ (i : Nat) (v3 v4 v5 : Option V), m' = cs.length - i ∧ i ≤ cs.length ∧ σ2 = [some (.ref n), some (.ref D), some (.int (((PyFlat.put (cs.take i)).length : Nat) : Int)), v3, v4, v5] ∧ Ex H H2 ∧ ∃ ts : List Addr, H2 D = some (.lst (ts.map V.ref)) ∧ CallsAt (fr Hb (wo H2 D)) ts (cs.take i), fun σ2 H2 w0 => w0, ?_⟩
      refine q_asg (ev_op (ev_var rfl) (ev_var rfl) (rv_ixL (v := .int p) (ex_l eH3 hn) (atI_nat (by rw [List.getElem?_map, hp0]; rfl)))) fun H4 e4 => ?_
      refine q_aug (a := (((PyFlat.put (cs.take i)).length : Nat) : Int)) rfl ev_c fun H5 e5 => ?_
      refine q_asgL (el_lst ea_nil (Nat.zero_le _)) fun pp H6 hpp e6 h6 => ?_
      have e35 := (e3.trans e4).trans e5
      have hD5 := e35 _ _ hts
      have hppD : pp ≠ D := fun w0 => by
        rw [w0, hD5] at hpp
        cases hpp
      refine q_forT (xs := kinds a.length xs.length) (ev_op (tb := tVar 3) ev_c (ev_var rfl) (rv_ixT (hS _) htp)) (hk _) (fun j σ2 H' => ∃ v5 : Option V, σ2 = [some (.ref n), some (.ref D), some (.int ((placeOf (PyFlat.put (cs.take i)) a xs j : Nat) : Int)), some (.int p), some (.ref pp), v5] ∧ Ex H5 H' ∧ j ≤ a.length + xs.length ∧ ∃ qs : List Addr, H' pp = some (.lst ((a.take j).map V.int ++ qs.map V.ref)) ∧ ObsP gI (fr Hb (wo (wo H' D) pp)) qs (xs.take (j - a.length)))
        (fun H7 e7 => ⟨v5, by rw [place_start]; rfl, e6.trans e7, Nat.zero_le _, [], e7 _ _ h6, by
          rw [Nat.zero_sub]
          trivial⟩) (fun j σ2 H' _ _ => hk H') ?_ ?_
      · rintro j x σ2 H7 hx ⟨w5, rfl, e7, hj, qs, hpp7, hq7⟩
        have eH7 : Ex H H7 := (e'.trans e35).trans e7
        have hn7 := ex_l eH7 hn
        rw [hput] at hn7
        have hsz7 : ((a.take j).map V.int ++ qs.map V.ref).length < sizeLine := by
          rw [List.length_append, List.length_map, List.length_map, hq7.len, List.length_take, List.length_take]
          exact sz_lt (by omega)
        rcases kinds_at hx with ⟨hja, rfl⟩ | ⟨hja, hjx, rfl⟩
        · obtain ⟨z, hz⟩ : ∃ z, a[j]? = some z := ⟨_, List.getElem?_eq_getElem hja⟩
          obtain ⟨g1, g2⟩ := place_num (pre := PyFlat.put (cs.take i)) (post := PyFlat.put (cs.drop (i + 1))) (p := p) (xs := xs) hz
          refine q_appP hpp7 (ev_var rfl) (ep_fn (P := fun v _ => v = .int z) (ea_cons (ev_var rfl) (ea_cons (ev_var rfl) (ea_cons (ev_var rfl) ea_nil))) fun H8 e8 => ⟨n, _, _, 0, rfl, ex_l e8 hn7, .inl ⟨rfl, z, g1, rfl⟩⟩) hsz7 fun v H8 e8 hv => ?_
          subst hv
          have e58 := e7.trans e8
          have eU : Ex H5 (upd H8 pp (.lst ((a.take j).map V.int ++ qs.map V.ref ++ [.int z]))) := Ex.mut e58 hpp
          refine s_asg (ev_fn (ea_cons (ev_var rfl) (ea_cons (ev_var rfl) (ea_cons (ev_var rfl) ea_nil))) fun H9 e9 => ⟨n, _, _, 0, rfl, ex_l (((e'.trans e35).trans eU).trans e9) hn, .inl ⟨rfl, rfl⟩⟩) fun H9 e9 => ⟨some (.int 0), by rw [g2]; rfl, eU.trans e9, by omega, [], ?_, ?_⟩
          · have eq : qs = [] := by
              have := hq7.len
              have e0 : j - a.length = 0 := by omega
              rw [e0, List.take_zero] at this
              exact List.length_eq_zero_iff.mp this
            rw [e9 _ _ upd_same, eq, take_more hz, List.map_append]
            simp
          · have e0 : j + 1 - a.length = 0 := by omega
            rw [e0]
            trivial
        · obtain ⟨r, hr⟩ : ∃ r, xs[j - a.length]? = some r := ⟨_, List.getElem?_eq_getElem (by omega)⟩
          obtain ⟨g1, g2, g3⟩ := place_row (pre := PyFlat.put (cs.take i)) (post := PyFlat.put (cs.drop (i + 1))) (p := p) hja hr
          refine q_appP hpp7 (ev_var rfl) (ep_fn (P := NewL H7 (r.map V.int)) (ea_cons (ev_var rfl) (ea_cons (ev_var rfl) (ea_cons (ev_var rfl) ea_nil))) fun H8 e8 => ⟨n, _, _, 1, rfl, ex_l e8 hn7, .inr ⟨rfl, r.length, H7, g1, e8, by rw [g2]⟩⟩) hsz7 fun v H8 e8 hv => ?_
          obtain ⟨b, rfl, hb7, hb8⟩ := hv
          have e58 := e7.trans e8
          have eU : Ex H5 (upd H8 pp (.lst ((a.take j).map V.int ++ qs.map V.ref ++ [.ref b]))) := Ex.mut e58 hpp
          have hbD : b ≠ D := fun w0 => by
            rw [w0, e7 _ _ hD5] at hb7
            cases hb7
          have hbp : b ≠ pp := fun w0 => by
            rw [w0, hpp7] at hb7
            cases hb7
          have eU8 : Ex (wo H8 pp) (upd H8 pp (.lst ((a.take j).map V.int ++ qs.map V.ref ++ [.ref b]))) := by
            have := wo_ex (H := upd H8 pp (.lst ((a.take j).map V.int ++ qs.map V.ref ++ [.ref b]))) (p := pp)
            rw [wo_upd] at this
            exact this
          refine s_asg (ev_fn (ea_cons (ev_var rfl) (ea_cons (ev_var rfl) (ea_cons (ev_var rfl) ea_nil))) fun H9 e9 => ⟨n, _, _, 1, rfl, (by
            have := ex_l (((e'.trans e35).trans eU).trans e9) hn
            rw [hput] at this
            exact this), .inr ⟨rfl, r.length, g1, rfl⟩⟩) fun H9 e9 => ⟨some (.int 1), by rw [g3]; rfl, eU.trans e9, by omega, qs ++ [b], ?_, ?_⟩
          · rw [e9 _ _ upd_same, List.take_of_length_le (by omega), List.take_of_length_le (by omega), List.append_assoc, List.map_append]
            rfl
          · have e0 : j + 1 - a.length = (j - a.length) + 1 := by omega
            rw [e0, take_more hr]
            have ew : Ex (fr Hb (wo (wo H8 D) pp)) (fr Hb (wo (wo H9 D) pp)) := fr_mono fun c o hc => by
              have hcp : c ≠ pp := fun w0 => by
                unfold wo at hc
                rw [if_pos w0] at hc
                cases hc
              have hc1 := wo_ex _ _ hc
              have hcD : c ≠ D := fun w0 => by
                unfold wo at hc1
                rw [if_pos w0] at hc1
                cases hc1
              have hc2 := wo_ex _ _ hc1
              refine wo_at (wo_at (e9 _ _ ?_) hcD) hcp
              rw [upd_ne hcp]
              exact hc2
            refine ObsP.snoc (g := gI) (ew _ _ (fr_at (fresh_back (eb.trans eH7) hb7) (wo_at (wo_at hb8 hbD) hbp))) ((hq7.mono (fr_mono (wo_mono (wo_mono e8)))).mono ew)
      · rintro σ2 H7 ⟨w5, rfl, e7, hj, qs, hpp7, hq7⟩
        rw [kinds_len, place_end (PyFlat.put (cs.take i)) p a xs] at *
        rw [List.take_of_length_le (by omega)] at hpp7
        have e1x : a.length + xs.length - a.length = xs.length := by omega
        rw [e1x, List.take_length] at hq7
        have hD7 := e7 _ _ hD5
        refine s_appU hD7 (ev_var rfl) (eu_tup (ea_cons (ev_var rfl) (ea_cons (ev_var rfl) ea_nil)) (by show 2 ≤ 100000; decide)) ?_ fun t H8 ht8 e8 h8 => ?_
        · rw [List.length_map, hcs.len, List.length_take]
          omega
        · have htD : t ≠ D := fun w0 => by
            rw [w0, hD7] at ht8
            cases ht8
          have e58 := e7.trans e8
          refine ⟨cs.length - (i + 1), by omega, i + 1, some (.int p), some (.ref pp), w5, rfl, by omega, ?_, Ex.mut ((e'.trans e35).trans e58) hD, ts ++ [t], ?_, ?_⟩
          · rw [take_more hci, put_snoc]
          · rw [upd_same, List.map_append]
            rfl
          · rw [wo_upd, take_more hci]
            refine CallsAt.snoc ⟨p, a, xs, pp, qs, rfl, fr_at (fresh_back (eb.trans ((e'.trans e35).trans e7)) ht8) (wo_at h8 htD), fr_at (fresh_back (eb.trans (e'.trans e35)) hpp) (wo_at (e8 _ _ hpp7) hppD), ?_⟩ (hcs.mono (fr_mono (wo_mono (e35.trans e58))))
            exact (hq7.mono (fr_mono wo_ex)).mono (fr_mono (wo_mono e8))
    · have hge := of_decide_eq_false hb
      have ei : i = cs.length := by omega
      rw [ei, List.take_length] at hcs
      exact s_ret (ev_var rfl) fun H4 e4 => q _ H4 ((e'.trans e3).trans e4) ⟨D, ts, rfl, fresh_back eb hD, (e3.trans e4) _ _ hts, (hcs.mono (fr_mono wo_ex)).mono (fr_mono (e3.trans e4))⟩
end
end Tw
namespace Tw
open PySem PySem.Spec PyProof.Rows L2 Evl
section
variable {P : Program} {w : World} {K : PySem.W.Frag} {mg : Str → Option Value} {base : Heap}
/-! ### which call, by its number -/
def qA : Nat → Hp → List V → Sr120.Call → Prop
  | 6 => fun _ _ c => c = .minCycleTime
  | 7 => fun _ _ c => c = .bestTour
  | 8 => fun H xs c => ∃ (t : Addr) (ns : List Int), xs = [.ref t] ∧ H t = some (.lst (ns.map V.int)) ∧ ns.length ≤ 70 ∧ c = .cycleTime ns
  | 9 => fun _ _ c => c = .wallOrder
  | 10 => fun H xs c => ∃ (t : Addr) (ns : List Int), xs = [.ref t] ∧ H t = some (.lst (ns.map V.int)) ∧ ns.length ≤ 70 ∧ c = .startTimes ns
  | 11 => fun _ xs c => ∃ i : Int, xs = [.int i] ∧ c = .idleTime i
  | 12 => fun _ _ c => c = .utilization
  | 13 => fun _ xs c => ∃ i : Int, xs = [.int i] ∧ c = .largestGroup i
  | 14 => fun _ xs c => ∃ i : Int, xs = [.int i] ∧ c = .bestTourOf i
  | 15 => fun H xs c => ∃ (t s : Addr) (ns st : List Int) (cy : Int), xs = [.int cy, .ref t, .ref s] ∧ H t = some (.lst (ns.map V.int)) ∧ H s = some (.lst (st.map V.int)) ∧ ns.length ≤ 70 ∧ st.length ≤ 70 ∧ c = .checkSchedule cy ns st
  | 16 => fun _ xs c => ∃ i t : Int, xs = [.int i, .int t] ∧ c = .minCycleTimeIf i t
  | 17 => fun _ _ c => c = .listMachines
  | _ => fun _ _ _ => False
def dA : Nat → List V → Sr120.Call → Prop
  | 1 => fun xs c => ∃ p r s : Int, xs = [.int p, .int r, .int s] ∧ c = .addMachine p r s
  | 2 => fun xs c => ∃ i : Int, xs = [.int i] ∧ c = .removeMachine i
  | 3 => fun xs c => ∃ i t : Int, xs = [.int i, .int t] ∧ c = .setPosition i t
  | 4 => fun xs c => ∃ i t : Int, xs = [.int i, .int t] ∧ c = .setRunTime i t
  | 5 => fun xs c => ∃ i t : Int, xs = [.int i, .int t] ∧ c = .setServiceTime i t
  | _ => fun _ _ => False
theorem dA_num : ∀ {n : Nat} {xs : List V} {c : Sr120.Call}, dA n xs c → 1 ≤ n ∧ n ≤ 5
  | 0, _, _, h => h.elim
  | 1, _, _, _ => by decide
  | 2, _, _, _ => by decide
  | 3, _, _, _ => by decide
  | 4, _, _, _ => by decide
  | 5, _, _, _ => by decide
  | n + 6, _, _, h => h.elim
theorem qA_num : ∀ {n : Nat} {H : Hp} {xs : List V} {c : Sr120.Call}, qA n H xs c → 6 ≤ n ∧ n ≤ 17
  | 0, _, _, _, h => h.elim
  | 1, _, _, _, h => h.elim
  | 2, _, _, _, h => h.elim
  | 3, _, _, _, h => h.elim
  | 4, _, _, _, h => h.elim
  | 5, _, _, _, h => h.elim
  | 6, _, _, _, _ => by decide
  | 7, _, _, _, _ => by decide
  | 8, _, _, _, _ => by decide
  | 9, _, _, _, _ => by decide
  | 10, _, _, _, _ => by decide
  | 11, _, _, _, _ => by decide
  | 12, _, _, _, _ => by decide
  | 13, _, _, _, _ => by decide
  | 14, _, _, _, _ => by decide
  | 15, _, _, _, _ => by decide
  | 16, _, _, _, _ => by decide
  | 17, _, _, _, _ => by decide
  | n + 18, _, _, _, h => h.elim
/-- a question changes nothing -/
theorem qA_same (ws : Sr120.Workshop) : ∀ {n : Nat} {H : Hp} {xs : List V} {c : Sr120.Call}, qA n H xs c → newW ws c = ws
  | 0, _, _, _, h => h.elim
  | 1, _, _, _, h => h.elim
  | 2, _, _, _, h => h.elim
  | 3, _, _, _, h => h.elim
  | 4, _, _, _, h => h.elim
  | 5, _, _, _, h => h.elim
  | 6, _, _, _, h => by
    cases h
    rfl
  | 7, _, _, _, h => by
    cases h
    rfl
  | 8, _, _, _, h => by
    obtain ⟨_, _, _, _, _, rfl⟩ := h
    rfl
  | 9, _, _, _, h => by
    cases h
    rfl
  | 10, _, _, _, h => by
    obtain ⟨_, _, _, _, _, rfl⟩ := h
    rfl
  | 11, _, _, _, h => by
    obtain ⟨_, _, rfl⟩ := h
    rfl
  | 12, _, _, _, h => by
    cases h
    rfl
  | 13, _, _, _, h => by
    obtain ⟨_, _, rfl⟩ := h
    rfl
  | 14, _, _, _, h => by
    obtain ⟨_, _, rfl⟩ := h
    rfl
  | 15, _, _, _, h => by
    obtain ⟨_, _, _, _, _, _, _, _, _, _, rfl⟩ := h
    rfl
  | 16, _, _, _, h => by
    obtain ⟨_, _, _, rfl⟩ := h
    rfl
  | 17, _, _, _, h => by
    cases h
    rfl
  | n + 18, _, _, _, h => h.elim
theorem qA_mono {H H' : Hp} (e : Ex H H') : ∀ {n : Nat} {xs : List V} {c : Sr120.Call}, qA n H xs c → qA n H' xs c
  | 0, _, _, h => h.elim
  | 1, _, _, h => h.elim
  | 2, _, _, h => h.elim
  | 3, _, _, h => h.elim
  | 4, _, _, h => h.elim
  | 5, _, _, h => h.elim
  | 6, _, _, h => h
  | 7, _, _, h => h
  | 8, _, _, h => by
    obtain ⟨t, ns, h1, h2, h3, h4⟩ := h
    exact ⟨t, ns, h1, e _ _ h2, h3, h4⟩
  | 9, _, _, h => h
  | 10, _, _, h => by
    obtain ⟨t, ns, h1, h2, h3, h4⟩ := h
    exact ⟨t, ns, h1, e _ _ h2, h3, h4⟩
  | 11, _, _, h => h
  | 12, _, _, h => h
  | 13, _, _, h => h
  | 14, _, _, h => h
  | 15, _, _, h => by
    obtain ⟨t, s, ns, st, cy, h1, h2, h3, h4, h5, h6⟩ := h
    exact ⟨t, s, ns, st, cy, h1, e _ _ h2, e _ _ h3, h4, h5, h6⟩
  | 16, _, _, h => h
  | 17, _, _, h => h
  | n + 18, _, _, h => h.elim
theorem QArg.mono {vs : List V} {H H' : Hp} {a l pp : Addr} {ws : Sr120.Workshop} {xs : List V} (e : Ex H H') (h : QArg K vs H a l pp ws xs) : QArg K vs H' a l pp ws xs := ⟨h.vs, h.wl.mono e, h.ms.mono e, e _ _ h.pt, h.ok⟩
theorem After.mono {H H' : Hp} {a l : Addr} {ws : Sr120.Workshop} {c : Sr120.Call} {Q : VK} (e : Ex H H') (k : After K H a l ws c Q) : After K H' a l ws c Q := fun p H2 l' hp h1 h2 h3 h4 h5 =>
  k p H2 l' (fresh_back e hp) h1 h2 h3 (h4.imp (fun w0 => w0) fun w0 => fresh_back e w0) fun b o hb ho => h5 b o hb (e _ _ ho)
theorem rv_ixKi {d f : Addr} {es : Array DictEntry} {z : Int} {H : Hp} (e : findBy Value.isInt es z = some (.ref f)) : RV (rIxKi d es) (.ref d) (.int z) H (.ref f) := fun H1 _ _ q => ⟨z, .ref f, .ref f, rfl, rfl, e, rfl, q H1 (Ex.refl H1)⟩
theorem rv_inKi {d : Addr} {es : Array DictEntry} {z : Int} {H : Hp} : RV (rInKi d es) (.int z) (.ref d) H (.bl (findBy Value.isInt es z).isSome) := fun H1 _ _ q => ⟨z, rfl, rfl, q H1 (Ex.refl H1)⟩
/-- a table of the module: which def answers which number -/
def Table (P : Program) (w : World) (K : PySem.W.Frag) (mg : Str → Option Value) (base : Heap) (k : Nat) (es : Array DictEntry) (lo hi : Nat) (sp : Nat → Sp) : Prop := ∀ n : Nat, lo ≤ n → n ≤ hi → ∃ (f : Addr) (fd : FuncData) (ps : List Str), findBy Value.isInt es (n : Int) = some (.ref f) ∧ FnOk P w K mg base CX0 k f fd ps (sp n) ∧ PySem.W.keepIn K (.ref f) = true ∧ Binds K fd ps []
theorem s_retCall {σ : L2.St} {H : Hp} {D : Ends} {sp : Sp} {tr : TA} {E : XK} {vs : List V} (h : EvA tr σ H vs) (k : ∀ H1, Ex H H1 → sp vs H1 D.rt E) : tRet (tCall sp [] E tr) D σ H := h H (Ex.refl H) _ fun H1 e => by
  rw [List.append_nil]
  exact k H1 e
def sp_is_deed (_ : PySem.W.Frag) : Sp := spV fun vs _ z => ∃ n : Nat, vs = [.int (n : Int)] ∧ n ≤ 17 ∧ z = .bl (decide (1 ≤ n ∧ n ≤ 5))
abbrev st_is_deed : Stmt := top 40
abbrev N_is_deed : List Str := ["number"]
theorem sc_is_deed : FnScope N_is_deed ["number"] (defScope st_is_deed) := ⟨rfl, rfl, rfl, by decide +kernel, rfl, by decide +kernel, by decide +kernel⟩
theorem ok_is_deed (D0 : DefAt K mg "is_deed" st_is_deed ["number"])  {dD : Addr} {esD : Array DictEntry} {nD : Nat} (c_DEEDS : mg "DEEDS" = some (.ref dD)) (k_DEEDS : KDi K dD esD nD) (s_DEEDS : ∀ n : Nat, n ≤ 17 → (findBy Value.isInt esD (n : Int)).isSome = decide (1 ≤ n ∧ n ≤ 5)) : Fn P w K mg base "is_deed" 1 (sp_is_deed K) := by
  refine D0.fn fun f fd F => F.ok sc_is_deed (fun vs H Q E h => ?_) (fun cdv A outer s H vs Q E hr h => ?_)
  · obtain ⟨z, H0, e0, ⟨n, rfl, hn, rfl⟩, q⟩ := h; rfl
  · obtain ⟨z, H0, e0, ⟨n, rfl, hn, rfl⟩, q⟩ := h
    refine ⟨_, (pss_one (ps_ret (pe_cmpR (op_in_ki k_DEEDS) (pv 0) (pe_glob (v := .ref _) rfl c_DEEDS rfl) (by rfl)))), ?_⟩
    exact s_ret (ev_is (ev_op (ev_var rfl) ev_c rv_inKi) (congrArg V.bl (s_DEEDS n hn))) q
def sp_answer_of_deed (K : PySem.W.Frag) : Sp := fun vs H Q _ => ∃ (a l pp : Addr) (ws : Sr120.Workshop) (xs : List V) (c : Sr120.Call) (n : Nat), vs = [.ref a, .int (n : Int), .ref pp] ∧ QArg K [.ref a, .ref pp] H a l pp ws xs ∧ dA n xs c ∧ After K H a l ws c Q
abbrev st_answer_of_deed : Stmt := top 41
abbrev N_answer_of_deed : List Str := ["wall", "number", "parts", "deed"]
theorem sc_answer_of_deed : FnScope N_answer_of_deed ["wall", "number", "parts"] (defScope st_answer_of_deed) := ⟨rfl, rfl, rfl, by decide +kernel, rfl, by decide +kernel, by decide +kernel⟩
theorem ok_answer_of_deed (D0 : DefAt K mg "answer_of_deed" st_answer_of_deed ["wall", "number", "parts"])  {dD : Addr} {esD : Array DictEntry} {nD : Nat} (c_DEEDS : mg "DEEDS" = some (.ref dD)) (k_DEEDS : KDi K dD esD nD) (t_DEEDS : Table P w K mg base 3 esD 1 5 fun n => spD K (dA n)) : Fn P w K mg base "answer_of_deed" 4 (sp_answer_of_deed K) := by
  refine D0.fn fun f fd F => F.ok sc_answer_of_deed (fun vs H Q E h => ?_) (fun cdv A outer s H vs Q E hr h => ?_)
  · obtain ⟨a, l, pp, ws, xs, c, n, rfl, _⟩ := h; rfl
  · obtain ⟨a, l, pp, ws, xs, c, n, rfl, hq, hc, k⟩ := h; obtain ⟨hn1, hn2⟩ := dA_num hc; obtain ⟨f1, fd1, ps1, hf, hF, hk, hb⟩ := t_DEEDS n hn1 hn2
    refine ⟨_, (pss_cons (ps_set (i := 3) sc_answer_of_deed.nd rfl (Or.inl rfl) (pe_ix (ix_ki k_DEEDS) (pe_glob (v := .ref _) rfl c_DEEDS rfl) (pv 1) (fun _ _ => rfl))) (pss_one (ps_ret (pe_callL (i := 3) (f := f1) hF hr rfl (.inl rfl) hk hb .nil pass0 (pa_cons (pv 0) (pa_cons (pv 2) pa_nil)))))), ?_⟩
    refine q_asg (ev_op ev_c (ev_var rfl) (rv_ixKi hf)) fun H1 e1 => ?_
    refine ⟨rfl, (ea_cons (ev_var rfl) (ea_cons (ev_var rfl) ea_nil) : EvA _ _ H1 [.ref a, .ref pp]) H1 (Ex.refl _) _ fun H2 e2 => ?_⟩
    exact ⟨a, l, pp, ws, xs, c, hq.mono (e1.trans e2), hc, k.mono (e1.trans e2)⟩
def sp_answer_of_question (K : PySem.W.Frag) : Sp := spL fun vs H zs => ∃ (a l pp : Addr) (ws : Sr120.Workshop) (xs : List V) (c : Sr120.Call) (n : Nat), vs = [.ref a, .int (n : Int), .ref pp] ∧ QArg K [.ref a, .ref pp] H a l pp ws xs ∧ qA n H xs c ∧ zs = ans ws c
abbrev st_answer_of_question : Stmt := top 83
abbrev N_answer_of_question : List Str := ["wall", "number", "parts", "question"]
theorem sc_answer_of_question : FnScope N_answer_of_question ["wall", "number", "parts"] (defScope st_answer_of_question) := ⟨rfl, rfl, rfl, by decide +kernel, rfl, by decide +kernel, by decide +kernel⟩
theorem ok_answer_of_question (D0 : DefAt K mg "answer_of_question" st_answer_of_question ["wall", "number", "parts"])  {dQ : Addr} {esQ : Array DictEntry} {nQ : Nat} (c_QUESTIONS : mg "QUESTIONS" = some (.ref dQ)) (k_QUESTIONS : KDi K dQ esQ nQ) (t_QUESTIONS : Table P w K mg base 9 esQ 6 17 fun n => spQ K (qA n)) : Fn P w K mg base "answer_of_question" 10 (sp_answer_of_question K) := by
  refine D0.fn fun f fd F => F.ok sc_answer_of_question (fun vs H Q E h => ?_) (fun cdv A outer s H vs Q E hr h => ?_)
  · obtain ⟨z, H0, e0, ⟨a, l, pp, ws, xs, c, n, rfl, _⟩, k⟩ := h; rfl
  · obtain ⟨z, H0, e0, ⟨a, l, pp, ws, xs, c, n, rfl, hq, hc, rfl⟩, k⟩ := h; obtain ⟨hn1, hn2⟩ := qA_num hc; obtain ⟨f1, fd1, ps1, hf, hF, hk, hb⟩ := t_QUESTIONS n hn1 hn2
    refine ⟨_, (pss_cons (ps_set (i := 3) sc_answer_of_question.nd rfl (Or.inl rfl) (pe_ix (ix_ki k_QUESTIONS) (pe_glob (v := .ref _) rfl c_QUESTIONS rfl) (pv 1) (fun _ _ => rfl))) (pss_one (ps_ret (pe_callL (i := 3) (f := f1) hF hr rfl (.inl rfl) hk hb .nil pass0 (pa_cons (pv 0) (pa_cons (pv 2) pa_nil)))))), ?_⟩
    refine q_asg (ev_op ev_c (ev_var rfl) (rv_ixKi hf)) fun H1 e1 => ?_
    refine ⟨rfl, (ea_cons (ev_var rfl) (ea_cons (ev_var rfl) ea_nil) : EvA _ _ H1 [.ref a, .ref pp]) H1 (Ex.refl _) _ fun H2 e2 => ?_⟩
    have e12 := e1.trans e2
    exact ⟨_, H2, Ex.refl _, ⟨a, l, pp, ws, xs, c, hq.mono (e0.trans e12), qA_mono (e0.trans e12) hc, rfl⟩, fun p H' hp e h => k p H' (fresh_back e12 hp) (e12.trans e) h⟩
def sp_answer_of (K : PySem.W.Frag) : Sp := fun vs H Q _ => (∃ (n pp : V), vs = [.non, n, pp] ∧ ∀ p H', H p = none → Ex H H' → H' p = some (.lst [.int (-11)]) → Q (.ref p) H') ∨
  ∃ (a l pp : Addr) (ws : Sr120.Workshop) (xs : List V) (c : Sr120.Call) (n : Nat), vs = [.ref a, .int (n : Int), .ref pp] ∧ QArg K [.ref a, .ref pp] H a l pp ws xs ∧ (dA n xs c ∨ qA n H xs c) ∧ After K H a l ws c Q
abbrev st_answer_of : Stmt := top 85
abbrev N_answer_of : List Str := ["wall", "number", "parts"]
theorem sc_answer_of : FnScope N_answer_of ["wall", "number", "parts"] (defScope st_answer_of) := ⟨rfl, rfl, rfl, by decide +kernel, rfl, by decide +kernel, by decide +kernel⟩
theorem ok_answer_of (D0 : DefAt K mg "answer_of" st_answer_of ["wall", "number", "parts"]) (c_NO_INSTANCE : CI mg "NO_INSTANCE" (-11)) (f_is_deed : Fn P w K mg base "is_deed" 1 (sp_is_deed K)) (f_answer_of_question : Fn P w K mg base "answer_of_question" 10 (sp_answer_of_question K)) (f_answer_of_deed : Fn P w K mg base "answer_of_deed" 4 (sp_answer_of_deed K))  : Fn P w K mg base "answer_of" 11 (sp_answer_of K) := by
  refine D0.fn fun f fd F => F.ok sc_answer_of (fun vs H Q E h => ?_) (fun cdv A outer s H vs Q E hr h => ?_)
  · rcases h with ⟨n, pp, rfl, _⟩ | ⟨a, l, pp, ws, xs, c, n, rfl, _⟩ <;> rfl
  · skip
    refine ⟨_, (pss_cons (ps_if (pt_cmpR op_isN (pv 0) pe_non (nomark _)) (pss_one (ps_ret (pe_lst (pa_cons (pe_ci c_NO_INSTANCE rfl) pa_nil)))) pss_nil) (pss_cons (ps_if (pt_val (pe_fn f_is_deed hr (by decide) rfl (pa_cons (pv 1) pa_nil))) (pss_one (ps_ret (pe_fn f_answer_of_deed hr (by decide) rfl (pa_cons (pv 0) (pa_cons (pv 1) (pa_cons (pv 2) pa_nil)))))) pss_nil) (pss_one (ps_ret (pe_fn f_answer_of_question hr (by decide) rfl (pa_cons (pv 0) (pa_cons (pv 1) (pa_cons (pv 2) pa_nil)))))))), ?_⟩
    rcases h with ⟨n, pp, rfl, k⟩ | ⟨a, l, pp, ws, xs, c, n, rfl, hq, hc, k⟩
    · refine q_when (et_test (ev_op (ev_var rfl) ev_c rv_isN)) (fun hb H2 e2 => ?_) (fun hb H2 e2 => ?_)
      · exact s_retL (el_lst (ea_cons ev_c ea_nil) (by show 1 ≤ 100000; decide)) fun p H3 h3 e3 g3 => k p H3 (fresh_back e2 h3) (e2.trans e3) g3
      · cases hb
    · refine q_when (et_test (ev_op (ev_var rfl) ev_c rv_isN)) (fun hb H2 e2 => ?_) (fun hb H2 e2 => ?_)
      · cases hb
      · have hn17 : n ≤ 17 := by
          rcases hc with w0 | w0
          · have := dA_num w0
            omega
          · exact (qA_num w0).2
        refine q_when (et_B (ev_fn (ea_cons (ev_var rfl) ea_nil) fun H3 e3 => ⟨n, rfl, hn17, rfl⟩)) (fun hb3 H3 e3 => ?_) (fun hb3 H3 e3 => ?_)
        · have h5 := of_decide_eq_true hb3
          have hd : dA n xs c := hc.elim (fun w0 => w0) fun w0 => by
            have := qA_num w0
            omega
          have e23 := e2.trans e3
          refine s_retCall (vs := [.ref a, .int (n : Int), .ref pp]) (ea_cons (ev_var rfl) (ea_cons (ev_var rfl) (ea_cons (ev_var rfl) ea_nil))) fun H4 e4 => ?_
          exact ⟨a, l, pp, ws, xs, c, n, rfl, hq.mono (e23.trans e4), hd, k.mono (e23.trans e4)⟩
        · have h5 := of_decide_eq_false hb3
          have hd : qA n H xs c := hc.elim (fun w0 => by
            have := dA_num w0
            omega) fun w0 => w0
          have e23 := e2.trans e3
          refine s_retCall (vs := [.ref a, .int (n : Int), .ref pp]) (ea_cons (ev_var rfl) (ea_cons (ev_var rfl) (ea_cons (ev_var rfl) ea_nil))) fun H4 e4 => ?_
          have e24 := e23.trans e4
          exact ⟨_, H4, Ex.refl _, ⟨a, l, pp, ws, xs, c, n, rfl, hq.mono e24, qA_mono e24 hd, rfl⟩, fun p H' hp e h => k.same hq.wl hq.ms (qA_same ws hd) (fresh_back e24 hp) (e24.trans e) h⟩
end
end Tw
namespace Tw
open PySem PySem.Spec PyProof.Rows L2 Evl
section
variable {P : Program} {w : World} {K : PySem.W.Frag} {mg : Str → Option Value} {base : Heap}
/-! ### the forms of the calls -/
def fA : Nat → List Int → List (List Int) → Sr120.Call → Prop
  | 1 => fun a xs c => ∃ p r s : Int, a = [p, r, s] ∧ xs = [] ∧ c = .addMachine p r s
  | 2 => fun a xs c => ∃ i : Int, a = [i] ∧ xs = [] ∧ c = .removeMachine i
  | 3 => fun a xs c => ∃ i t : Int, a = [i, t] ∧ xs = [] ∧ c = .setPosition i t
  | 4 => fun a xs c => ∃ i t : Int, a = [i, t] ∧ xs = [] ∧ c = .setRunTime i t
  | 5 => fun a xs c => ∃ i t : Int, a = [i, t] ∧ xs = [] ∧ c = .setServiceTime i t
  | 6 => fun _ _ c => c = .minCycleTime
  | 7 => fun _ _ c => c = .bestTour
  | 8 => fun a xs c => ∃ ns : List Int, a = [] ∧ xs = [ns] ∧ ns.length ≤ 70 ∧ c = .cycleTime ns
  | 9 => fun _ _ c => c = .wallOrder
  | 10 => fun a xs c => ∃ ns : List Int, a = [] ∧ xs = [ns] ∧ ns.length ≤ 70 ∧ c = .startTimes ns
  | 11 => fun a xs c => ∃ i : Int, a = [i] ∧ xs = [] ∧ c = .idleTime i
  | 12 => fun _ _ c => c = .utilization
  | 13 => fun a xs c => ∃ i : Int, a = [i] ∧ xs = [] ∧ c = .largestGroup i
  | 14 => fun a xs c => ∃ i : Int, a = [i] ∧ xs = [] ∧ c = .bestTourOf i
  | 15 => fun a xs c => ∃ (cy : Int) (ns st : List Int), a = [cy] ∧ xs = [ns, st] ∧ ns.length ≤ 70 ∧ st.length ≤ 70 ∧ c = .checkSchedule cy ns st
  | 16 => fun a xs c => ∃ i t : Int, a = [i, t] ∧ xs = [] ∧ c = .minCycleTimeIf i t
  | 17 => fun _ _ c => c = .listMachines
  | _ => fun _ _ _ => False
theorem row70 {r : List Int} (h : Sr120Neutral.isListArgument r = true) : r.length ≤ 70 := by
  unfold Sr120Neutral.isListArgument at h
  rw [Bool.and_eq_true, decide_eq_true_eq] at h
  exact h.2
/-- what is asked of a call tells its form -/
theorem call_form {c : List (List Int)} (h : Sr120Neutral.asked1 c = true) : c = [[0]] ∨ ∃ (n : Nat) (a : List Int) (xs : List (List Int)) (call : Sr120.Call), c = ((n : Int) :: a) :: xs ∧ 1 ≤ n ∧ Sr120Neutral.parseCall c = some call ∧ call ≠ .create ∧ fA n a xs call := by
  unfold Sr120Neutral.asked1 at h
  split at h
  · exact .inl rfl
  · exact .inr ⟨1, _, _, _, rfl, by decide, rfl, (by intro q; cases q), _, _, _, rfl, rfl, rfl⟩
  · exact .inr ⟨2, _, _, _, rfl, by decide, rfl, (by intro q; cases q), _, rfl, rfl, rfl⟩
  · exact .inr ⟨3, _, _, _, rfl, by decide, rfl, (by intro q; cases q), _, _, rfl, rfl, rfl⟩
  · exact .inr ⟨4, _, _, _, rfl, by decide, rfl, (by intro q; cases q), _, _, rfl, rfl, rfl⟩
  · exact .inr ⟨5, _, _, _, rfl, by decide, rfl, (by intro q; cases q), _, _, rfl, rfl, rfl⟩
  · exact .inr ⟨6, _, _, _, rfl, by decide, rfl, (by intro q; cases q), rfl⟩
  · exact .inr ⟨7, _, _, _, rfl, by decide, rfl, (by intro q; cases q), rfl⟩
  · exact .inr ⟨8, _, _, _, rfl, by decide, rfl, (by intro q; cases q), _, rfl, rfl, row70 h, rfl⟩
  · exact .inr ⟨9, _, _, _, rfl, by decide, rfl, (by intro q; cases q), rfl⟩
  · exact .inr ⟨10, _, _, _, rfl, by decide, rfl, (by intro q; cases q), _, rfl, rfl, row70 h, rfl⟩
  · exact .inr ⟨11, _, _, _, rfl, by decide, rfl, (by intro q; cases q), _, rfl, rfl, rfl⟩
  · exact .inr ⟨12, _, _, _, rfl, by decide, rfl, (by intro q; cases q), rfl⟩
  · exact .inr ⟨13, _, _, _, rfl, by decide, rfl, (by intro q; cases q), _, rfl, rfl, rfl⟩
  · exact .inr ⟨14, _, _, _, rfl, by decide, rfl, (by intro q; cases q), _, rfl, rfl, rfl⟩
  · rw [Bool.and_eq_true, Bool.and_eq_true] at h
    exact .inr ⟨15, _, _, _, rfl, by decide, rfl, (by intro q; cases q), _, _, _, rfl, rfl, row70 h.1.2, row70 h.2, rfl⟩
  · exact .inr ⟨16, _, _, _, rfl, by decide, rfl, (by intro q; cases q), _, _, rfl, rfl, rfl⟩
  · exact .inr ⟨17, _, _, _, rfl, by decide, rfl, (by intro q; cases q), rfl⟩
  · cases h
theorem obs_one {H : Hp} {qs : List Addr} {x : List Int} (h : ObsP gI H qs [x]) : ∃ q, qs = [q] ∧ H q = some (.lst (x.map V.int)) := by
  match qs, h with
  | [q], h => exact ⟨q, rfl, h.1⟩
  | _ :: _ :: _, h => exact h.2.elim
theorem obs_two {H : Hp} {qs : List Addr} {x y : List Int} (h : ObsP gI H qs [x, y]) : ∃ q r, qs = [q, r] ∧ H q = some (.lst (x.map V.int)) ∧ H r = some (.lst (y.map V.int)) := by
  match qs, h with
  | [q, r], h => exact ⟨q, r, rfl, h.1, h.2.1⟩
  | [_], h => exact h.2.elim
  | _ :: _ :: _ :: _, h => exact h.2.2.elim
theorem obs_nil {H : Hp} {qs : List Addr} (h : ObsP gI H qs []) : qs = [] := by
  match qs, h with
  | [], _ => rfl
  | _ :: _, h => exact h.elim
/-- the parts on the heap are the parts of the form -/
theorem form_parts {H : Hp} {qs : List Addr} : ∀ {n : Nat} {a : List Int} {xs : List (List Int)} {c : Sr120.Call}, fA n a xs c → ObsP gI H qs xs → dA n (a.map V.int ++ qs.map V.ref) c ∨ qA n H (a.map V.int ++ qs.map V.ref) c
  | 0, _, _, _, h, _ => h.elim
  | 1, _, _, _, h, ho => by
    obtain ⟨p, r, s, rfl, rfl, rfl⟩ := h
    rw [obs_nil ho]
    exact .inl ⟨_, _, _, rfl, rfl⟩
  | 2, _, _, _, h, ho => by
    obtain ⟨i, rfl, rfl, rfl⟩ := h
    rw [obs_nil ho]
    exact .inl ⟨_, rfl, rfl⟩
  | 3, _, _, _, h, ho => by
    obtain ⟨i, t, rfl, rfl, rfl⟩ := h
    rw [obs_nil ho]
    exact .inl ⟨_, _, rfl, rfl⟩
  | 4, _, _, _, h, ho => by
    obtain ⟨i, t, rfl, rfl, rfl⟩ := h
    rw [obs_nil ho]
    exact .inl ⟨_, _, rfl, rfl⟩
  | 5, _, _, _, h, ho => by
    obtain ⟨i, t, rfl, rfl, rfl⟩ := h
    rw [obs_nil ho]
    exact .inl ⟨_, _, rfl, rfl⟩
  | 6, _, _, _, h, _ => .inr h
  | 7, _, _, _, h, _ => .inr h
  | 8, _, _, _, h, ho => by
    obtain ⟨ns, rfl, rfl, h70, rfl⟩ := h
    obtain ⟨q, rfl, hq⟩ := obs_one ho
    exact .inr ⟨q, ns, rfl, hq, h70, rfl⟩
  | 9, _, _, _, h, _ => .inr h
  | 10, _, _, _, h, ho => by
    obtain ⟨ns, rfl, rfl, h70, rfl⟩ := h
    obtain ⟨q, rfl, hq⟩ := obs_one ho
    exact .inr ⟨q, ns, rfl, hq, h70, rfl⟩
  | 11, _, _, _, h, ho => by
    obtain ⟨i, rfl, rfl, rfl⟩ := h
    rw [obs_nil ho]
    exact .inr ⟨_, rfl, rfl⟩
  | 12, _, _, _, h, _ => .inr h
  | 13, _, _, _, h, ho => by
    obtain ⟨i, rfl, rfl, rfl⟩ := h
    rw [obs_nil ho]
    exact .inr ⟨_, rfl, rfl⟩
  | 14, _, _, _, h, ho => by
    obtain ⟨i, rfl, rfl, rfl⟩ := h
    rw [obs_nil ho]
    exact .inr ⟨_, rfl, rfl⟩
  | 15, _, _, _, h, ho => by
    obtain ⟨cy, ns, st, rfl, rfl, h1, h2, rfl⟩ := h
    obtain ⟨q, r, rfl, hq, hr⟩ := obs_two ho
    exact .inr ⟨q, r, ns, st, cy, rfl, hq, hr, h1, h2, rfl⟩
  | 16, _, _, _, h, ho => by
    obtain ⟨i, t, rfl, rfl, rfl⟩ := h
    rw [obs_nil ho]
    exact .inr ⟨_, _, rfl, rfl⟩
  | 17, _, _, _, h, _ => .inr h
  | n + 18, _, _, _, h, _ => h.elim
/-! ### one call after another -/
theorem step_create (s : Sr120Neutral.S) : Sr120Neutral.step s [[0]] = (some [], [0]) := rfl
theorem step_none {c : List (List Int)} {call : Sr120.Call} (h : Sr120Neutral.parseCall c = some call) (hn : call ≠ .create) : Sr120Neutral.step none c = (none, [-11]) := by
  unfold Sr120Neutral.step
  rw [h]
  cases call <;> first | rfl | exact absurd rfl hn
theorem step_some {c : List (List Int)} {call : Sr120.Call} {ws : Sr120.Workshop} (h : Sr120Neutral.parseCall c = some call) (hn : call ≠ .create) : Sr120Neutral.step (some ws) c = (some (newW ws call), (Sr120.perform ws call).2.code :: (Sr120.perform ws call).2.values) := by
  have e : Sr120.step (some ws) call = (some (newW ws call), (Sr120.perform ws call).2) := by
    unfold newW
    unfold Sr120.step
    cases call <;> first
      | exact absurd rfl hn
      | (dsimp only
         split <;> (rename_i q; rw [q]; rfl))
  unfold Sr120Neutral.step
  rw [h]
  dsimp only
  rw [e]
theorem newW_valid {ws : Sr120.Workshop} (V0 : Valid ws) : ∀ call : Sr120.Call, Valid (newW ws call)
  | .create => V0
  | .addMachine p r s => by
    unfold newW
    by_cases hb : (!Sr120.isLength p || (!Sr120.isLength r || !Sr120.isServiceTime s)) = true
    · rw [add_bad hb]
      exact V0
    · have hb := Bool.eq_false_iff.mpr hb
      rw [add_ok hb]
      by_cases h6 : 6 ≤ ws.length
      · rw [if_pos h6]
        exact V0
      · rw [if_neg h6]
        rw [Bool.or_eq_false_iff, Bool.or_eq_false_iff] at hb
        have b1 := len_iff.mp (not_false' hb.1)
        have b2 := len_iff.mp (not_false' hb.2.1)
        have b3 := serv_iff.mp (not_false' hb.2.2)
        refine ⟨?_, fun m hm => ?_⟩
        · show (ws ++ [_]).length ≤ 6
          rw [List.length_append]
          show ws.length + 1 ≤ 6
          omega
        · rcases List.mem_append.mp (show m ∈ ws ++ [_] from hm) with w0 | w0
          · exact V0.ok m w0
          · rw [List.mem_singleton.mp w0]
            dsimp only
            omega
  | .removeMachine i => by
    unfold newW
    rw [rem_is]
    split
    · exact V0
    · refine ⟨?_, fun m hm => V0.ok m (List.mem_of_mem_eraseIdx hm)⟩
      have := List.length_eraseIdx_le ws i.toNat
      have := V0.len
      show (ws.eraseIdx i.toNat).length ≤ 6
      omega
  | .setPosition i t => by
    unfold newW
    rw [setp_is]
    by_cases h1 : SrCommon.isIndex i ws.length = false
    · rw [if_pos h1]
      exact V0
    · by_cases h2 : Sr120.isLength t = false
      · rw [if_neg h1, if_pos h2]
        exact V0
      · rw [if_neg h1, if_neg h2]
        have b := V0.at (index_nat (Bool.not_eq_false _ ▸ h1)).2
        have ht := len_iff.mp (Bool.not_eq_false _ ▸ h2)
        exact V0.set ⟨by show t.toNat ≤ 99; omega, b.2.1, b.2.2.1, b.2.2.2⟩
  | .setRunTime i t => by
    unfold newW
    rw [setr_is]
    by_cases h1 : SrCommon.isIndex i ws.length = false
    · rw [if_pos h1]
      exact V0
    · by_cases h2 : Sr120.isLength t = false
      · rw [if_neg h1, if_pos h2]
        exact V0
      · rw [if_neg h1, if_neg h2]
        have b := V0.at (index_nat (Bool.not_eq_false _ ▸ h1)).2
        have ht := len_iff.mp (Bool.not_eq_false _ ▸ h2)
        exact V0.set ⟨b.1, by show t.toNat ≤ 99; omega, b.2.2.1, b.2.2.2⟩
  | .setServiceTime i t => by
    unfold newW
    rw [sets_is]
    by_cases h1 : SrCommon.isIndex i ws.length = false
    · rw [if_pos h1]
      exact V0
    · by_cases h2 : Sr120.isServiceTime t = false
      · rw [if_neg h1, if_pos h2]
        exact V0
      · rw [if_neg h1, if_neg h2]
        have b := V0.at (index_nat (Bool.not_eq_false _ ▸ h1)).2
        have ht := serv_iff.mp (Bool.not_eq_false _ ▸ h2)
        exact V0.set ⟨b.1, b.2.1, by show 1 ≤ t.toNat; omega, by show t.toNat ≤ 99; omega⟩
  | .minCycleTime => V0
  | .bestTour => V0
  | .cycleTime _ => V0
  | .wallOrder => V0
  | .startTimes _ => V0
  | .idleTime _ => V0
  | .utilization => V0
  | .largestGroup _ => V0
  | .bestTourOf _ => V0
  | .checkSchedule _ _ _ => V0
  | .minCycleTimeIf _ _ => V0
  | .listMachines => V0
def runS : Sr120Neutral.S → List (List (List Int)) → Sr120Neutral.S := fun s cs => cs.foldl (fun s c => (Sr120Neutral.step s c).1) s
theorem played_snoc : ∀ (cs : List (List (List Int))) (s : Sr120Neutral.S) (c : List (List Int)), PyFlat.played Sr120Neutral.step s (cs ++ [c]) = PyFlat.played Sr120Neutral.step s cs ++ [(Sr120Neutral.step (runS s cs) c).2]
  | [], _, _ => rfl
  | d :: cs, s, c => by
    show (Sr120Neutral.step s d).2 :: PyFlat.played Sr120Neutral.step (Sr120Neutral.step s d).1 (cs ++ [c]) = _
    rw [played_snoc cs]
    rfl
theorem runS_snoc (cs : List (List (List Int))) (s : Sr120Neutral.S) (c : List (List Int)) : runS s (cs ++ [c]) = (Sr120Neutral.step (runS s cs) c).1 := by
  unfold runS
  rw [List.foldl_append]
  rfl
theorem told_snoc (l : List (List Int)) (x : List Int) : PyFlat.told (l ++ [x]) = PyFlat.told l ++ ((x.length : Int) :: x) := by
  unfold PyFlat.told
  rw [List.flatMap_append, List.flatMap_cons, List.flatMap_nil, List.append_nil]
/-- what is answered by the first i calls -/
def outs (cs : List (List (List Int))) (i : Nat) : List Int := PyFlat.told (PyFlat.played Sr120Neutral.step Sr120Neutral.start (cs.take i))
def stateAt (cs : List (List (List Int))) (i : Nat) : Sr120Neutral.S := runS Sr120Neutral.start (cs.take i)
theorem outs_succ {cs : List (List (List Int))} {i : Nat} {c : List (List Int)} (h : cs[i]? = some c) : outs cs (i + 1) = outs cs i ++ (((Sr120Neutral.step (stateAt cs i) c).2.length : Int) :: (Sr120Neutral.step (stateAt cs i) c).2) := by
  unfold outs
  rw [take_more h, played_snoc, told_snoc]
  rfl
theorem state_succ {cs : List (List (List Int))} {i : Nat} {c : List (List Int)} (h : cs[i]? = some c) : stateAt cs (i + 1) = (Sr120Neutral.step (stateAt cs i) c).1 := by
  unfold stateAt
  rw [take_more h, runS_snoc]
theorem outs_le (cs : List (List (List Int))) : ∀ k i, i + k = cs.length → (outs cs i).length ≤ (outs cs cs.length).length
  | 0, i, h => by
    have e : i = cs.length := by omega
    rw [e]
    exact Nat.le_refl _
  | k + 1, i, h => by
    have hc : cs[i]? = some cs[i] := List.getElem?_eq_getElem (by omega)
    have ih := outs_le cs k (i + 1) (by omega)
    rw [outs_succ hc, List.length_append] at ih
    omega
theorem line_big {n : Nat} (h : n ≤ 10000000) : n < sizeLine := Nat.lt_of_le_of_lt h (by decide)
/-! ### the instance made -/
abbrev sInit : Stmt := inClass (top 22) 0
def sp_init (C : Addr) : Sp := fun vs H Q _ => ∃ (p dx : Addr), vs = [.ref p] ∧ H p = some (.ins C dx []) ∧ ∀ (H' : Hp) (l : Addr), H' p = some (.ins C dx [("machines", .ref l)]) → H l = none → H' l = some (.lst []) → (∀ b o, b ≠ p → H b = some o → H' b = some o) → Q .non H'
theorem sc_init : FnScope ["self"] ["self"] (defScope sInit) := ⟨rfl, rfl, rfl, by decide +kernel, rfl, by decide +kernel, by decide +kernel⟩
theorem ok_init {f C : Addr} {fd : FuncData} (F : Fun K "__init__" "Wall.__init__" sInit f fd) (cl : Cls K C) (na : NoAttr K C "machines") : FnOk P w K mg base CX0 1 f fd ["self"] (sp_init C) := by
  refine F.ok sc_init (fun vs H Q E h => ?_) (fun cdv A outer s H vs Q E hr h => ?_)
  · obtain ⟨p, dx, rfl, _⟩ := h
    rfl
  · obtain ⟨p, dx, rfl, hp, k⟩ := h
    refine ⟨_, pss_one (ps_fld (pv 0) (pe_lst pa_nil) rfl), ?_⟩
    refine ⟨Nat.zero_le _, fun l hl => ⟨_, rfl, p, C, dx, [], rfl, (Ex.new hl) _ _ hp, cl, na, (by show 0 < 1000; decide), ?_⟩⟩
    have hlp : l ≠ p := fun q => by
      rw [q, hp] at hl
      cases hl
    refine k _ l upd_same hl ?_ fun b o hb ho => ?_
    · rw [upd_ne hlp]
      exact upd_same
    · rw [upd_ne hb]
      exact (Ex.new hl) _ _ ho
/-- for a, b in e, e a list of pairs -/
theorem q_forPT {σ : L2.St} {H : Hp} {D : Ends} {tu tz : TS} {Pz : V → Hp → Prop} {tl : TE} {j1 j2 : Nat} (h : EvP tl σ H Pz) (k : ∀ v H1, Ex H H1 → Pz v H1 → ∃ (a : Addr) (xs : List V), v = .ref a ∧ SqL K H1 a xs ∧ ∃ Pv : Nat → L2.St → Hp → Prop, Pv 0 σ H1 ∧ (∀ i σ' H', i ≤ xs.length → Pv i σ' H' → SqL K H' a xs) ∧
    (∀ i x σ' H', xs[i]? = some x → Pv i σ' H' → ∃ (t : Addr) (u v : V), x = .ref t ∧ H' t = some (.tup [u, v]) ∧ tu { D with nx := Pv (i + 1), ct := Pv (i + 1), bk := tz D } ((σ'.set j1 (some u)).set j2 (some v)) H') ∧ (∀ σ' H', Pv xs.length σ' H' → tz D σ' H')) : tSeq (tFor (iList K tl) (gTup K 2 (gCons (gName j1) (gCons (gName j2) gNil))) tu) tz D σ H :=
  h H (Ex.refl H) _ fun v H1 e hp => by
    obtain ⟨a, xs, rfl, hs, Pv, h0, hl, ht, hd⟩ := k v H1 e hp
    refine ⟨a, rfl, ⟨xs, hs⟩, for_list Pv h0 hl (fun i x σ' H' hx p => ?_) hd⟩
    obtain ⟨t, u, v, rfl, htu, g⟩ := ht i x σ' H' hx p
    exact ⟨t, _, rfl, st_of htu, rfl, u, _, rfl, v, _, rfl, rfl, g⟩
theorem q_ext {σ : L2.St} {H : Hp} {D : Ends} {tz : TS} {l : Addr} {xs ys : List V} {ta te : TE} (hl : H l = some (.lst xs)) (ha : Ev ta σ H (.ref l)) (h : EvP te σ H (LstV ys)) (hz : xs.length + ys.length ≤ sizeLine) (k : ∀ H1, Ex H H1 → tz D σ (upd H1 l (.lst (xs ++ ys)))) :
    tSeq (tDrop (tBM K "list" rExtend ta (tCons te tNil))) tz D σ H := s_ext (D := { D with nx := tz D }) hl ha h hz k
theorem WallOk.upd {H : Hp} {a l F : Addr} {ys zs : List V} (hw : WallOk K H a l) (hF : H F = some (.lst ys)) : WallOk K (upd H F (.lst zs)) a l := by
  obtain ⟨C, dx, h1, h2, h3⟩ := hw
  exact ⟨C, dx, h1, h2, by rw [upd_ne (ne_of h3 hF (by intro z; cases z))]; exact h3⟩
/-- the slot wall, for the state s; F: the answers' list, never part of it; H1: before the loop -/
def StAt (K : PySem.W.Frag) (H1 H : Hp) (F : Addr) (wv : V) : Sr120Neutral.S → Prop
  | none => wv = .non
  | some ws => ∃ a l, wv = .ref a ∧ WallOk K H a l ∧ MsAt H l ws ∧ Valid ws ∧ l ≠ F ∧ H1 a = none
theorem StAt.upd {H1 H : Hp} {F : Addr} {wv : V} {ys zs : List V} (hF : H F = some (.lst ys)) : ∀ {s : Sr120Neutral.S}, StAt K H1 H F wv s → StAt K H1 (upd H F (.lst zs)) F wv s
  | none, h => h
  | some ws, h => by
    obtain ⟨a, l, h1, h2, h3, h4, h5, h6⟩ := h
    exact ⟨a, l, h1, h2.upd hF, h3.upd_lst hF h5, h4, h5, h6⟩
theorem StAt.mono {H1 H H' : Hp} {F : Addr} {wv : V} (e : Ex H H') : ∀ {s : Sr120Neutral.S}, StAt K H1 H F wv s → StAt K H1 H' F wv s
  | none, h => h
  | some ws, h => by
    obtain ⟨a, l, h1, h2, h3, h4, h5, h6⟩ := h
    exact ⟨a, l, h1, h2.mono e, h3.mono e, h4, h5, h6⟩
end
end Tw
namespace Tw
open PySem PySem.Spec PyProof.Rows L2 Evl
section
variable {P : Program} {w : World} {K : PySem.W.Frag} {mg : Str → Option Value} {base : Heap}
theorem StAt.frame {G H H' : Hp} {F : Addr} {wv : V} {ys : List V} (hF : H F = some (.lst ys)) (k : ∀ b o, b ≠ F → H b = some o → H' b = some o) : ∀ {s : Sr120Neutral.S}, StAt K G H F wv s → StAt K G H' F wv s
  | none, h => h
  | some ws, h => by
    obtain ⟨a, l, h1, ⟨C, dx, w1, w2, w3⟩, ⟨rs, m1, m2, m3⟩, h4, h5, h6⟩ := h
    refine ⟨a, l, h1, ⟨C, dx, w1, w2, k _ _ (ne_of w3 hF (by intro z; cases z)) w3⟩, ⟨rs, k _ _ h5 m1, m2, fun i m hi => ?_⟩, h4, h5, h6⟩
    obtain ⟨r, g1, g2⟩ := m3 i m hi
    exact ⟨r, g1, k _ _ (ne_of g2 hF (by intro z; cases z)) g2⟩
theorem s_asgCall {σ : L2.St} {H : Hp} {D : Ends} {sp : Sp} {tr : TA} {E : XK} {vs : List V} {i : Nat} (h : EvA tr σ H vs) (k : ∀ H1, Ex H H1 → sp vs H1 (fun v H2 => D.nx (σ.set i (some v)) H2) E) : tAsg (tCall sp [] E tr) (gName i) D σ H := h H (Ex.refl H) _ fun H1 e => by
  rw [List.append_nil]
  exact k H1 e
/-- found.append(len(told)); found.extend(told) -/
theorem answers_tail {H : Hp} {D : Ends} {n F tl : Addr} {w2 w3 w4 : Option V} {xs ys : List Int} (hF : H F = some (.lst (xs.map V.int))) (ht : H tl = some (.lst (ys.map V.int))) (hne : tl ≠ F) (hz : xs.length + (ys.length + 1) ≤ 10000000)
    (k : ∀ H', H' F = some (.lst ((xs ++ ((ys.length : Int) :: ys)).map V.int)) → (∀ b o, b ≠ F → H b = some o → H' b = some o) → D.nx [some (.ref n), some (.ref F), w2, w3, w4, some (.ref tl)] H') :
    tSeq (tDrop (tBM K "list" rAppend (tVar 1) (tCons (tCB (fun xs H Q => ∃ p ys, xs = [V.ref p] ∧ (SqL K H p ys ∨ SqT K H p ys) ∧ Q (.int ys.length) H) (tCons (tVar 5) tNil)) tNil))) (tDrop (tBM K "list" rExtend (tVar 1) (tCons (tVar 5) tNil))) D [some (.ref n), some (.ref F), w2, w3, w4, some (.ref tl)] H := by
  have hs : sizeLine = 16777216 := by decide
  refine q_appP hF (ev_var rfl) (Ev.toP (ev_len (ev_var rfl) (sq_of ht))) (by rw [List.length_map]; omega) fun v H1 e1 hv => ?_
  subst hv
  have ht1 : (upd H1 F (.lst (xs.map V.int ++ [.int ((ys.map V.int).length : Int)]))) tl = some (.lst (ys.map V.int)) := by
    rw [upd_ne hne]
    exact e1 _ _ ht
  refine s_ext upd_same (ev_var rfl) (Ev.toL (ev_var rfl) ht1) (by rw [List.length_append, List.length_map, List.length_map]; show _ + 1 + _ ≤ _; omega) fun H2 e2 => k _ ?_ fun b o hb ho => ?_
  · rw [upd_same, List.length_map, List.append_assoc, List.map_append]
    rfl
  · rw [upd_ne hb]
    refine e2 _ _ ?_
    rw [upd_ne hb]
    exact e1 _ _ ho
def sp_answers (K : PySem.W.Frag) : Sp := fun vs H Q _ => ∃ (n : Addr) (cs : List (List (List Int))), vs = [.ref n] ∧ SqL K H n ((PyFlat.put cs).map V.int) ∧ (∀ c ∈ cs, PyFlat.okCall PySr120.shape c) ∧ cs.length ≤ 60 ∧ (∀ c ∈ cs, c.length ≤ 1000 ∧ ∀ r ∈ c, r.length ≤ 1000) ∧
  (∀ c ∈ cs, Sr120Neutral.asked1 c = true) ∧ (outs cs cs.length).length ≤ 10000000 ∧ ∀ p H', H' p = some (.lst ((outs cs cs.length).map V.int)) → Q (.ref p) H'
abbrev st_answers : Stmt := top 86
abbrev N_answers : List Str := ["calls", "found", "wall", "number", "parts", "told"]
theorem sc_answers : FnScope N_answers ["calls"] (defScope st_answers) := ⟨rfl, rfl, rfl, by decide +kernel, rfl, by decide +kernel, by decide +kernel⟩
theorem ok_answers {f : Addr} {fd : FuncData} (F : Fun K "answers" "answers" st_answers f fd) (c_CREATE : CI mg "CREATE" (0)) (b_len : mg "len" = none) (f_read_calls : Fn P w K mg base "read_calls" 3 (sp_read_calls K)) (f_answer_of : Fn P w K mg base "answer_of" 11 (sp_answer_of K)) {CW fW : Addr} {fdW : FuncData} (mk_Wall : Mk K CW fW) (ok_Wall : FnOk P w K mg base CX0 1 fW fdW ["self"] (sp_init CW)) (g_Wall : mg "Wall" = some (.ref CW)) (b_Wall : Binds K fdW ["self"] []) (cl_Wall : Cls K CW) (na_Wall : NoAttr K CW "machines") : FnOk P w K mg base CX0 12 f fd ["calls"] (sp_answers K) := by
  refine F.ok sc_answers (fun vs H Q E h => ?_) (fun cdv A outer s H vs Q E hr h => ?_)
  · obtain ⟨n, cs, rfl, _⟩ := h; rfl
  · obtain ⟨n, cs, rfl, hn, hok, hl, hsz, hask, htot, k⟩ := h
    refine ⟨_, (pss_cons (ps_set (i := 1) sc_answers.nd rfl (Or.inl rfl) (pe_lst pa_nil)) (pss_cons (ps_set (i := 2) sc_answers.nd rfl (Or.inl rfl) pe_non) (pss_cons (ps_for PassesOwn.never rfl (pi_list (pe_fn f_read_calls hr (by decide) rfl (pa_cons (pv 0) pa_nil))) (pg_tup rfl (pgs_cons (pg_name (i := 3) sc_answers.nd rfl (Or.inl rfl)) (pgs_cons (pg_name (i := 4) sc_answers.nd rfl (Or.inl rfl)) pgs_nil))) (pss_cons (ps_set (i := 5) sc_answers.nd rfl (Or.inl rfl) (pe_lst (pa_cons pe_int pa_nil))) (pss_cons (ps_if (pt_cmpR op_eq (pv 3) (pe_ci c_CREATE rfl) (nomark _)) (pss_one (ps_set (i := 2) sc_answers.nd rfl (Or.inl rfl) (pe_make0 mk_Wall ok_Wall (hr.mono (by decide)) rfl g_Wall b_Wall .nil pass0))) (pss_one (ps_set (i := 5) sc_answers.nd rfl (Or.inl rfl) (pe_fn f_answer_of hr (by decide) rfl (pa_cons (pv 2) (pa_cons (pv 3) (pa_cons (pv 4) pa_nil))))))) (pss_cons (ps_expr (pe_bm PySem.F.plainAttrs_list PySem.F.slot_list_append PySem.F.type_list_append mt_append (pv 1) (pa_cons (pe_callB call_len_seq (by rfl) b_len (by decide +kernel) (pa_cons (pv 5) pa_nil)) pa_nil))) (pss_one (ps_expr (pe_bm PySem.F.plainAttrs_list PySem.F.slot_list_extend PySem.F.type_list_extend mt_extend (pv 1) (pa_cons (pv 5) pa_nil)))))))) (pss_one (ps_ret (pv 1)))))), ?_⟩
    refine q_asgL (el_lst ea_nil (Nat.zero_le _)) fun F H1 hF e1 h1 => ?_
    refine q_asg ev_c fun H2 e2 => ?_
    have hF2 := e2 _ _ h1
    refine q_forPT (ep_fn (P := CallsV H2 cs) (ea_cons (ev_var rfl) ea_nil) fun H3 e3 => ⟨n, cs, H2, rfl, e3, ex_l ((e1.trans e2).trans e3) hn, hok, hl, hsz, rfl⟩) ?_
    rintro v H3 e3 ⟨D, ts, rfl, hDn, hD, hcs⟩
    have hF3 := e3 _ _ hF2
    have hGF : fr H2 H3 F = none := by
      unfold fr
      rw [hF2]
    refine ⟨D, ts.map V.ref, rfl, sq_of hD, fun i σ' H' => ∃ (wv : V) (v3 v4 v5 : Option V), σ' = [some (.ref n), some (.ref F), some wv, v3, v4, v5] ∧ H' F = some (.lst ((outs cs i).map V.int)) ∧ Ex (fr H2 H3) H' ∧ StAt K (fr H2 H3) H' F wv (stateAt cs i) ∧ i ≤ cs.length,
      ⟨.non, none, none, none, rfl, hF3, fr_ex, rfl, Nat.zero_le _⟩, (fun i σ' H' _ ⟨_, _, _, _, _, _, e', _⟩ => sq_of (e' _ _ (fr_at hDn hD))), ?_, ?_⟩
    · rintro i x σ' H4 hx ⟨wv, v3, v4, v5, rfl, hF4, e4, hst, hi⟩
      obtain ⟨t, hti, rfl⟩ := at_map hx
      obtain ⟨c, hci, p, a, xs, pp, qs, ec, ht, hpp, hobs⟩ := hcs.get hti
      have hil := (List.getElem?_eq_some_iff.mp hci).1
      refine ⟨t, .int p, .ref pp, rfl, e4 _ _ ht, ?_⟩
      have hasked := hask c (List.mem_of_getElem? hci)
      have hsize : ∀ ys : List Int, (Sr120Neutral.step (stateAt cs i) c).2 = ys → (outs cs i).length + (ys.length + 1) ≤ 10000000 := fun ys hy => by
        have h6 := outs_le cs (cs.length - (i + 1)) (i + 1) (by omega)
        rw [outs_succ hci, hy, List.length_append, List.length_cons] at h6
        omega
      refine q_asgL (el_lst (ea_cons ev_c ea_nil) (by show 1 ≤ 100000; decide)) fun tl H5 htl e5 h5 => ?_
      have hF5 := e5 _ _ hF4
      have htlF : tl ≠ F := fun q => by
        rw [q, hF4] at htl
        cases htl
      refine q_if (b := decide (p = 0)) (et_is (et_test (ev_op (ev_var rfl) ev_c (rv_eq rfl))) (decide_eq_decide.mpr ⟨fun w0 => V.int.inj w0, fun w0 => by rw [w0]⟩)) (fun hb H6 e6 => ?_) (fun hb H6 e6 => ?_)
      · -- create
        have hp0 := of_decide_eq_true hb
        have hc0 : c = [[0]] := by
          rcases call_form hasked with w0 | ⟨n0, a0, xs0, call, w1, w2, _⟩
          · exact w0
          · rw [ec] at w1
            have : p = (n0 : Int) := (List.cons.inj (List.cons.inj w1).1).1
            omega
        have hstep : Sr120Neutral.step (stateAt cs i) c = (some [], [0]) := by
          rw [hc0]
          rfl
        intro x dx hx0 hdx hne
        have e46 := e4.trans (e5.trans e6)
        have hF6 := e6 _ _ hF5
        have hFx : F ≠ x := fun q => by
          rw [← q, hF6] at hx0
          cases hx0
        have hFd : F ≠ dx := fun q => by
          rw [← q, hF6] at hdx
          cases hdx
        have ht6 := e6 _ _ h5
        have htx : tl ≠ x := fun q => by
          rw [← q, ht6] at hx0
          cases hx0
        have htd : tl ≠ dx := fun q => by
          rw [← q, ht6] at hdx
          cases hdx
        refine ⟨x, dx, rfl, upd_same, fun H7 l hl1 hl2 hl3 hfr => ⟨rfl, ?_⟩⟩
        have keep : ∀ b o, H6 b = some o → H7 b = some o := fun b o hb6 => by
          have n1 : b ≠ x := fun q => by
            rw [q, hx0] at hb6
            cases hb6
          have n2 : b ≠ dx := fun q => by
            rw [q, hdx] at hb6
            cases hb6
          refine hfr b o n1 ?_
          rw [upd_ne n1, upd_ne n2]
          exact hb6
        have hlF : l ≠ F := fun q => by
          rw [q, upd_ne hFx, upd_ne hFd, hF6] at hl2
          cases hl2
        refine answers_tail (xs := outs cs i) (ys := [0]) (keep _ _ hF6) (keep _ _ ht6) htlF (hsize [0] (by rw [hstep])) fun H8 hF8 hfr8 => ?_
        refine ⟨.ref x, _, _, _, rfl, ?_, ?_, ?_, hil⟩
        · rw [hF8, outs_succ hci, hstep]
        · intro b o hb8
          have nF : b ≠ F := fun q => by
            rw [q, hGF] at hb8
            cases hb8
          exact hfr8 b o nF (keep b o (e46 b o hb8))
        · rw [state_succ hci, hstep]
          refine StAt.frame (keep _ _ hF6) hfr8 (s := some []) ⟨x, l, rfl, ⟨CW, dx, cl_Wall, na_Wall, hl1⟩, ⟨[], hl3, rfl, fun i m hm => by simp at hm⟩, ⟨Nat.zero_le _, fun m hm => nomatch hm⟩, hlF, fresh_back e46 hx0⟩
      · -- another call
        have hp0 := of_decide_eq_false hb
        rcases call_form hasked with w0 | ⟨n0, a0, xs0, call, w1, w2, hparse, hnc, hform⟩
        · rw [ec] at w0
          exact absurd (List.cons.inj (List.cons.inj w0).1).1 hp0
        rw [ec] at w1
        obtain ⟨w3, w4⟩ := List.cons.inj w1
        obtain ⟨w5, w6⟩ := List.cons.inj w3
        subst w4 w5 w6
        have hF6 := e6 _ _ hF5
        have e46 := e4.trans (e5.trans e6)
        cases hs0 : stateAt cs i with
        | none =>
          rw [hs0] at hst
          have hwv : wv = .non := hst
          subst hwv
          have hstep : Sr120Neutral.step (stateAt cs i) c = (none, [-11]) := by
            rw [hs0]
            exact step_none hparse hnc
          refine s_asgCall (vs := [.non, .int (n0 : Int), .ref pp]) (ea_cons (ev_var rfl) (ea_cons (ev_var rfl) (ea_cons (ev_var rfl) ea_nil))) fun H7 e7 => .inl ⟨_, _, rfl, fun p2 H8 hp2 e8 h8 => ?_⟩
          have hF7 := e7 _ _ hF6
          have hp2F : p2 ≠ F := fun q => by
            rw [q, hF7] at hp2
            cases hp2
          have hF8 := e8 _ _ hF7
          refine answers_tail (xs := outs cs i) (ys := [-11]) hF8 h8 hp2F (hsize [-11] (by rw [hstep])) fun H9 hF9 hfr9 => ?_
          refine ⟨.non, _, _, _, rfl, ?_, ?_, ?_, hil⟩
          · rw [hF9, outs_succ hci, hstep]
          · intro b o hb8
            have nF : b ≠ F := fun q => by
              rw [q, hGF] at hb8
              cases hb8
            exact hfr9 b o nF (e8 _ _ (e7 _ _ (e46 b o hb8)))
          · rw [state_succ hci, hstep]
            rfl
        | some ws =>
          rw [hs0] at hst
          obtain ⟨aw, l, rfl, hw, hm, V0, hlF, hGa⟩ := hst
          have hstep : Sr120Neutral.step (stateAt cs i) c = (some (newW ws call), (Sr120.perform ws call).2.code :: (Sr120.perform ws call).2.values) := by
            rw [hs0]
            exact step_some hparse hnc
          refine s_asgCall (vs := [.ref aw, .int (n0 : Int), .ref pp]) (ea_cons (ev_var rfl) (ea_cons (ev_var rfl) (ea_cons (ev_var rfl) ea_nil))) fun H7 e7 => .inr ?_
          have e57 := (e5.trans e6).trans e7
          have e47 := e46.trans e7
          have hF7 := e7 _ _ hF6
          refine ⟨aw, l, pp, ws, a.map V.int ++ qs.map V.ref, call, n0, rfl, ⟨rfl, hw.mono e57, hm.mono e57, e47 _ _ hpp, V0⟩, form_parts hform (hobs.mono e47), ?_⟩
          intro p2 H8 l' hp2 hans hw8 hm8 hl8 hfr8
          have hFa : F ≠ aw := by
            obtain ⟨C, dx, _, _, hwa⟩ := hw
            exact fun q => ne_of (e57 _ _ hwa) hF7 (by intro z; cases z) q.symm
          have hF8 := hfr8 _ _ hFa hF7
          have hp2F : p2 ≠ F := fun q => by
            rw [q, hF7] at hp2
            cases hp2
          have hl8F : l' ≠ F := by
            rcases hl8 with w0 | w0
            · rw [w0]
              exact hlF
            · intro q
              rw [q, hF7] at w0
              cases w0
          refine answers_tail (xs := outs cs i) (ys := (Sr120.perform ws call).2.code :: (Sr120.perform ws call).2.values) hF8 hans hp2F (hsize _ (by rw [hstep])) fun H9 hF9 hfr9 => ?_
          refine ⟨.ref aw, _, _, _, rfl, ?_, ?_, ?_, hil⟩
          · rw [hF9, outs_succ hci, hstep]
          · intro b o hb8
            have nF : b ≠ F := fun q => by
              rw [q, hGF] at hb8
              cases hb8
            have na : b ≠ aw := fun q => by
              rw [q, hGa] at hb8
              cases hb8
            exact hfr9 b o nF (hfr8 b o na (e47 b o hb8))
          · rw [state_succ hci, hstep]
            exact StAt.frame hF8 hfr9 (s := some (newW ws call)) ⟨aw, l', rfl, hw8, hm8, newW_valid V0 call, hl8F, hGa⟩
    · rintro σ' H4 ⟨wv, v3, v4, v5, rfl, hF4, e4, hst, hi⟩
      rw [List.length_map, hcs.len] at hF4
      exact s_ret (ev_var rfl) fun H5 e5 => k F H5 (e5 _ _ hF4)
end
end Tw
namespace Tw
open PySem PySem.Spec PyProof.Rows L2 Evl
/-! ### what the top has written -/
theorem DefAt.mk' {K : PySem.W.Frag} {h : Heap} {mg : Str → Option Value} {x : Str} {st : Stmt} {ps : List Str} (X : K.In h) (G : h.Ns mainGlobals mg) {f : Addr} {oc : Value} {od an : Option Addr} {osl : Array (Option Value)} {kV doc pm cdv ct : Value} (a : PySem.W.nsIn K mainGlobals x = some (some (.ref f)))
    (l : K.lookup f = some ⟨oc, od, .func (PySem.W.fnOf x x (defArgs st) (defBody st) (defScope st) .none kV doc pm an cdv ct), osl⟩) (c : PySem.W.codeIn K cdv x = true) (k : PySem.W.keepIn K (.ref f) = true)
    (hb : ∀ (kV doc pm : Value) (an : Option Addr) (cdv ct : Value) (us : List Value), us.length = ps.length → bindArgs (PySem.W.fnOf x x (defArgs st) (defBody st) (defScope st) .none kV doc pm an cdv ct) ⟨us, []⟩ = pure (ps.zip us)) : DefAt K mg x st ps :=
  ⟨f, _, PySem.W.mg_of X G a, fun_mk l c k, (fun_mk l c k).binds hb⟩
theorem ci_mk {K : PySem.W.Frag} {h : Heap} {mg : Str → Option Value} {x : Str} {v : Int} {t : Tok} (X : K.In h) (G : h.Ns mainGlobals mg) (a : PySem.W.nsIn K mainGlobals x = some (some (.int v t))) : CI mg x v := ⟨t, PySem.W.mg_of X G a⟩
/-- a tuple of the written part -/
def TupK (K : PySem.W.Frag) (a : Addr) (xs : List V) : Prop := ∃ (o : Obj) (its : Array Value) (n : Nat), K.lookup a = some o ∧ o.cls = .type "tuple" ∧ o.data = .seq its n ∧ its.size ≤ sizeLine ∧ Vals xs its.toList
theorem tupK_mk {K : PySem.W.Frag} {a : Addr} {xs : List V} {d : Option Addr} {its : Array Value} {n : Nat} {sl : Array (Option Value)} (l : K.lookup a = some ⟨.type "tuple", d, .seq its n, sl⟩) (hz : its.size ≤ sizeLine) (v : Vals xs its.toList) : TupK K a xs := ⟨_, its, n, l, rfl, rfl, hz, v⟩
theorem shapes_of {K : PySem.W.Frag} {S s0 s1 s2 s3 s4 s5 s6 s7 s8 s9 s10 s11 s12 s13 s14 s15 s16 s17 : Addr} (hS : TupK K S [.ref s0, .ref s1, .ref s2, .ref s3, .ref s4, .ref s5, .ref s6, .ref s7, .ref s8, .ref s9, .ref s10, .ref s11, .ref s12, .ref s13, .ref s14, .ref s15, .ref s16, .ref s17])
    (h0 : TupK K s0 []) (h1 : TupK K s1 [.int 0, .int 0, .int 0]) (h2 : TupK K s2 [.int 0]) (h3 : TupK K s3 [.int 0, .int 0]) (h4 : TupK K s4 [.int 0, .int 0]) (h5 : TupK K s5 [.int 0, .int 0]) (h6 : TupK K s6 []) (h7 : TupK K s7 []) (h8 : TupK K s8 [.int 1]) (h9 : TupK K s9 []) (h10 : TupK K s10 [.int 1]) (h11 : TupK K s11 [.int 0]) (h12 : TupK K s12 []) (h13 : TupK K s13 [.int 0]) (h14 : TupK K s14 [.int 0]) (h15 : TupK K s15 [.int 0, .int 1, .int 1]) (h16 : TupK K s16 [.int 0, .int 0]) (h17 : TupK K s17 []) : ShapesAt K S := by
  refine ⟨_, fun H => .inr hS, fun p n k h => ?_⟩
  unfold PySr120.shape at h
  by_cases e0 : p = 0
  · rw [if_pos e0] at h
    subst e0
    cases h
    exact ⟨s0, rfl, fun H => .inr h0⟩
  rw [if_neg e0] at h
  by_cases e1 : p = 1
  · rw [if_pos e1] at h
    subst e1
    cases h
    exact ⟨s1, rfl, fun H => .inr h1⟩
  rw [if_neg e1] at h
  by_cases e2 : p = 2
  · rw [if_pos e2] at h
    subst e2
    cases h
    exact ⟨s2, rfl, fun H => .inr h2⟩
  rw [if_neg e2] at h
  by_cases e3 : p = 3
  · rw [if_pos e3] at h
    subst e3
    cases h
    exact ⟨s3, rfl, fun H => .inr h3⟩
  rw [if_neg e3] at h
  by_cases e4 : p = 4
  · rw [if_pos e4] at h
    subst e4
    cases h
    exact ⟨s4, rfl, fun H => .inr h4⟩
  rw [if_neg e4] at h
  by_cases e5 : p = 5
  · rw [if_pos e5] at h
    subst e5
    cases h
    exact ⟨s5, rfl, fun H => .inr h5⟩
  rw [if_neg e5] at h
  by_cases e6 : p = 6
  · rw [if_pos e6] at h
    subst e6
    cases h
    exact ⟨s6, rfl, fun H => .inr h6⟩
  rw [if_neg e6] at h
  by_cases e7 : p = 7
  · rw [if_pos e7] at h
    subst e7
    cases h
    exact ⟨s7, rfl, fun H => .inr h7⟩
  rw [if_neg e7] at h
  by_cases e8 : p = 8
  · rw [if_pos e8] at h
    subst e8
    cases h
    exact ⟨s8, rfl, fun H => .inr h8⟩
  rw [if_neg e8] at h
  by_cases e9 : p = 9
  · rw [if_pos e9] at h
    subst e9
    cases h
    exact ⟨s9, rfl, fun H => .inr h9⟩
  rw [if_neg e9] at h
  by_cases e10 : p = 10
  · rw [if_pos e10] at h
    subst e10
    cases h
    exact ⟨s10, rfl, fun H => .inr h10⟩
  rw [if_neg e10] at h
  by_cases e11 : p = 11
  · rw [if_pos e11] at h
    subst e11
    cases h
    exact ⟨s11, rfl, fun H => .inr h11⟩
  rw [if_neg e11] at h
  by_cases e12 : p = 12
  · rw [if_pos e12] at h
    subst e12
    cases h
    exact ⟨s12, rfl, fun H => .inr h12⟩
  rw [if_neg e12] at h
  by_cases e13 : p = 13
  · rw [if_pos e13] at h
    subst e13
    cases h
    exact ⟨s13, rfl, fun H => .inr h13⟩
  rw [if_neg e13] at h
  by_cases e14 : p = 14
  · rw [if_pos e14] at h
    subst e14
    cases h
    exact ⟨s14, rfl, fun H => .inr h14⟩
  rw [if_neg e14] at h
  by_cases e15 : p = 15
  · rw [if_pos e15] at h
    subst e15
    cases h
    exact ⟨s15, rfl, fun H => .inr h15⟩
  rw [if_neg e15] at h
  by_cases e16 : p = 16
  · rw [if_pos e16] at h
    subst e16
    cases h
    exact ⟨s16, rfl, fun H => .inr h16⟩
  rw [if_neg e16] at h
  by_cases e17 : p = 17
  · rw [if_pos e17] at h
    subst e17
    cases h
    exact ⟨s17, rfl, fun H => .inr h17⟩
  rw [if_neg e17] at h
  cases h
theorem kdi_mk {K : PySem.W.Frag} {d : Addr} {es : Array DictEntry} {n : Nat} (l : K.lookup d = some ⟨.type "dict", none, .dict es n, #[]⟩) (h : (es.toList.all fun e => match e.key with
    | .int k _ => decide (e.hash = hashInt k)
    | _ => false) = true) (low : (d == sysModules) = false) : KDi K d es n := by
  refine ⟨l, fun e he => ?_, low⟩
  have g := List.all_eq_true.mp h e he
  cases hk : e.key with
  | int k t =>
    rw [hk] at g
    exact ⟨k, t, rfl, of_decide_eq_true g⟩
  | _ =>
    rw [hk] at g
    cases g
def EntryAt (es : Array DictEntry) (mg : Str → Option Value) (n : Nat) (x : Str) : Prop := ∃ f, findBy Value.isInt es (n : Int) = some (.ref f) ∧ mg x = some (.ref f)
theorem tab_entry {P : Program} {w : World} {K : PySem.W.Frag} {mg : Str → Option Value} {base : Heap} {es : Array DictEntry} {n j k : Nat} {x : Str} {sp : Sp} (E : EntryAt es mg n x) (F : Fn P w K mg base x j sp) (hj : j ≤ k) : ∃ (f : Addr) (fd : FuncData) (ps : List Str), findBy Value.isInt es (n : Int) = some (.ref f) ∧ FnOk P w K mg base CX0 k f fd ps sp ∧ PySem.W.keepIn K (.ref f) = true ∧ Binds K fd ps [] := by
  obtain ⟨f, h1, h2⟩ := E
  obtain ⟨f', fd, ps, g1, g2, g3, g4⟩ := F.ex
  have e := h2.symm.trans g1
  cases e
  exact ⟨f, fd, ps, h1, g2.mono hj, g3, g4⟩
structure WallFacts (K : PySem.W.Frag) (mg : Str → Option Value) : Prop where
  ex : ∃ (CW fW : Addr) (fdW : FuncData), Mk K CW fW ∧ Fun K "__init__" "Wall.__init__" sInit fW fdW ∧ mg "Wall" = some (.ref CW) ∧ Binds K fdW ["self"] [] ∧ Cls K CW ∧ NoAttr K CW "machines"
theorem wall_mk {K : PySem.W.Frag} {h : Heap} {mg : Str → Option Value} {C f : Addr} (X : K.In h) (G : h.Ns mainGlobals mg) {oc : Value} {od an : Option Addr} {osl : Array (Option Value)} {kV doc pm cdv ct : Value} (aC : PySem.W.nsIn K mainGlobals "Wall" = some (some (.ref C)))
    (a : PySem.W.findIn K (.ref C) "__init__" = some (some (.ref f))) (i : PySem.W.isFn K (.ref f) = true) (l : K.lookup f = some ⟨oc, od, .func (PySem.W.fnOf "__init__" "Wall.__init__" (defArgs sInit) (defBody sInit) (defScope sInit) .none kV doc pm an cdv ct), osl⟩) (c : PySem.W.codeIn K cdv "Wall.__init__" = true) (k : PySem.W.keepIn K (.ref f) = true)
    (pg : PySem.W.plainGet K C Str.empty = true) (hd : PySem.W.hasDictIn K C = true) (po : PySem.W.plainOver K C = true) (sa : PySem.W.findIn K (.ref C) "__setattr__" = some (some (.builtin "object.__setattr__"))) (mk : PySem.W.makesIn K C = true) (kc : PySem.W.keepIn K (.ref C) = true)
    (nH : PySem.W.findIn K (.ref C) "machines" = some none) : WallFacts K mg :=
  ⟨C, f, _, ⟨mk, a, i, kc⟩, fun_mk l c k, PySem.W.mg_of X G aC, (fun_mk (st := sInit) l c k).binds (ps := ["self"]) fun _ _ _ _ _ _ us hl => match us, hl with | [_], _ => rfl, ⟨pg, hd, po, sa⟩, nH⟩
theorem upto17 {p : Nat → Prop} (h0 : p 0) (h1 : p 1) (h2 : p 2) (h3 : p 3) (h4 : p 4) (h5 : p 5) (h6 : p 6) (h7 : p 7) (h8 : p 8) (h9 : p 9) (h10 : p 10) (h11 : p 11) (h12 : p 12) (h13 : p 13) (h14 : p 14) (h15 : p 15) (h16 : p 16) (h17 : p 17) : ∀ n, n ≤ 17 → p n := fun n hn => by
  match n, hn with
  | 0, _ => exact h0
  | 1, _ => exact h1
  | 2, _ => exact h2
  | 3, _ => exact h3
  | 4, _ => exact h4
  | 5, _ => exact h5
  | 6, _ => exact h6
  | 7, _ => exact h7
  | 8, _ => exact h8
  | 9, _ => exact h9
  | 10, _ => exact h10
  | 11, _ => exact h11
  | 12, _ => exact h12
  | 13, _ => exact h13
  | 14, _ => exact h14
  | 15, _ => exact h15
  | 16, _ => exact h16
  | 17, _ => exact h17
  | n + 18, hn => omega
theorem all_mk {P : Program} {w : World} {K : PySem.W.Frag} {h : Heap} {mg : Str → Option Value} {fa : Addr} (X : K.In h) (G : h.Ns mainGlobals mg) (hfa : mg "answers" = some (.ref fa))
    (d_place_behind : DefAt K mg "place_behind" st_place_behind ["numbers", "at", "shape"])
    (d_is_within : DefAt K mg "is_within" st_is_within ["number", "least", "most"])
    (d_position_of : DefAt K mg "position_of" st_position_of ["machine"])
    (d_run_time_of : DefAt K mg "run_time_of" st_run_time_of ["machine"])
    (d_service_time_of : DefAt K mg "service_time_of" st_service_time_of ["machine"])
    (d_has_machine : DefAt K mg "has_machine" st_has_machine ["machines", "index"])
    (d_with_machine : DefAt K mg "with_machine" st_with_machine ["machines", "index", "machine"])
    (d_is_deed : DefAt K mg "is_deed" st_is_deed ["number"])
    (d_common_divisor : DefAt K mg "common_divisor" st_common_divisor ["one", "other"])
    (d_next_in : DefAt K mg "next_in" st_next_in ["tour", "place"])
    (d_with_one_more : DefAt K mg "with_one_more" st_with_one_more ["rows", "indices"])
    (d_all_indices : DefAt K mg "all_indices" st_all_indices ["machines"])
    (d_count_of_sets : DefAt K mg "count_of_sets" st_count_of_sets ["machines"])
    (d_set_of : DefAt K mg "set_of" st_set_of ["mask", "many"])
    (d_counted : DefAt K mg "counted" st_counted ["numbers"])
    (d_next_start : DefAt K mg "next_start" st_next_start ["cycle", "starts", "place"])
    (d_list_machines : DefAt K mg "list_machines" st_list_machines ["wall", "parts"])
    (d_part_at : DefAt K mg "part_at" st_part_at ["numbers", "at", "shape"])
    (d_round_time_of : DefAt K mg "round_time_of" st_round_time_of ["machine"])
    (d_with_run_time : DefAt K mg "with_run_time" st_with_run_time ["machine", "run_time"])
    (d_is_position : DefAt K mg "is_position" st_is_position ["number"])
    (d_is_run_time : DefAt K mg "is_run_time" st_is_run_time ["number"])
    (d_is_service_time : DefAt K mg "is_service_time" st_is_service_time ["number"])
    (d_remove_machine : DefAt K mg "remove_machine" st_remove_machine ["wall", "parts"])
    (d_lowest_terms : DefAt K mg "lowest_terms" st_lowest_terms ["numerator", "denominator"])
    (d_distance : DefAt K mg "distance" st_distance ["machines", "one", "other"])
    (d_is_tour : DefAt K mg "is_tour" st_is_tour ["machines", "tour"])
    (d_wall_order : DefAt K mg "wall_order" st_wall_order ["machines"])
    (d_orders_of : DefAt K mg "orders_of" st_orders_of ["indices"])
    (d_is_time : DefAt K mg "is_time" st_is_time ["number"])
    (d_read_calls : DefAt K mg "read_calls" st_read_calls ["numbers"])
    (d_add_machine : DefAt K mg "add_machine" st_add_machine ["wall", "parts"])
    (d_set_position : DefAt K mg "set_position" st_set_position ["wall", "parts"])
    (d_set_run_time : DefAt K mg "set_run_time" st_set_run_time ["wall", "parts"])
    (d_set_service_time : DefAt K mg "set_service_time" st_set_service_time ["wall", "parts"])
    (d_walking_time : DefAt K mg "walking_time" st_walking_time ["machines", "tour"])
    (d_start_times : DefAt K mg "start_times" st_start_times ["machines", "tour"])
    (d_is_schedule : DefAt K mg "is_schedule" st_is_schedule ["machines", "cycle", "tour", "starts"])
    (d_is_reached : DefAt K mg "is_reached" st_is_reached ["machines", "cycle", "tour", "starts", "place"])
    (d_answer_of_deed : DefAt K mg "answer_of_deed" st_answer_of_deed ["wall", "number", "parts"])
    (d_busy_time : DefAt K mg "busy_time" st_busy_time ["machines", "tour"])
    (d_starts_of_tour : DefAt K mg "starts_of_tour" st_starts_of_tour ["wall", "parts"])
    (d_check_schedule : DefAt K mg "check_schedule" st_check_schedule ["wall", "parts"])
    (d_cycle_time : DefAt K mg "cycle_time" st_cycle_time ["machines", "tour"])
    (d_best_tour : DefAt K mg "best_tour" st_best_tour ["machines", "indices"])
    (d_timed : DefAt K mg "timed" st_timed ["machines", "tour"])
    (d_times_of_tour : DefAt K mg "times_of_tour" st_times_of_tour ["wall", "parts"])
    (d_least_cycle_time : DefAt K mg "least_cycle_time" st_least_cycle_time ["machines", "indices"])
    (d_find_best_tour : DefAt K mg "find_best_tour" st_find_best_tour ["wall", "parts"])
    (d_find_wall_order : DefAt K mg "find_wall_order" st_find_wall_order ["wall", "parts"])
    (d_best_tour_of : DefAt K mg "best_tour_of" st_best_tour_of ["wall", "parts"])
    (d_largest_set : DefAt K mg "largest_set" st_largest_set ["machines", "limit"])
    (d_min_cycle_time : DefAt K mg "min_cycle_time" st_min_cycle_time ["wall", "parts"])
    (d_idle_time : DefAt K mg "idle_time" st_idle_time ["wall", "parts"])
    (d_utilization : DefAt K mg "utilization" st_utilization ["wall", "parts"])
    (d_min_cycle_time_if : DefAt K mg "min_cycle_time_if" st_min_cycle_time_if ["wall", "parts"])
    (d_largest_group : DefAt K mg "largest_group" st_largest_group ["wall", "parts"])
    (d_answer_of_question : DefAt K mg "answer_of_question" st_answer_of_question ["wall", "number", "parts"])
    (d_answer_of : DefAt K mg "answer_of" st_answer_of ["wall", "number", "parts"])
    {f86 : Addr} {oc : Value} {od an : Option Addr} {osl : Array (Option Value)} {kV doc pm cdv ct : Value} (a86 : PySem.W.nsIn K mainGlobals "answers" = some (some (.ref f86))) (l86 : K.lookup f86 = some ⟨oc, od, .func (PySem.W.fnOf "answers" "answers" (defArgs st_answers) (defBody st_answers) (defScope st_answers) .none kV doc pm an cdv ct), osl⟩) (c86 : PySem.W.codeIn K cdv "answers" = true) (k86 : PySem.W.keepIn K (.ref f86) = true)
    (c_NUMBER : CI mg "NUMBER" (0))
    (c_MOST_POSITION : CI mg "MOST_POSITION" (99))
    (c_MOST_RUN_TIME : CI mg "MOST_RUN_TIME" (99))
    (c_LEAST_SERVICE_TIME : CI mg "LEAST_SERVICE_TIME" (1))
    (c_MOST_SERVICE_TIME : CI mg "MOST_SERVICE_TIME" (99))
    (c_MOST_MACHINES : CI mg "MOST_MACHINES" (6))
    (c_OUT_OF_RANGE : CI mg "OUT_OF_RANGE" (-22))
    (c_TOO_MANY_MACHINES : CI mg "TOO_MANY_MACHINES" (-28))
    (c_NO_MACHINE : CI mg "NO_MACHINE" (-2))
    (c_NO_MACHINES : CI mg "NO_MACHINES" (-6))
    (c_MOST_TIME : CI mg "MOST_TIME" (9999))
    (c_NO_INSTANCE : CI mg "NO_INSTANCE" (-11))
    (c_CREATE : CI mg "CREATE" (0))
    (b_len : mg "len" = none)
    (b_abs : mg "abs" = none)
    (b_enumerate : mg "enumerate" = none)
    (b_sum : mg "sum" = none)
    (b_max : mg "max" = none)
    (b_sorted : mg "sorted" = none)
    (b_range : mg "range" = none)
    (b_list : mg "list" = none)
    (b_all : mg "all" = none)
    {dS : Addr} (c_SHAPES : mg "SHAPES" = some (.ref dS)) (k_SHAPES : ShapesAt K dS)
    {dD : Addr} {esD : Array DictEntry} {nD : Nat} (c_DEEDS : mg "DEEDS" = some (.ref dD)) (k_DEEDS : KDi K dD esD nD) (s_DEEDS : ∀ n : Nat, n ≤ 17 → (findBy Value.isInt esD (n : Int)).isSome = decide (1 ≤ n ∧ n ≤ 5))
    (e1 : EntryAt esD mg 1 "add_machine") (e2 : EntryAt esD mg 2 "remove_machine") (e3 : EntryAt esD mg 3 "set_position") (e4 : EntryAt esD mg 4 "set_run_time") (e5 : EntryAt esD mg 5 "set_service_time")
    {dQ : Addr} {esQ : Array DictEntry} {nQ : Nat} (c_QUESTIONS : mg "QUESTIONS" = some (.ref dQ)) (k_QUESTIONS : KDi K dQ esQ nQ)
    (e6 : EntryAt esQ mg 6 "min_cycle_time") (e7 : EntryAt esQ mg 7 "find_best_tour") (e8 : EntryAt esQ mg 8 "times_of_tour") (e9 : EntryAt esQ mg 9 "find_wall_order") (e10 : EntryAt esQ mg 10 "starts_of_tour") (e11 : EntryAt esQ mg 11 "idle_time") (e12 : EntryAt esQ mg 12 "utilization") (e13 : EntryAt esQ mg 13 "largest_group") (e14 : EntryAt esQ mg 14 "best_tour_of") (e15 : EntryAt esQ mg 15 "check_schedule") (e16 : EntryAt esQ mg 16 "min_cycle_time_if") (e17 : EntryAt esQ mg 17 "list_machines")
    (WF : WallFacts K mg) :
    ∃ fd : FuncData, (∀ (s : Shared) (us : List Value), us.length = (["calls"] : List Str).length → BindsTo s fd ⟨us, []⟩ ((["calls"] : List Str).zip us)) ∧ ∀ base : Heap, K.In base → base.Ns mainGlobals mg → FnOk P w K mg base CX0 12 fa fd ["calls"] (sp_answers K) := by
  have e := hfa.symm.trans (PySem.W.mg_of X G a86)
  cases e
  obtain ⟨CW, fW, fdW, mk_Wall, F_W, g_Wall, b_Wall, cl_Wall, na_Wall⟩ := WF.ex
  refine ⟨PySem.W.fnOf "answers" "answers" (defArgs st_answers) (defBody st_answers) (defScope st_answers) .none kV doc pm an cdv ct, fun s us hu => match us, hu with | [_], _ => .of_eq rfl, fun base _ _ => ?_⟩
  have f_place_behind : Fn P w K mg base "place_behind" 1 (sp_place_behind K) := ok_place_behind d_place_behind c_NUMBER
  have f_is_within : Fn P w K mg base "is_within" 1 (sp_is_within K) := ok_is_within d_is_within
  have f_position_of : Fn P w K mg base "position_of" 1 (sp_position_of K) := ok_position_of d_position_of
  have f_run_time_of : Fn P w K mg base "run_time_of" 1 (sp_run_time_of K) := ok_run_time_of d_run_time_of
  have f_service_time_of : Fn P w K mg base "service_time_of" 1 (sp_service_time_of K) := ok_service_time_of d_service_time_of
  have f_has_machine : Fn P w K mg base "has_machine" 1 (sp_has_machine K) := ok_has_machine d_has_machine b_len
  have f_with_machine : Fn P w K mg base "with_machine" 1 (sp_with_machine K) := ok_with_machine d_with_machine
  have f_is_deed : Fn P w K mg base "is_deed" 1 (sp_is_deed K) := ok_is_deed d_is_deed c_DEEDS k_DEEDS s_DEEDS
  have f_common_divisor : Fn P w K mg base "common_divisor" 1 (sp_common_divisor K) := ok_common_divisor d_common_divisor
  have f_next_in : Fn P w K mg base "next_in" 1 (sp_next_in K) := ok_next_in d_next_in b_len
  have f_with_one_more : Fn P w K mg base "with_one_more" 1 (sp_with_one_more K) := ok_with_one_more d_with_one_more
  have f_all_indices : Fn P w K mg base "all_indices" 1 (sp_all_indices K) := ok_all_indices d_all_indices b_list b_range b_len
  have f_count_of_sets : Fn P w K mg base "count_of_sets" 1 (sp_count_of_sets K) := ok_count_of_sets d_count_of_sets b_len
  have f_set_of : Fn P w K mg base "set_of" 1 (sp_set_of K) := ok_set_of d_set_of b_range
  have f_counted : Fn P w K mg base "counted" 1 (sp_counted K) := ok_counted d_counted b_len
  have f_next_start : Fn P w K mg base "next_start" 1 (sp_next_start K) := ok_next_start d_next_start b_len
  have f_list_machines : Fn P w K mg base "list_machines" 1 (sp_list_machines K) := ok_list_machines d_list_machines b_len b_list
  have f_part_at : Fn P w K mg base "part_at" 2 (sp_part_at K) := ok_part_at d_part_at c_NUMBER f_place_behind
  have f_round_time_of : Fn P w K mg base "round_time_of" 2 (sp_round_time_of K) := ok_round_time_of d_round_time_of f_run_time_of f_service_time_of
  have f_with_run_time : Fn P w K mg base "with_run_time" 2 (sp_with_run_time K) := ok_with_run_time d_with_run_time f_position_of f_service_time_of
  have f_is_position : Fn P w K mg base "is_position" 2 (sp_is_position K) := ok_is_position d_is_position c_MOST_POSITION f_is_within
  have f_is_run_time : Fn P w K mg base "is_run_time" 2 (sp_is_run_time K) := ok_is_run_time d_is_run_time c_MOST_RUN_TIME f_is_within
  have f_is_service_time : Fn P w K mg base "is_service_time" 2 (sp_is_service_time K) := ok_is_service_time d_is_service_time c_LEAST_SERVICE_TIME c_MOST_SERVICE_TIME f_is_within
  have f_remove_machine : Fn P w K mg base "remove_machine" 2 (sp_remove_machine K) := ok_remove_machine d_remove_machine c_NO_MACHINE b_len f_has_machine
  have f_lowest_terms : Fn P w K mg base "lowest_terms" 2 (sp_lowest_terms K) := ok_lowest_terms d_lowest_terms f_common_divisor
  have f_distance : Fn P w K mg base "distance" 2 (sp_distance K) := ok_distance d_distance b_abs f_position_of
  have f_is_tour : Fn P w K mg base "is_tour" 2 (sp_is_tour K) := ok_is_tour d_is_tour f_has_machine
  have f_wall_order : Fn P w K mg base "wall_order" 2 (sp_wall_order K) := ok_wall_order d_wall_order b_sorted b_enumerate f_position_of
  have f_orders_of : Fn P w K mg base "orders_of" 2 (sp_orders_of K) := ok_orders_of d_orders_of b_range b_len f_with_one_more
  have f_is_time : Fn P w K mg base "is_time" 2 (sp_is_time K) := ok_is_time d_is_time c_MOST_TIME f_is_within
  have f_read_calls : Fn P w K mg base "read_calls" 3 (sp_read_calls K) := ok_read_calls d_read_calls b_len f_place_behind f_part_at c_SHAPES k_SHAPES
  have f_add_machine : Fn P w K mg base "add_machine" 3 (sp_add_machine K) := ok_add_machine d_add_machine c_MOST_MACHINES c_OUT_OF_RANGE c_TOO_MANY_MACHINES b_len f_is_position f_is_run_time f_is_service_time
  have f_set_position : Fn P w K mg base "set_position" 3 (sp_set_position K) := ok_set_position d_set_position c_NO_MACHINE c_OUT_OF_RANGE f_with_machine f_has_machine f_is_position f_run_time_of f_service_time_of f_position_of
  have f_set_run_time : Fn P w K mg base "set_run_time" 3 (sp_set_run_time K) := ok_set_run_time d_set_run_time c_NO_MACHINE c_OUT_OF_RANGE f_with_machine f_has_machine f_is_run_time f_with_run_time f_run_time_of
  have f_set_service_time : Fn P w K mg base "set_service_time" 3 (sp_set_service_time K) := ok_set_service_time d_set_service_time c_NO_MACHINE c_OUT_OF_RANGE f_with_machine f_has_machine f_is_service_time f_position_of f_run_time_of f_service_time_of
  have f_walking_time : Fn P w K mg base "walking_time" 3 (sp_walking_time K) := ok_walking_time d_walking_time b_enumerate f_distance f_next_in
  have f_start_times : Fn P w K mg base "start_times" 3 (sp_start_times K) := ok_start_times d_start_times b_enumerate f_service_time_of f_distance f_next_in
  have f_is_schedule : Fn P w K mg base "is_schedule" 3 (sp_is_schedule K) := ok_is_schedule d_is_schedule b_all b_len f_is_time f_is_tour
  have f_is_reached : Fn P w K mg base "is_reached" 3 (sp_is_reached K) := ok_is_reached d_is_reached f_distance f_next_start f_service_time_of f_next_in
  have tD : Table P w K mg base 3 esD 1 5 fun n => spD K (dA n) := fun n h1 h2 => by
    match n, h1, h2 with
    | 1, _, _ => exact tab_entry e1 f_add_machine (by decide)
    | 2, _, _ => exact tab_entry e2 f_remove_machine (by decide)
    | 3, _, _ => exact tab_entry e3 f_set_position (by decide)
    | 4, _, _ => exact tab_entry e4 f_set_run_time (by decide)
    | 5, _, _ => exact tab_entry e5 f_set_service_time (by decide)
    | n + 6, _, h2 => omega
  have f_answer_of_deed : Fn P w K mg base "answer_of_deed" 4 (sp_answer_of_deed K) := ok_answer_of_deed d_answer_of_deed c_DEEDS k_DEEDS tD
  have f_busy_time : Fn P w K mg base "busy_time" 4 (sp_busy_time K) := ok_busy_time d_busy_time b_sum f_walking_time f_service_time_of
  have f_starts_of_tour : Fn P w K mg base "starts_of_tour" 4 (sp_starts_of_tour K) := ok_starts_of_tour d_starts_of_tour c_OUT_OF_RANGE f_counted f_is_tour f_start_times
  have f_check_schedule : Fn P w K mg base "check_schedule" 4 (sp_check_schedule K) := ok_check_schedule d_check_schedule c_OUT_OF_RANGE b_enumerate f_is_schedule f_round_time_of f_is_reached
  have f_cycle_time : Fn P w K mg base "cycle_time" 5 (sp_cycle_time K) := ok_cycle_time d_cycle_time b_max f_busy_time f_round_time_of
  have f_best_tour : Fn P w K mg base "best_tour" 6 (sp_best_tour K) := ok_best_tour d_best_tour f_cycle_time f_orders_of
  have f_timed : Fn P w K mg base "timed" 6 (sp_timed K) := ok_timed d_timed f_cycle_time
  have f_times_of_tour : Fn P w K mg base "times_of_tour" 6 (sp_times_of_tour K) := ok_times_of_tour d_times_of_tour c_OUT_OF_RANGE f_is_tour f_cycle_time f_busy_time f_walking_time
  have f_least_cycle_time : Fn P w K mg base "least_cycle_time" 7 (sp_least_cycle_time K) := ok_least_cycle_time d_least_cycle_time f_cycle_time f_best_tour
  have f_find_best_tour : Fn P w K mg base "find_best_tour" 7 (sp_find_best_tour K) := ok_find_best_tour d_find_best_tour f_timed f_best_tour f_all_indices
  have f_find_wall_order : Fn P w K mg base "find_wall_order" 7 (sp_find_wall_order K) := ok_find_wall_order d_find_wall_order f_timed f_wall_order
  have f_best_tour_of : Fn P w K mg base "best_tour_of" 7 (sp_best_tour_of K) := ok_best_tour_of d_best_tour_of c_OUT_OF_RANGE b_len f_timed f_is_within f_best_tour f_set_of f_count_of_sets
  have f_largest_set : Fn P w K mg base "largest_set" 8 (sp_largest_set K) := ok_largest_set d_largest_set b_range b_len f_count_of_sets f_set_of f_least_cycle_time
  have f_min_cycle_time : Fn P w K mg base "min_cycle_time" 8 (sp_min_cycle_time K) := ok_min_cycle_time d_min_cycle_time f_least_cycle_time f_all_indices
  have f_idle_time : Fn P w K mg base "idle_time" 8 (sp_idle_time K) := ok_idle_time d_idle_time c_NO_MACHINE f_has_machine f_least_cycle_time f_round_time_of f_all_indices
  have f_utilization : Fn P w K mg base "utilization" 8 (sp_utilization K) := ok_utilization d_utilization c_NO_MACHINES f_busy_time f_wall_order f_lowest_terms f_least_cycle_time f_all_indices
  have f_min_cycle_time_if : Fn P w K mg base "min_cycle_time_if" 8 (sp_min_cycle_time_if K) := ok_min_cycle_time_if d_min_cycle_time_if c_NO_MACHINE c_MOST_RUN_TIME c_OUT_OF_RANGE f_with_machine f_has_machine f_is_within f_with_run_time f_least_cycle_time f_all_indices
  have f_largest_group : Fn P w K mg base "largest_group" 9 (sp_largest_group K) := ok_largest_group d_largest_group c_OUT_OF_RANGE f_counted f_largest_set
  have tQ : Table P w K mg base 9 esQ 6 17 fun n => spQ K (qA n) := fun n h1 h2 => by
    match n, h1, h2 with
    | 6, _, _ => exact tab_entry e6 f_min_cycle_time (by decide)
    | 7, _, _ => exact tab_entry e7 f_find_best_tour (by decide)
    | 8, _, _ => exact tab_entry e8 f_times_of_tour (by decide)
    | 9, _, _ => exact tab_entry e9 f_find_wall_order (by decide)
    | 10, _, _ => exact tab_entry e10 f_starts_of_tour (by decide)
    | 11, _, _ => exact tab_entry e11 f_idle_time (by decide)
    | 12, _, _ => exact tab_entry e12 f_utilization (by decide)
    | 13, _, _ => exact tab_entry e13 f_largest_group (by decide)
    | 14, _, _ => exact tab_entry e14 f_best_tour_of (by decide)
    | 15, _, _ => exact tab_entry e15 f_check_schedule (by decide)
    | 16, _, _ => exact tab_entry e16 f_min_cycle_time_if (by decide)
    | 17, _, _ => exact tab_entry e17 f_list_machines (by decide)
    | 0, h1, _ => omega
    | 1, h1, _ => omega
    | 2, h1, _ => omega
    | 3, h1, _ => omega
    | 4, h1, _ => omega
    | 5, h1, _ => omega
    | n + 18, _, h2 => omega
  have f_answer_of_question : Fn P w K mg base "answer_of_question" 10 (sp_answer_of_question K) := ok_answer_of_question d_answer_of_question c_QUESTIONS k_QUESTIONS tQ
  have f_answer_of : Fn P w K mg base "answer_of" 11 (sp_answer_of K) := ok_answer_of d_answer_of c_NO_INSTANCE f_is_deed f_answer_of_question f_answer_of_deed
  exact ok_answers (fun_mk (st := st_answers) l86 c86 k86) c_CREATE b_len f_read_calls f_answer_of mk_Wall (ok_init F_W cl_Wall na_Wall) g_Wall b_Wall cl_Wall na_Wall
/-! ### the request -/
theorem asked_size {c : List (List Int)} (h : Sr120Neutral.asked1 c = true) : c.length ≤ 1000 ∧ ∀ r ∈ c, r.length ≤ 1000 := by
  have one : ∀ x : List Int, x.length ≤ 1000 → ([x] : List (List Int)).length ≤ 1000 ∧ ∀ r ∈ ([x] : List (List Int)), r.length ≤ 1000 := fun x hx => ⟨by show 1 ≤ 1000; decide, fun r hr => by
    rw [List.mem_singleton.mp hr]
    exact hx⟩
  have two : ∀ x y : List Int, x.length ≤ 1000 → y.length ≤ 1000 → ([x, y] : List (List Int)).length ≤ 1000 ∧ ∀ r ∈ ([x, y] : List (List Int)), r.length ≤ 1000 := fun x y hx hy => ⟨by show 2 ≤ 1000; decide, fun r hr => by
    rcases List.mem_cons.mp hr with e | hr
    · rw [e]
      exact hx
    · rw [List.mem_singleton.mp hr]
      exact hy⟩
  have three : ∀ x y z : List Int, x.length ≤ 1000 → y.length ≤ 1000 → z.length ≤ 1000 → ([x, y, z] : List (List Int)).length ≤ 1000 ∧ ∀ r ∈ ([x, y, z] : List (List Int)), r.length ≤ 1000 := fun x y z hx hy hz => ⟨by show 3 ≤ 1000; decide, fun r hr => by
    rcases List.mem_cons.mp hr with e | hr
    · rw [e]
      exact hx
    · exact (two y z hy hz).2 r hr⟩
  unfold Sr120Neutral.asked1 at h
  split at h
  · exact one _ (by decide)
  · exact one _ (by show 4 ≤ 1000; decide)
  · exact one _ (by show 2 ≤ 1000; decide)
  · exact one _ (by show 3 ≤ 1000; decide)
  · exact one _ (by show 3 ≤ 1000; decide)
  · exact one _ (by show 3 ≤ 1000; decide)
  · exact one _ (by decide)
  · exact one _ (by decide)
  · exact two _ _ (by decide) (by have := row70 h; omega)
  · exact one _ (by decide)
  · exact two _ _ (by decide) (by have := row70 h; omega)
  · exact one _ (by show 2 ≤ 1000; decide)
  · exact one _ (by decide)
  · exact one _ (by show 2 ≤ 1000; decide)
  · exact one _ (by show 2 ≤ 1000; decide)
  · rw [Bool.and_eq_true, Bool.and_eq_true] at h
    exact three _ _ _ (by show 2 ≤ 1000; decide) (by have := row70 h.1.2; omega) (by have := row70 h.2; omega)
  · exact one _ (by show 3 ≤ 1000; decide)
  · exact one _ (by decide)
  · cases h
theorem whole_id (c : List (List Int)) : PySr120.whole c = c := by
  unfold PySr120.whole
  split <;> rfl
theorem request {l : List Int} (h : PySr120.answers_asked l = true) : ∃ cs, l = PyFlat.put cs ∧ (∀ c ∈ cs, PyFlat.okCall PySr120.shape c) ∧ cs.length ≤ 60 ∧ (∀ c ∈ cs, Sr120Neutral.asked1 c = true) ∧ PySr120.answers l = outs cs cs.length ∧ (outs cs cs.length).length ≤ 10000000 := by
  unfold PySr120.answers_asked at h
  cases hc : PyFlat.calls PySr120.shape l.length l with
  | none =>
    rw [hc] at h
    cases h
  | some cs =>
    rw [hc] at h
    dsimp only at h
    rw [Bool.and_eq_true, Bool.and_eq_true, Bool.and_eq_true, Bool.and_eq_true] at h
    obtain ⟨⟨⟨⟨_, h2⟩, _⟩, h4⟩, h5⟩ := h
    obtain ⟨e1, e2⟩ := PyFlat.put_calls _ _ _ hc
    have hw : cs.map PySr120.whole = cs := by
      rw [List.map_congr_left (g := id) fun c _ => whole_id c, List.map_id]
    have ea : PySr120.answers l = outs cs cs.length := by
      unfold PySr120.answers PySr120.calls
      rw [hc]
      dsimp only
      rw [hw]
      unfold outs
      rw [List.take_length]
    rw [hw] at h4
    unfold Sr120Neutral.asked at h4
    rw [Bool.and_eq_true, Bool.and_eq_true] at h4
    refine ⟨cs, e1, e2, of_decide_eq_true h2, List.all_eq_true.mp h4.2.2, ea, ?_⟩
    rw [← ea]
    exact of_decide_eq_true h5
end Tw
open PySem PySem.W PyProof.Rows
set_option maxRecDepth 100000 in
set_option maxHeartbeats 0 in
theorem PySem.Challenge.cw_tendwall_s01_answers_holds : PySem.Challenge.rw_tendwall_s01_answers.Holds := by
  w_on; k_headS; (case hw => exact ⟨[.list [.int 0]], by decide +kernel, by decide +kernel⟩)
  k_fillS
  refine L2.walk_specK (r := PySem.Challenge.rw_tendwall_s01_answers) (k := 12) (CX := L2.CX0) (ps := ["calls"]) (sp := Tw.sp_answers) (by decide +kernel) rfl rfl ⟨rfl, by decide, by decide⟩ (fun w h Y => PySem.W.kIn_of Y) ?F ?S (fun _ _ _ _ z => z)
  case F =>
    intro w mg fa h Y KX G hmg
    refine' Tw.all_mk KX G hmg ?d5 ?d20 ?d23 ?d24 ?d25 ?d27 ?d28 ?d40 ?d43 ?d48 ?d55 ?d59 ?d60 ?d61 ?d64 ?d77 ?d81 ?d6 ?d26 ?d29 ?d31 ?d32 ?d33 ?d35 ?d44 ?d46 ?d47 ?d53 ?d56 ?d75 ?d7 ?d34 ?d36 ?d37 ?d38 ?d49 ?d52 ?d76 ?d78 ?d41 ?d50 ?d70 ?d79 ?d51 ?d57 ?d65 ?d68 ?d58 ?d67 ?d69 ?d74 ?d62 ?d66 ?d71 ?d72 ?d80 ?d73 ?d83 ?d85 ?a86 ?l86 ?c86 ?k86 ?n0 ?n1 ?n2 ?n3 ?n4 ?n5 ?n6 ?n7 ?n8 ?n9 ?n10 ?n11 ?n12 ?m0 ?m1 ?m2 ?m3 ?m4 ?m5 ?m6 ?m7 ?m8 ?cS ?kS ?cD ?kD ?sD ?e1 ?e2 ?e3 ?e4 ?e5 ?cQ ?kQ ?e6 ?e7 ?e8 ?e9 ?e10 ?e11 ?e12 ?e13 ?e14 ?e15 ?e16 ?e17 ?WF
    case d5 =>
      refine' Tw.DefAt.mk' KX G ?a ?l ?c ?k (fun _ _ _ _ _ _ us hl => match us, hl with | [_, _, _], _ => rfl)
      (case a => k_is); (case l => k_is); (case c => k_is); (case k => k_is)
    case d20 =>
      refine' Tw.DefAt.mk' KX G ?a ?l ?c ?k (fun _ _ _ _ _ _ us hl => match us, hl with | [_, _, _], _ => rfl)
      (case a => k_is); (case l => k_is); (case c => k_is); (case k => k_is)
    case d23 =>
      refine' Tw.DefAt.mk' KX G ?a ?l ?c ?k (fun _ _ _ _ _ _ us hl => match us, hl with | [_], _ => rfl)
      (case a => k_is); (case l => k_is); (case c => k_is); (case k => k_is)
    case d24 =>
      refine' Tw.DefAt.mk' KX G ?a ?l ?c ?k (fun _ _ _ _ _ _ us hl => match us, hl with | [_], _ => rfl)
      (case a => k_is); (case l => k_is); (case c => k_is); (case k => k_is)
    case d25 =>
      refine' Tw.DefAt.mk' KX G ?a ?l ?c ?k (fun _ _ _ _ _ _ us hl => match us, hl with | [_], _ => rfl)
      (case a => k_is); (case l => k_is); (case c => k_is); (case k => k_is)
    case d27 =>
      refine' Tw.DefAt.mk' KX G ?a ?l ?c ?k (fun _ _ _ _ _ _ us hl => match us, hl with | [_, _], _ => rfl)
      (case a => k_is); (case l => k_is); (case c => k_is); (case k => k_is)
    case d28 =>
      refine' Tw.DefAt.mk' KX G ?a ?l ?c ?k (fun _ _ _ _ _ _ us hl => match us, hl with | [_, _, _], _ => rfl)
      (case a => k_is); (case l => k_is); (case c => k_is); (case k => k_is)
    case d40 =>
      refine' Tw.DefAt.mk' KX G ?a ?l ?c ?k (fun _ _ _ _ _ _ us hl => match us, hl with | [_], _ => rfl)
      (case a => k_is); (case l => k_is); (case c => k_is); (case k => k_is)
    case d43 =>
      refine' Tw.DefAt.mk' KX G ?a ?l ?c ?k (fun _ _ _ _ _ _ us hl => match us, hl with | [_, _], _ => rfl)
      (case a => k_is); (case l => k_is); (case c => k_is); (case k => k_is)
    case d48 =>
      refine' Tw.DefAt.mk' KX G ?a ?l ?c ?k (fun _ _ _ _ _ _ us hl => match us, hl with | [_, _], _ => rfl)
      (case a => k_is); (case l => k_is); (case c => k_is); (case k => k_is)
    case d55 =>
      refine' Tw.DefAt.mk' KX G ?a ?l ?c ?k (fun _ _ _ _ _ _ us hl => match us, hl with | [_, _], _ => rfl)
      (case a => k_is); (case l => k_is); (case c => k_is); (case k => k_is)
    case d59 =>
      refine' Tw.DefAt.mk' KX G ?a ?l ?c ?k (fun _ _ _ _ _ _ us hl => match us, hl with | [_], _ => rfl)
      (case a => k_is); (case l => k_is); (case c => k_is); (case k => k_is)
    case d60 =>
      refine' Tw.DefAt.mk' KX G ?a ?l ?c ?k (fun _ _ _ _ _ _ us hl => match us, hl with | [_], _ => rfl)
      (case a => k_is); (case l => k_is); (case c => k_is); (case k => k_is)
    case d61 =>
      refine' Tw.DefAt.mk' KX G ?a ?l ?c ?k (fun _ _ _ _ _ _ us hl => match us, hl with | [_, _], _ => rfl)
      (case a => k_is); (case l => k_is); (case c => k_is); (case k => k_is)
    case d64 =>
      refine' Tw.DefAt.mk' KX G ?a ?l ?c ?k (fun _ _ _ _ _ _ us hl => match us, hl with | [_], _ => rfl)
      (case a => k_is); (case l => k_is); (case c => k_is); (case k => k_is)
    case d77 =>
      refine' Tw.DefAt.mk' KX G ?a ?l ?c ?k (fun _ _ _ _ _ _ us hl => match us, hl with | [_, _, _], _ => rfl)
      (case a => k_is); (case l => k_is); (case c => k_is); (case k => k_is)
    case d81 =>
      refine' Tw.DefAt.mk' KX G ?a ?l ?c ?k (fun _ _ _ _ _ _ us hl => match us, hl with | [_, _], _ => rfl)
      (case a => k_is); (case l => k_is); (case c => k_is); (case k => k_is)
    case d6 =>
      refine' Tw.DefAt.mk' KX G ?a ?l ?c ?k (fun _ _ _ _ _ _ us hl => match us, hl with | [_, _, _], _ => rfl)
      (case a => k_is); (case l => k_is); (case c => k_is); (case k => k_is)
    case d26 =>
      refine' Tw.DefAt.mk' KX G ?a ?l ?c ?k (fun _ _ _ _ _ _ us hl => match us, hl with | [_], _ => rfl)
      (case a => k_is); (case l => k_is); (case c => k_is); (case k => k_is)
    case d29 =>
      refine' Tw.DefAt.mk' KX G ?a ?l ?c ?k (fun _ _ _ _ _ _ us hl => match us, hl with | [_, _], _ => rfl)
      (case a => k_is); (case l => k_is); (case c => k_is); (case k => k_is)
    case d31 =>
      refine' Tw.DefAt.mk' KX G ?a ?l ?c ?k (fun _ _ _ _ _ _ us hl => match us, hl with | [_], _ => rfl)
      (case a => k_is); (case l => k_is); (case c => k_is); (case k => k_is)
    case d32 =>
      refine' Tw.DefAt.mk' KX G ?a ?l ?c ?k (fun _ _ _ _ _ _ us hl => match us, hl with | [_], _ => rfl)
      (case a => k_is); (case l => k_is); (case c => k_is); (case k => k_is)
    case d33 =>
      refine' Tw.DefAt.mk' KX G ?a ?l ?c ?k (fun _ _ _ _ _ _ us hl => match us, hl with | [_], _ => rfl)
      (case a => k_is); (case l => k_is); (case c => k_is); (case k => k_is)
    case d35 =>
      refine' Tw.DefAt.mk' KX G ?a ?l ?c ?k (fun _ _ _ _ _ _ us hl => match us, hl with | [_, _], _ => rfl)
      (case a => k_is); (case l => k_is); (case c => k_is); (case k => k_is)
    case d44 =>
      refine' Tw.DefAt.mk' KX G ?a ?l ?c ?k (fun _ _ _ _ _ _ us hl => match us, hl with | [_, _], _ => rfl)
      (case a => k_is); (case l => k_is); (case c => k_is); (case k => k_is)
    case d46 =>
      refine' Tw.DefAt.mk' KX G ?a ?l ?c ?k (fun _ _ _ _ _ _ us hl => match us, hl with | [_, _, _], _ => rfl)
      (case a => k_is); (case l => k_is); (case c => k_is); (case k => k_is)
    case d47 =>
      refine' Tw.DefAt.mk' KX G ?a ?l ?c ?k (fun _ _ _ _ _ _ us hl => match us, hl with | [_, _], _ => rfl)
      (case a => k_is); (case l => k_is); (case c => k_is); (case k => k_is)
    case d53 =>
      refine' Tw.DefAt.mk' KX G ?a ?l ?c ?k (fun _ _ _ _ _ _ us hl => match us, hl with | [_], _ => rfl)
      (case a => k_is); (case l => k_is); (case c => k_is); (case k => k_is)
    case d56 =>
      refine' Tw.DefAt.mk' KX G ?a ?l ?c ?k (fun _ _ _ _ _ _ us hl => match us, hl with | [_], _ => rfl)
      (case a => k_is); (case l => k_is); (case c => k_is); (case k => k_is)
    case d75 =>
      refine' Tw.DefAt.mk' KX G ?a ?l ?c ?k (fun _ _ _ _ _ _ us hl => match us, hl with | [_], _ => rfl)
      (case a => k_is); (case l => k_is); (case c => k_is); (case k => k_is)
    case d7 =>
      refine' Tw.DefAt.mk' KX G ?a ?l ?c ?k (fun _ _ _ _ _ _ us hl => match us, hl with | [_], _ => rfl)
      (case a => k_is); (case l => k_is); (case c => k_is); (case k => k_is)
    case d34 =>
      refine' Tw.DefAt.mk' KX G ?a ?l ?c ?k (fun _ _ _ _ _ _ us hl => match us, hl with | [_, _], _ => rfl)
      (case a => k_is); (case l => k_is); (case c => k_is); (case k => k_is)
    case d36 =>
      refine' Tw.DefAt.mk' KX G ?a ?l ?c ?k (fun _ _ _ _ _ _ us hl => match us, hl with | [_, _], _ => rfl)
      (case a => k_is); (case l => k_is); (case c => k_is); (case k => k_is)
    case d37 =>
      refine' Tw.DefAt.mk' KX G ?a ?l ?c ?k (fun _ _ _ _ _ _ us hl => match us, hl with | [_, _], _ => rfl)
      (case a => k_is); (case l => k_is); (case c => k_is); (case k => k_is)
    case d38 =>
      refine' Tw.DefAt.mk' KX G ?a ?l ?c ?k (fun _ _ _ _ _ _ us hl => match us, hl with | [_, _], _ => rfl)
      (case a => k_is); (case l => k_is); (case c => k_is); (case k => k_is)
    case d49 =>
      refine' Tw.DefAt.mk' KX G ?a ?l ?c ?k (fun _ _ _ _ _ _ us hl => match us, hl with | [_, _], _ => rfl)
      (case a => k_is); (case l => k_is); (case c => k_is); (case k => k_is)
    case d52 =>
      refine' Tw.DefAt.mk' KX G ?a ?l ?c ?k (fun _ _ _ _ _ _ us hl => match us, hl with | [_, _], _ => rfl)
      (case a => k_is); (case l => k_is); (case c => k_is); (case k => k_is)
    case d76 =>
      refine' Tw.DefAt.mk' KX G ?a ?l ?c ?k (fun _ _ _ _ _ _ us hl => match us, hl with | [_, _, _, _], _ => rfl)
      (case a => k_is); (case l => k_is); (case c => k_is); (case k => k_is)
    case d78 =>
      refine' Tw.DefAt.mk' KX G ?a ?l ?c ?k (fun _ _ _ _ _ _ us hl => match us, hl with | [_, _, _, _, _], _ => rfl)
      (case a => k_is); (case l => k_is); (case c => k_is); (case k => k_is)
    case d41 =>
      refine' Tw.DefAt.mk' KX G ?a ?l ?c ?k (fun _ _ _ _ _ _ us hl => match us, hl with | [_, _, _], _ => rfl)
      (case a => k_is); (case l => k_is); (case c => k_is); (case k => k_is)
    case d50 =>
      refine' Tw.DefAt.mk' KX G ?a ?l ?c ?k (fun _ _ _ _ _ _ us hl => match us, hl with | [_, _], _ => rfl)
      (case a => k_is); (case l => k_is); (case c => k_is); (case k => k_is)
    case d70 =>
      refine' Tw.DefAt.mk' KX G ?a ?l ?c ?k (fun _ _ _ _ _ _ us hl => match us, hl with | [_, _], _ => rfl)
      (case a => k_is); (case l => k_is); (case c => k_is); (case k => k_is)
    case d79 =>
      refine' Tw.DefAt.mk' KX G ?a ?l ?c ?k (fun _ _ _ _ _ _ us hl => match us, hl with | [_, _], _ => rfl)
      (case a => k_is); (case l => k_is); (case c => k_is); (case k => k_is)
    case d51 =>
      refine' Tw.DefAt.mk' KX G ?a ?l ?c ?k (fun _ _ _ _ _ _ us hl => match us, hl with | [_, _], _ => rfl)
      (case a => k_is); (case l => k_is); (case c => k_is); (case k => k_is)
    case d57 =>
      refine' Tw.DefAt.mk' KX G ?a ?l ?c ?k (fun _ _ _ _ _ _ us hl => match us, hl with | [_, _], _ => rfl)
      (case a => k_is); (case l => k_is); (case c => k_is); (case k => k_is)
    case d65 =>
      refine' Tw.DefAt.mk' KX G ?a ?l ?c ?k (fun _ _ _ _ _ _ us hl => match us, hl with | [_, _], _ => rfl)
      (case a => k_is); (case l => k_is); (case c => k_is); (case k => k_is)
    case d68 =>
      refine' Tw.DefAt.mk' KX G ?a ?l ?c ?k (fun _ _ _ _ _ _ us hl => match us, hl with | [_, _], _ => rfl)
      (case a => k_is); (case l => k_is); (case c => k_is); (case k => k_is)
    case d58 =>
      refine' Tw.DefAt.mk' KX G ?a ?l ?c ?k (fun _ _ _ _ _ _ us hl => match us, hl with | [_, _], _ => rfl)
      (case a => k_is); (case l => k_is); (case c => k_is); (case k => k_is)
    case d67 =>
      refine' Tw.DefAt.mk' KX G ?a ?l ?c ?k (fun _ _ _ _ _ _ us hl => match us, hl with | [_, _], _ => rfl)
      (case a => k_is); (case l => k_is); (case c => k_is); (case k => k_is)
    case d69 =>
      refine' Tw.DefAt.mk' KX G ?a ?l ?c ?k (fun _ _ _ _ _ _ us hl => match us, hl with | [_, _], _ => rfl)
      (case a => k_is); (case l => k_is); (case c => k_is); (case k => k_is)
    case d74 =>
      refine' Tw.DefAt.mk' KX G ?a ?l ?c ?k (fun _ _ _ _ _ _ us hl => match us, hl with | [_, _], _ => rfl)
      (case a => k_is); (case l => k_is); (case c => k_is); (case k => k_is)
    case d62 =>
      refine' Tw.DefAt.mk' KX G ?a ?l ?c ?k (fun _ _ _ _ _ _ us hl => match us, hl with | [_, _], _ => rfl)
      (case a => k_is); (case l => k_is); (case c => k_is); (case k => k_is)
    case d66 =>
      refine' Tw.DefAt.mk' KX G ?a ?l ?c ?k (fun _ _ _ _ _ _ us hl => match us, hl with | [_, _], _ => rfl)
      (case a => k_is); (case l => k_is); (case c => k_is); (case k => k_is)
    case d71 =>
      refine' Tw.DefAt.mk' KX G ?a ?l ?c ?k (fun _ _ _ _ _ _ us hl => match us, hl with | [_, _], _ => rfl)
      (case a => k_is); (case l => k_is); (case c => k_is); (case k => k_is)
    case d72 =>
      refine' Tw.DefAt.mk' KX G ?a ?l ?c ?k (fun _ _ _ _ _ _ us hl => match us, hl with | [_, _], _ => rfl)
      (case a => k_is); (case l => k_is); (case c => k_is); (case k => k_is)
    case d80 =>
      refine' Tw.DefAt.mk' KX G ?a ?l ?c ?k (fun _ _ _ _ _ _ us hl => match us, hl with | [_, _], _ => rfl)
      (case a => k_is); (case l => k_is); (case c => k_is); (case k => k_is)
    case d73 =>
      refine' Tw.DefAt.mk' KX G ?a ?l ?c ?k (fun _ _ _ _ _ _ us hl => match us, hl with | [_, _], _ => rfl)
      (case a => k_is); (case l => k_is); (case c => k_is); (case k => k_is)
    case d83 =>
      refine' Tw.DefAt.mk' KX G ?a ?l ?c ?k (fun _ _ _ _ _ _ us hl => match us, hl with | [_, _, _], _ => rfl)
      (case a => k_is); (case l => k_is); (case c => k_is); (case k => k_is)
    case d85 =>
      refine' Tw.DefAt.mk' KX G ?a ?l ?c ?k (fun _ _ _ _ _ _ us hl => match us, hl with | [_, _, _], _ => rfl)
      (case a => k_is); (case l => k_is); (case c => k_is); (case k => k_is)
    (case a86 => k_is); (case l86 => k_is); (case c86 => k_is); (case k86 => k_is)
    case n0 =>
      refine' Tw.ci_mk KX G ?a
      (case a => k_is)
    case n1 =>
      refine' Tw.ci_mk KX G ?a
      (case a => k_is)
    case n2 =>
      refine' Tw.ci_mk KX G ?a
      (case a => k_is)
    case n3 =>
      refine' Tw.ci_mk KX G ?a
      (case a => k_is)
    case n4 =>
      refine' Tw.ci_mk KX G ?a
      (case a => k_is)
    case n5 =>
      refine' Tw.ci_mk KX G ?a
      (case a => k_is)
    case n6 =>
      refine' Tw.ci_mk KX G ?a
      (case a => k_is)
    case n7 =>
      refine' Tw.ci_mk KX G ?a
      (case a => k_is)
    case n8 =>
      refine' Tw.ci_mk KX G ?a
      (case a => k_is)
    case n9 =>
      refine' Tw.ci_mk KX G ?a
      (case a => k_is)
    case n10 =>
      refine' Tw.ci_mk KX G ?a
      (case a => k_is)
    case n11 =>
      refine' Tw.ci_mk KX G ?a
      (case a => k_is)
    case n12 =>
      refine' Tw.ci_mk KX G ?a
      (case a => k_is)
    case m0 =>
      refine' PySem.W.mg_none_of KX G ?a
      (case a => k_is)
    case m1 =>
      refine' PySem.W.mg_none_of KX G ?a
      (case a => k_is)
    case m2 =>
      refine' PySem.W.mg_none_of KX G ?a
      (case a => k_is)
    case m3 =>
      refine' PySem.W.mg_none_of KX G ?a
      (case a => k_is)
    case m4 =>
      refine' PySem.W.mg_none_of KX G ?a
      (case a => k_is)
    case m5 =>
      refine' PySem.W.mg_none_of KX G ?a
      (case a => k_is)
    case m6 =>
      refine' PySem.W.mg_none_of KX G ?a
      (case a => k_is)
    case m7 =>
      refine' PySem.W.mg_none_of KX G ?a
      (case a => k_is)
    case m8 =>
      refine' PySem.W.mg_none_of KX G ?a
      (case a => k_is)
    case cS =>
      refine' PySem.W.mg_of KX G ?a
      (case a => k_is)
    case kS =>
      refine' Tw.shapes_of ?hS ?h0 ?h1 ?h2 ?h3 ?h4 ?h5 ?h6 ?h7 ?h8 ?h9 ?h10 ?h11 ?h12 ?h13 ?h14 ?h15 ?h16 ?h17
      case hS =>
        refine' Tw.tupK_mk ?l ?z ?v
        (case l => k_is)
        (case z => decide)
        (case v => exact (.cons rfl (.cons rfl (.cons rfl (.cons rfl (.cons rfl (.cons rfl (.cons rfl (.cons rfl (.cons rfl (.cons rfl (.cons rfl (.cons rfl (.cons rfl (.cons rfl (.cons rfl (.cons rfl (.cons rfl (.cons rfl .nil)))))))))))))))))))
      case h0 =>
        refine' Tw.tupK_mk ?l ?z ?v
        (case l => k_is)
        (case z => decide)
        (case v => exact .nil)
      case h1 =>
        refine' Tw.tupK_mk ?l ?z ?v
        (case l => k_is)
        (case z => decide)
        (case v => exact (.cons ⟨_, rfl⟩ (.cons ⟨_, rfl⟩ (.cons ⟨_, rfl⟩ .nil))))
      case h2 =>
        refine' Tw.tupK_mk ?l ?z ?v
        (case l => k_is)
        (case z => decide)
        (case v => exact (.cons ⟨_, rfl⟩ .nil))
      case h3 =>
        refine' Tw.tupK_mk ?l ?z ?v
        (case l => k_is)
        (case z => decide)
        (case v => exact (.cons ⟨_, rfl⟩ (.cons ⟨_, rfl⟩ .nil)))
      case h4 =>
        refine' Tw.tupK_mk ?l ?z ?v
        (case l => k_is)
        (case z => decide)
        (case v => exact (.cons ⟨_, rfl⟩ (.cons ⟨_, rfl⟩ .nil)))
      case h5 =>
        refine' Tw.tupK_mk ?l ?z ?v
        (case l => k_is)
        (case z => decide)
        (case v => exact (.cons ⟨_, rfl⟩ (.cons ⟨_, rfl⟩ .nil)))
      case h6 =>
        refine' Tw.tupK_mk ?l ?z ?v
        (case l => k_is)
        (case z => decide)
        (case v => exact .nil)
      case h7 =>
        refine' Tw.tupK_mk ?l ?z ?v
        (case l => k_is)
        (case z => decide)
        (case v => exact .nil)
      case h8 =>
        refine' Tw.tupK_mk ?l ?z ?v
        (case l => k_is)
        (case z => decide)
        (case v => exact (.cons ⟨_, rfl⟩ .nil))
      case h9 =>
        refine' Tw.tupK_mk ?l ?z ?v
        (case l => k_is)
        (case z => decide)
        (case v => exact .nil)
      case h10 =>
        refine' Tw.tupK_mk ?l ?z ?v
        (case l => k_is)
        (case z => decide)
        (case v => exact (.cons ⟨_, rfl⟩ .nil))
      case h11 =>
        refine' Tw.tupK_mk ?l ?z ?v
        (case l => k_is)
        (case z => decide)
        (case v => exact (.cons ⟨_, rfl⟩ .nil))
      case h12 =>
        refine' Tw.tupK_mk ?l ?z ?v
        (case l => k_is)
        (case z => decide)
        (case v => exact .nil)
      case h13 =>
        refine' Tw.tupK_mk ?l ?z ?v
        (case l => k_is)
        (case z => decide)
        (case v => exact (.cons ⟨_, rfl⟩ .nil))
      case h14 =>
        refine' Tw.tupK_mk ?l ?z ?v
        (case l => k_is)
        (case z => decide)
        (case v => exact (.cons ⟨_, rfl⟩ .nil))
      case h15 =>
        refine' Tw.tupK_mk ?l ?z ?v
        (case l => k_is)
        (case z => decide)
        (case v => exact (.cons ⟨_, rfl⟩ (.cons ⟨_, rfl⟩ (.cons ⟨_, rfl⟩ .nil))))
      case h16 =>
        refine' Tw.tupK_mk ?l ?z ?v
        (case l => k_is)
        (case z => decide)
        (case v => exact (.cons ⟨_, rfl⟩ (.cons ⟨_, rfl⟩ .nil)))
      case h17 =>
        refine' Tw.tupK_mk ?l ?z ?v
        (case l => k_is)
        (case z => decide)
        (case v => exact .nil)
    case cD =>
      refine' PySem.W.mg_of KX G ?a
      (case a => k_is)
    case kD =>
      refine' Tw.kdi_mk ?l ?h ?w
      (case l => k_is)
      (case h => decide +kernel)
      (case w => decide)
    case sD => exact Tw.upto17 (by decide +kernel) (by decide +kernel) (by decide +kernel) (by decide +kernel) (by decide +kernel) (by decide +kernel) (by decide +kernel) (by decide +kernel) (by decide +kernel) (by decide +kernel) (by decide +kernel) (by decide +kernel) (by decide +kernel) (by decide +kernel) (by decide +kernel) (by decide +kernel) (by decide +kernel) (by decide +kernel)
    case e1 =>
      refine' ⟨_, rfl, PySem.W.mg_of KX G ?a⟩
      (case a => k_is)
    case e2 =>
      refine' ⟨_, rfl, PySem.W.mg_of KX G ?a⟩
      (case a => k_is)
    case e3 =>
      refine' ⟨_, rfl, PySem.W.mg_of KX G ?a⟩
      (case a => k_is)
    case e4 =>
      refine' ⟨_, rfl, PySem.W.mg_of KX G ?a⟩
      (case a => k_is)
    case e5 =>
      refine' ⟨_, rfl, PySem.W.mg_of KX G ?a⟩
      (case a => k_is)
    case cQ =>
      refine' PySem.W.mg_of KX G ?a
      (case a => k_is)
    case kQ =>
      refine' Tw.kdi_mk ?l ?h ?w
      (case l => k_is)
      (case h => decide +kernel)
      (case w => decide)
    case e6 =>
      refine' ⟨_, rfl, PySem.W.mg_of KX G ?a⟩
      (case a => k_is)
    case e7 =>
      refine' ⟨_, rfl, PySem.W.mg_of KX G ?a⟩
      (case a => k_is)
    case e8 =>
      refine' ⟨_, rfl, PySem.W.mg_of KX G ?a⟩
      (case a => k_is)
    case e9 =>
      refine' ⟨_, rfl, PySem.W.mg_of KX G ?a⟩
      (case a => k_is)
    case e10 =>
      refine' ⟨_, rfl, PySem.W.mg_of KX G ?a⟩
      (case a => k_is)
    case e11 =>
      refine' ⟨_, rfl, PySem.W.mg_of KX G ?a⟩
      (case a => k_is)
    case e12 =>
      refine' ⟨_, rfl, PySem.W.mg_of KX G ?a⟩
      (case a => k_is)
    case e13 =>
      refine' ⟨_, rfl, PySem.W.mg_of KX G ?a⟩
      (case a => k_is)
    case e14 =>
      refine' ⟨_, rfl, PySem.W.mg_of KX G ?a⟩
      (case a => k_is)
    case e15 =>
      refine' ⟨_, rfl, PySem.W.mg_of KX G ?a⟩
      (case a => k_is)
    case e16 =>
      refine' ⟨_, rfl, PySem.W.mg_of KX G ?a⟩
      (case a => k_is)
    case e17 =>
      refine' ⟨_, rfl, PySem.W.mg_of KX G ?a⟩
      (case a => k_is)
    case WF =>
      refine' Tw.wall_mk KX G ?aC ?a ?i ?l ?c ?k ?pg ?hd ?po ?sa ?mk ?kc ?nH
      (case aC => k_is); (case a => k_is); (case i => k_is); (case l => k_is); (case c => k_is); (case k => k_is)
      (case pg => k_is); (case hd => k_is); (case po => k_is); (case sa => k_is); (case mk => k_is); (case kc => k_is); (case nH => k_is)
  case S =>
    intro K H xs a hO hwi hask hx
    cases hx with
    | cons h1 h2 =>
      cases h2
      cases h1 with
      | lst hs ha =>
        have e := L2.ints_dw a.1 _ ha
        subst e
        obtain ⟨cs, e1, e2, e3, e4, e5, e6⟩ := Tw.request (l := a.1) hask
        have e7 : L2.SqL K H _ ((PyFlat.put cs).map L2.V.int) := e1 ▸ hs
        refine ⟨_, cs, rfl, e7, e2, e3, fun c hc => Tw.asked_size (e4 c hc), e4, e6, fun p H' hp => ?_⟩
        have e8 : H' p = some (.lst ((PySr120.answers a.1).map L2.V.int)) := by
          rw [e5]
          exact hp
        exact .lst (L2.SqL.of e8) (L2.dw_ints _)
