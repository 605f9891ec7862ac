import PyProof.Rows.All
import Wide.All
import OpenK.AllK
import Wide.FinOn
import HandS.ForMost
import HandS.Zip
import HandS.IsInst
import HandS.Wide
import HandS.Style
import HandS.Conv
import HandS.SetFor
import HandS.TupAny
import HandS.Gcd
import HandS.ReCall
import HandS.Evl
import KE.KMathGC
import KE.KTupSum
import KE.GoesEnum
import PySem.Challenge.RW_leastmoved_k16_whole_far_indexes
set_option Elab.async false
set_option linter.all false
set_option maxRecDepth 100000
set_option maxHeartbeats 8000000
/-! LMa: the mathematics of least changes, part 1: lists of numbers, binomials, multinomials. -/
namespace LM
/-- the item at i, 0 outside -/
def g (xs : List Nat) (i : Nat) : Nat := xs.getD i 0
theorem g_set {xs : List Nat} {i j y : Nat} (h : i < xs.length) : g (xs.set i y) j = if j = i then y else g xs j := by
  unfold g
  rw [List.getD_eq_getElem?_getD, List.getD_eq_getElem?_getD, List.getElem?_set]
  by_cases e : i = j
  · subst e; simp [h]
  · have e' : ¬ j = i := fun q => e q.symm
    simp [e, e']
theorem g_out {xs : List Nat} {i : Nat} (h : xs.length ≤ i) : g xs i = 0 := by
  unfold g; rw [List.getD_eq_getElem?_getD, List.getElem?_eq_none h]; rfl
theorem g_cons_zero {x : Nat} {xs : List Nat} : g (x :: xs) 0 = x := rfl
theorem g_cons_succ {x : Nat} {xs : List Nat} {i : Nat} : g (x :: xs) (i + 1) = g xs i := rfl
theorem g_at {xs : List Nat} {i : Nat} (h : i < xs.length) : xs[i]? = some (g xs i) := by
  unfold g; rw [List.getD_eq_getElem?_getD, List.getElem?_eq_getElem h]; rfl
theorem sum_set : ∀ {xs : List Nat} {i y : Nat}, i < xs.length → (xs.set i y).sum + g xs i = xs.sum + y
  | x :: xs, 0, y, _ => by simp [g]; omega
  | x :: xs, i + 1, y, h => by
    have ih := sum_set (xs := xs) (i := i) (y := y) (by simpa using h)
    simp only [List.set_cons_succ, List.sum_cons, g_cons_succ]
    omega
theorem g_le_sum : ∀ {xs : List Nat} {i : Nat}, g xs i ≤ xs.sum
  | [], _ => by simp [g]
  | x :: xs, 0 => by simp [g]
  | x :: xs, i + 1 => by
    have ih := g_le_sum (xs := xs) (i := i)
    rw [g_cons_succ, List.sum_cons]; omega
def pr : List Nat → Nat
  | [] => 1
  | x :: xs => x * pr xs
theorem pr_set : ∀ {xs : List Nat} {i y : Nat}, i < xs.length → pr (xs.set i y) * g xs i = pr xs * y
  | x :: xs, 0, y, _ => by
    simp only [List.set_cons_zero, pr, g_cons_zero]
    rw [Nat.mul_assoc, Nat.mul_comm (pr xs) x, ← Nat.mul_assoc, Nat.mul_comm y x, Nat.mul_assoc, Nat.mul_comm y, ← Nat.mul_assoc]
  | x :: xs, i + 1, y, h => by
    have ih := pr_set (xs := xs) (i := i) (y := y) (by simpa using h)
    simp only [List.set_cons_succ, pr, g_cons_succ]
    rw [Nat.mul_assoc, ih, Nat.mul_assoc]
theorem pr_pos : ∀ {xs : List Nat}, (∀ x ∈ xs, 0 < x) → 0 < pr xs
  | [], _ => by decide
  | x :: xs, h => Nat.mul_pos (h x (by simp)) (pr_pos fun y hy => h y (by simp [hy]))

/-! ### factorials, binomials -/
def fct : Nat → Nat
  | 0 => 1
  | n + 1 => fct n * (n + 1)
theorem fct_pos : ∀ n, 0 < fct n
  | 0 => by decide
  | n + 1 => Nat.mul_pos (fct_pos n) (by omega)
def ch : Nat → Nat → Nat
  | _, 0 => 1
  | 0, _ + 1 => 0
  | n + 1, k + 1 => ch n k + ch n (k + 1)
theorem ch_zero : ∀ n, ch n 0 = 1
  | 0 => rfl
  | _ + 1 => rfl
theorem ch_gt : ∀ {n k : Nat}, n < k → ch n k = 0
  | 0, 0, h => by omega
  | 0, k + 1, _ => rfl
  | n + 1, 0, h => by omega
  | n + 1, k + 1, h => by
    show ch n k + ch n (k + 1) = 0
    rw [ch_gt (n := n) (k := k) (by omega), ch_gt (n := n) (k := k + 1) (by omega)]
theorem ch_self : ∀ n, ch n n = 1
  | 0 => rfl
  | n + 1 => by
    show ch n n + ch n (n + 1) = 1
    rw [ch_self n, ch_gt (by omega)]
theorem ch_pos : ∀ {n k : Nat}, k ≤ n → 0 < ch n k
  | n, 0, _ => by rw [ch_zero]; decide
  | 0, k + 1, h => by omega
  | n + 1, k + 1, h => by
    show 0 < ch n k + ch n (k + 1)
    have := ch_pos (n := n) (k := k) (by omega)
    omega
theorem ch_fct : ∀ a b, ch (a + b) a * (fct a * fct b) = fct (a + b)
  | 0, b => by rw [ch_zero, Nat.zero_add]; simp [fct]
  | a + 1, 0 => by
    rw [Nat.add_zero, ch_self]; simp [fct]
  | a + 1, b + 1 => by
    have h1 := ch_fct a (b + 1)
    have h2 := ch_fct (a + 1) b
    have e1 : a + 1 + (b + 1) = (a + 1 + b) + 1 := by omega
    have e2 : a + (b + 1) = a + 1 + b := by omega
    rw [e2] at h1
    rw [e1]
    show (ch (a + 1 + b) a + ch (a + 1 + b) (a + 1)) * (fct (a + 1) * fct (b + 1)) = fct (a + 1 + b) * (a + 1 + b + 1)
    have f1 : fct (a + 1) = fct a * (a + 1) := rfl
    have f2 : fct (b + 1) = fct b * (b + 1) := rfl
    have s1 : ch (a + 1 + b) a * (fct (a + 1) * fct (b + 1)) = fct (a + 1 + b) * (a + 1) := by
      rw [← h1, f1]
      simp only [Nat.mul_assoc, Nat.mul_comm, Nat.mul_left_comm]
    have s2 : ch (a + 1 + b) (a + 1) * (fct (a + 1) * fct (b + 1)) = fct (a + 1 + b) * (b + 1) := by
      rw [← h2, f2]
      simp only [Nat.mul_assoc, Nat.mul_comm, Nat.mul_left_comm]
    rw [Nat.add_mul, s1, s2, ← Nat.mul_add]
    have : a + 1 + (b + 1) = a + 1 + b + 1 := by omega
    rw [this]

/-! ### multinomials -/
def mlt (e : List Nat) : Nat := fct e.sum / pr (e.map fct)
theorem prf_pos (e : List Nat) : 0 < pr (e.map fct) := pr_pos fun x hx => by
  obtain ⟨y, _, rfl⟩ := List.mem_map.mp hx
  exact fct_pos y
theorem prf_dvd : ∀ e : List Nat, pr (e.map fct) ∣ fct e.sum
  | [] => ⟨1, rfl⟩
  | x :: e => by
    obtain ⟨c, hc⟩ := prf_dvd e
    refine ⟨ch (x + e.sum) x * c, ?_⟩
    rw [List.sum_cons, ← ch_fct x e.sum, hc]
    show ch (x + e.sum) x * (fct x * (pr (e.map fct) * c)) = fct x * pr (e.map fct) * (ch (x + e.sum) x * c)
    simp only [Nat.mul_assoc, Nat.mul_comm, Nat.mul_left_comm]
theorem mlt_mul (e : List Nat) : mlt e * pr (e.map fct) = fct e.sum := Nat.div_mul_cancel (prf_dvd e)
theorem mlt_pos (e : List Nat) : 0 < mlt e := by
  have h := mlt_mul e
  have := fct_pos e.sum
  rcases Nat.eq_zero_or_pos (mlt e) with z | z
  · rw [z, Nat.zero_mul] at h; omega
  · exact z
/-- the list with one less at c -/
def dn (xs : List Nat) (c : Nat) : List Nat := xs.set c (g xs c - 1)
theorem dn_len {xs : List Nat} {c : Nat} : (dn xs c).length = xs.length := by simp [dn]
theorem g_dn {xs : List Nat} {c j : Nat} (h : c < xs.length) : g (dn xs c) j = if j = c then g xs c - 1 else g xs j := g_set h
theorem dn_sum {xs : List Nat} {c : Nat} (h : c < xs.length) (hp : 0 < g xs c) : (dn xs c).sum + 1 = xs.sum := by
  have h1 := sum_set (xs := xs) (i := c) (y := g xs c - 1) h
  unfold dn
  omega
theorem lt_of_gpos {xs : List Nat} {c : Nat} (hp : 0 < g xs c) : c < xs.length := by
  rcases Nat.lt_or_ge c xs.length with h | h
  · exact h
  · rw [g_out h] at hp; omega
theorem map_g {f : Nat → Nat} {xs : List Nat} {i : Nat} (h : i < xs.length) : g (xs.map f) i = f (g xs i) := by
  unfold g
  rw [List.getD_eq_getElem?_getD, List.getD_eq_getElem?_getD, List.getElem?_map, List.getElem?_eq_getElem h]; rfl
theorem dn_prf {e : List Nat} {c : Nat} (hp : 0 < g e c) : pr ((dn e c).map fct) * g e c = pr (e.map fct) := by
  have hc := lt_of_gpos hp
  have h1 := pr_set (xs := e.map fct) (i := c) (y := fct (g e c - 1)) (by simpa using hc)
  rw [map_g hc] at h1
  have e1 : (dn e c).map fct = (e.map fct).set c (fct (g e c - 1)) := by unfold dn; rw [List.map_set]
  rw [e1]
  obtain ⟨n, hn⟩ : ∃ n, g e c = n + 1 := ⟨g e c - 1, by omega⟩
  rw [hn] at h1 ⊢
  have f1 : fct (n + 1) = fct n * (n + 1) := rfl
  rw [f1, show n + 1 - 1 = n from rfl] at h1
  have hpos := fct_pos n
  apply Nat.eq_of_mul_eq_mul_left hpos
  rw [show n + 1 - 1 = n from rfl]
  rw [Nat.mul_left_comm, h1, Nat.mul_comm]
theorem mlt_dn {e : List Nat} {c : Nat} (hp : 0 < g e c) : mlt (dn e c) * pr (e.map fct) = g e c * fct (e.sum - 1) := by
  have hc := lt_of_gpos hp
  have h1 := mlt_mul (dn e c)
  have h2 := dn_sum hc hp
  have h3 : (dn e c).sum = e.sum - 1 := by omega
  rw [h3] at h1
  rw [← dn_prf hp, ← Nat.mul_assoc, h1, Nat.mul_comm]
/-- a total over a list -/
def sm (f : Nat → Nat) : List Nat → Nat
  | [] => 0
  | x :: xs => f x + sm f xs
theorem sm_append (f : Nat → Nat) : ∀ xs ys, sm f (xs ++ ys) = sm f xs + sm f ys
  | [], ys => by simp [sm]
  | x :: xs, ys => by simp only [List.cons_append, sm, sm_append f xs ys]; omega
theorem sm_mul (f : Nat → Nat) (a : Nat) : ∀ xs, sm (fun x => f x * a) xs = sm f xs * a
  | [] => by simp [sm]
  | x :: xs => by simp only [sm, sm_mul f a xs, Nat.add_mul]
theorem sm_congr {f h : Nat → Nat} : ∀ {xs : List Nat}, (∀ x ∈ xs, f x = h x) → sm f xs = sm h xs
  | [], _ => rfl
  | x :: xs, q => by
    simp only [sm]
    rw [q x (by simp), sm_congr (xs := xs) fun y hy => q y (by simp [hy])]
theorem sm_filter (f : Nat → Nat) (p : Nat → Bool) : ∀ xs, sm f (xs.filter p) = sm (fun x => if p x = true then f x else 0) xs
  | [] => rfl
  | x :: xs => by
    rw [List.filter_cons]
    by_cases h : p x = true
    · simp only [h, if_true, sm, sm_filter f p xs]
    · simp only [h, if_false, sm, sm_filter f p xs, Bool.false_eq_true, Nat.zero_add]
theorem sm_add (f h : Nat → Nat) : ∀ xs, sm (fun x => f x + h x) xs = sm f xs + sm h xs
  | [] => rfl
  | x :: xs => by simp only [sm, sm_add f h xs]; omega
theorem sm_zero : ∀ xs : List Nat, sm (fun _ => 0) xs = 0
  | [] => rfl
  | x :: xs => by simp only [sm, sm_zero xs]
theorem sm_map (f h : Nat → Nat) : ∀ xs, sm f (xs.map h) = sm (fun x => f (h x)) xs
  | [] => rfl
  | x :: xs => by simp only [List.map_cons, sm, sm_map f h xs]
theorem sm_g : ∀ xs : List Nat, sm (g xs) (List.range xs.length) = xs.sum
  | [] => rfl
  | x :: xs => by
    rw [List.length_cons, List.range_succ_eq_map, sm, sm_map, List.sum_cons]
    have h1 := sm_g xs
    have h2 : sm (fun i => g (x :: xs) i.succ) (List.range xs.length) = sm (g xs) (List.range xs.length) := sm_congr fun i _ => rfl
    rw [h2, h1, g_cons_zero]
/-- one value alone counts -/
theorem sm_one (f : Nat → Nat) (v : Nat) : ∀ k, sm (fun c => if c = v then f c else 0) (List.range k) = if v < k then f v else 0
  | 0 => rfl
  | k + 1 => by
    rw [List.range_succ, sm_append, sm_one f v k]
    simp only [sm]
    by_cases h : k = v
    · subst h
      simp
    · by_cases h2 : v < k
      · rw [if_pos h2, if_neg h, if_pos (by omega)]; omega
      · rw [if_neg h2, if_neg h, if_neg (by omega)]
theorem sm_mlt {e : List Nat} (hs : 0 < e.sum) : sm (fun c => if 0 < g e c then mlt (dn e c) else 0) (List.range e.length) = mlt e := by
  apply Nat.eq_of_mul_eq_mul_right (prf_pos e)
  rw [← sm_mul, mlt_mul]
  have h : sm (fun c => (if 0 < g e c then mlt (dn e c) else 0) * pr (e.map fct)) (List.range e.length) = sm (fun c => g e c * fct (e.sum - 1)) (List.range e.length) := by
    apply sm_congr
    intro c _
    by_cases hp : 0 < g e c
    · rw [if_pos hp, mlt_dn hp]
    · have z : g e c = 0 := by omega
      rw [if_neg hp, z, Nat.zero_mul, Nat.zero_mul]
  rw [h, sm_mul, sm_g]
  obtain ⟨n, hn⟩ : ∃ n, e.sum = n + 1 := ⟨e.sum - 1, by omega⟩
  rw [hn]
  show (n + 1) * fct n = fct n * (n + 1)
  rw [Nat.mul_comm]
end LM

/-! LMb: the mathematics of least changes, part 2: what is left to be decided, the options of a bucket, the number of ways. -/
namespace LM
/-- what is left to be decided: waiting, leaving, entering -/
structure M where
  w : List Nat
  l : List Nat
  e : List Nat
/-- the next bucket, of the variant v, gets c -/
def tk (m : M) (v c : Nat) : M := if c = v then ⟨dn m.w v, m.l, m.e⟩ else ⟨dn m.w v, dn m.l v, dn m.e c⟩
def can (m : M) (v c : Nat) : Bool := (decide (c = v) && decide (g m.l v < g m.w v)) || (decide (0 < g m.l v) && decide (0 < g m.e c))
def opts (m : M) (v : Nat) : List Nat := (List.range m.w.length).filter (can m v)
def wy (m : M) : Nat := mlt m.e * pr (List.zipWith ch m.w m.l)
structure WF (k : Nat) (m : M) (vs : List Nat) : Prop where
  lw : m.w.length = k
  ll : m.l.length = k
  le : m.e.length = k
  vk : ∀ v ∈ vs, v < k
  cnt : ∀ i, i < k → g m.w i = vs.count i
  lle : ∀ i, g m.l i ≤ g m.w i
  sm : m.l.sum = m.e.sum
  dj : ∀ i, g m.l i = 0 ∨ g m.e i = 0
theorem mem_opts {m : M} {v c : Nat} : c ∈ opts m v ↔ c < m.w.length ∧ can m v c = true := by
  unfold opts; rw [List.mem_filter, List.mem_range]
theorem can_iff {m : M} {v c : Nat} : can m v c = true ↔ (c = v ∧ g m.l v < g m.w v) ∨ (0 < g m.l v ∧ 0 < g m.e c) := by
  unfold can; simp
theorem WF.w_pos {k : Nat} {m : M} {v : Nat} {vs : List Nat} (h : WF k m (v :: vs)) : 0 < g m.w v := by
  rw [h.cnt v (h.vk v (by simp)), List.count_cons_self]; omega
theorem WF.tk {k : Nat} {m : M} {v c : Nat} {vs : List Nat} (h : WF k m (v :: vs)) (hc : c ∈ opts m v) : WF k (tk m v c) vs := by
  obtain ⟨hck, hcan⟩ := mem_opts.mp hc
  have hv : v < k := h.vk v (by simp)
  have hvw : v < m.w.length := by rw [h.lw]; exact hv
  have hvl : v < m.l.length := by rw [h.ll]; exact hv
  have hce : c < m.e.length := by rw [h.le, ← h.lw]; exact hck
  have hw := h.w_pos
  have cnt : ∀ i, i < k → g (dn m.w v) i = vs.count i := fun i hi => by
    have q := h.cnt i hi
    rw [g_dn hvw]
    by_cases e : i = v
    · subst e
      rw [List.count_cons_self] at q
      rw [if_pos rfl, q]; omega
    · rw [List.count_cons_of_ne (fun z => e z.symm)] at q
      rw [if_neg e, q]
  have dj := h.dj
  have lle := h.lle
  unfold LM.tk
  rcases can_iff.mp hcan with ⟨e, hl⟩ | ⟨hl, he⟩
  · rw [if_pos e]
    refine ⟨by rw [dn_len]; exact h.lw, h.ll, h.le, fun x hx => h.vk x (by simp [hx]), cnt, fun i => ?_, h.sm, h.dj⟩
    show g m.l i ≤ g (dn m.w v) i
    rw [g_dn hvw]
    by_cases e : i = v
    · subst e; rw [if_pos rfl]; omega
    · rw [if_neg e]; exact lle i
  · have nev : c ≠ v := fun z => by
      subst z
      rcases dj c with q | q <;> omega
    rw [if_neg nev]
    refine ⟨by rw [dn_len]; exact h.lw, by rw [dn_len]; exact h.ll, by rw [dn_len]; exact h.le, fun x hx => h.vk x (by simp [hx]), cnt, fun i => ?_, ?_, fun i => ?_⟩
    · show g (dn m.l v) i ≤ g (dn m.w v) i
      rw [g_dn hvw, g_dn hvl]
      by_cases e : i = v
      · subst e
        have := lle i
        rw [if_pos rfl, if_pos rfl]; omega
      · rw [if_neg e, if_neg e]; exact lle i
    · show (dn m.l v).sum = (dn m.e c).sum
      have h1 := dn_sum hvl hl
      have h2 := dn_sum hce he
      have h3 := h.sm
      omega
    · show g (dn m.l v) i = 0 ∨ g (dn m.e c) i = 0
      rw [g_dn hvl, g_dn hce]
      rcases dj i with q | q
      · left
        by_cases e : i = v
        · subst e; omega
        · rw [if_neg e]; exact q
      · right
        by_cases e : i = c
        · subst e; omega
        · rw [if_neg e]; exact q

theorem zip_set {f : Nat → Nat → Nat} : ∀ {xs ys : List Nat} {i a b : Nat}, List.zipWith f (xs.set i a) (ys.set i b) = (List.zipWith f xs ys).set i (f a b)
  | [], _, _, _, _ => by simp
  | _ :: _, [], _, _, _ => by simp
  | x :: xs, y :: ys, 0, a, b => by simp
  | x :: xs, y :: ys, i + 1, a, b => by simp [zip_set]
theorem set_self : ∀ {xs : List Nat} {i : Nat}, xs.set i (g xs i) = xs
  | [], _ => by simp
  | x :: xs, 0 => by simp [g]
  | x :: xs, i + 1 => by
    have := set_self (xs := xs) (i := i)
    simp only [List.set_cons_succ, g_cons_succ, this]
theorem g_zip {f : Nat → Nat → Nat} {xs ys : List Nat} {i : Nat} (h1 : i < xs.length) (h2 : i < ys.length) : g (List.zipWith f xs ys) i = f (g xs i) (g ys i) := by
  have h3 : i < (List.zipWith f xs ys).length := by rw [List.length_zipWith]; omega
  unfold g
  rw [List.getD_eq_getElem?_getD, List.getD_eq_getElem?_getD, List.getD_eq_getElem?_getD, List.getElem?_eq_getElem h1, List.getElem?_eq_getElem h2, List.getElem?_eq_getElem h3, List.getElem_zipWith]
  rfl
theorem pz_set {w l : List Nat} {v a b : Nat} (h1 : v < w.length) (h2 : v < l.length) : pr (List.zipWith ch (w.set v a) (l.set v b)) * ch (g w v) (g l v) = pr (List.zipWith ch w l) * ch a b := by
  have h := pr_set (xs := List.zipWith ch w l) (i := v) (y := ch a b) (by rw [List.length_zipWith]; omega)
  rw [g_zip h1 h2] at h
  rw [zip_set]
  exact h
theorem pz_stay {w l : List Nat} {v : Nat} (h1 : v < w.length) (h2 : v < l.length) : pr (List.zipWith ch (dn w v) l) * ch (g w v) (g l v) = pr (List.zipWith ch w l) * ch (g w v - 1) (g l v) := by
  have h := pz_set (a := g w v - 1) (b := g l v) h1 h2
  rw [set_self] at h
  exact h
theorem wy_split {k : Nat} {m : M} {v : Nat} {vs : List Nat} (h : WF k m (v :: vs)) : sm (fun c => wy (tk m v c)) (opts m v) = wy m := by
  have hv : v < k := h.vk v (by simp)
  have hvw : v < m.w.length := by rw [h.lw]; exact hv
  have hvl : v < m.l.length := by rw [h.ll]; exact hv
  have hw := h.w_pos
  have hle := h.lle v
  have hdj := h.dj v
  have hX : 0 < ch (g m.w v) (g m.l v) := ch_pos hle
  have st := pz_stay hvw hvl
  have mv := pz_set (w := m.w) (l := m.l) (a := g m.w v - 1) (b := g m.l v - 1) hvw hvl
  have hlen : m.w.length = m.e.length := by rw [h.lw, h.le]
  unfold opts
  rw [sm_filter]
  have e1 : sm (fun c => if can m v c = true then wy (tk m v c) else 0) (List.range m.w.length)
      = sm (fun c => (if c = v then mlt m.e * pr (List.zipWith ch (dn m.w v) m.l) else 0) + (if 0 < g m.e c then mlt (dn m.e c) else 0) * (if 0 < g m.l v then pr (List.zipWith ch (dn m.w v) (dn m.l v)) else 0)) (List.range m.w.length) := by
    apply sm_congr
    intro c _
    by_cases ec : c = v
    · subst ec
      have z : (if 0 < g m.e c then mlt (dn m.e c) else 0) * (if 0 < g m.l c then pr (List.zipWith ch (dn m.w c) (dn m.l c)) else 0) = 0 := by
        rcases hdj with q | q
        · rw [q]; simp
        · rw [q]; simp
      rw [z, if_pos rfl, Nat.add_zero]
      by_cases hl : g m.l c < g m.w c
      · rw [if_pos (can_iff.mpr (.inl ⟨rfl, hl⟩))]
        unfold tk wy
        rw [if_pos rfl]
      · have nc : ¬ can m c c = true := fun q => by
          rcases can_iff.mp q with ⟨_, q⟩ | ⟨q1, q2⟩
          · exact hl q
          · rcases hdj with q | q <;> omega
        rw [if_neg nc]
        have z1 : ch (g m.w c - 1) (g m.l c) = 0 := ch_gt (by omega)
        rw [z1, Nat.mul_zero] at st
        have z2 : pr (List.zipWith ch (dn m.w c) m.l) = 0 := by
          rcases Nat.mul_eq_zero.mp st with q | q
          · exact q
          · omega
        rw [z2, Nat.mul_zero]
    · rw [if_neg ec, Nat.zero_add]
      by_cases q1 : 0 < g m.l v
      · by_cases q2 : 0 < g m.e c
        · rw [if_pos (can_iff.mpr (.inr ⟨q1, q2⟩)), if_pos q1, if_pos q2]
          unfold tk wy
          rw [if_neg ec]
        · have nc : ¬ can m v c = true := fun q => by
            rcases can_iff.mp q with ⟨q, _⟩ | ⟨_, q⟩
            · exact ec q
            · exact q2 q
          rw [if_neg nc, if_neg q2, Nat.zero_mul]
      · have nc : ¬ can m v c = true := fun q => by
          rcases can_iff.mp q with ⟨q, _⟩ | ⟨q, _⟩
          · exact ec q
          · exact q1 q
        rw [if_neg nc, if_neg q1, Nat.mul_zero]
  rw [e1, sm_add, sm_mul, hlen]
  have e2 : sm (fun c => if c = v then mlt m.e * pr (List.zipWith ch (dn m.w v) m.l) else 0) (List.range m.e.length) = mlt m.e * pr (List.zipWith ch (dn m.w v) m.l) := by
    have q := sm_one (fun _ => mlt m.e * pr (List.zipWith ch (dn m.w v) m.l)) v m.e.length
    rw [if_pos (by rw [← hlen]; exact hvw)] at q
    exact q
  rw [e2]
  apply Nat.eq_of_mul_eq_mul_right hX
  unfold wy
  by_cases hl : 0 < g m.l v
  · have hs : 0 < m.e.sum := by
      rw [← h.sm]
      exact Nat.lt_of_lt_of_le hl g_le_sum
    rw [sm_mlt hs, if_pos hl, Nat.add_mul, Nat.mul_assoc, st, Nat.mul_assoc]
    have mv' : pr (List.zipWith ch (dn m.w v) (dn m.l v)) * ch (g m.w v) (g m.l v) = pr (List.zipWith ch m.w m.l) * ch (g m.w v - 1) (g m.l v - 1) := mv
    rw [mv', ← Nat.mul_add, ← Nat.mul_add, Nat.mul_assoc]
    obtain ⟨a, ha⟩ : ∃ a, g m.w v = a + 1 := ⟨g m.w v - 1, by omega⟩
    obtain ⟨b, hb⟩ : ∃ b, g m.l v = b + 1 := ⟨g m.l v - 1, by omega⟩
    rw [ha, hb]
    show mlt m.e * (pr (List.zipWith ch m.w m.l) * (ch a (b + 1) + ch a b)) = mlt m.e * (pr (List.zipWith ch m.w m.l) * (ch a b + ch a (b + 1)))
    rw [Nat.add_comm (ch a (b + 1))]
  · have z : g m.l v = 0 := by omega
    rw [if_neg hl, Nat.mul_zero, Nat.add_zero, Nat.mul_assoc, st, z, ch_zero, ch_zero, ← Nat.mul_assoc]
theorem WF.nil_all {k : Nat} {m : M} (h : WF k m []) : (∀ i, g m.w i = 0) ∧ (∀ i, g m.l i = 0) ∧ (∀ i, g m.e i = 0) := by
  have hw : ∀ i, g m.w i = 0 := fun i => by
    rcases Nat.lt_or_ge i k with q | q
    · rw [h.cnt i q]; rfl
    · exact g_out (by rw [h.lw]; exact q)
  have hl : ∀ i, g m.l i = 0 := fun i => by
    have := h.lle i
    have := hw i
    omega
  have zs : ∀ xs : List Nat, (∀ i, g xs i = 0) → xs.sum = 0 := by
    intro xs
    induction xs with
    | nil => intro _; rfl
    | cons x xs ih =>
      intro q
      have q0 : x = 0 := q 0
      rw [List.sum_cons, q0, ih fun i => q (i + 1)]
  have es : m.e.sum = 0 := by rw [← h.sm]; exact zs _ hl
  refine ⟨hw, hl, fun i => ?_⟩
  have := g_le_sum (xs := m.e) (i := i)
  omega
theorem wy_pos {k : Nat} {m : M} {vs : List Nat} (h : WF k m vs) : 0 < wy m := by
  refine Nat.mul_pos (mlt_pos _) (pr_pos fun x hx => ?_)
  obtain ⟨i, hi⟩ := List.mem_iff_getElem?.mp hx
  obtain ⟨hi2, e⟩ := List.getElem?_eq_some_iff.mp hi
  rw [List.length_zipWith] at hi2
  have q := g_zip (f := ch) (xs := m.w) (ys := m.l) (i := i) (by omega) (by omega)
  have e2 : g (List.zipWith ch m.w m.l) i = x := by
    unfold g; rw [List.getD_eq_getElem?_getD, hi]; rfl
  rw [← e2, q]
  exact ch_pos (h.lle i)
theorem wy_nil {k : Nat} {m : M} (h : WF k m []) : wy m = 1 := by
  obtain ⟨hw, hl, he⟩ := h.nil_all
  have h1 : ∀ xs : List Nat, (∀ i, g xs i = 0) → mlt xs = 1 := fun xs q => by
    have a : ∀ ys : List Nat, (∀ i, g ys i = 0) → ys.sum = 0 ∧ pr (ys.map fct) = 1 := by
      intro ys
      induction ys with
      | nil => intro _; exact ⟨rfl, rfl⟩
      | cons y ys ih =>
        intro q
        have q0 : y = 0 := q 0
        obtain ⟨i1, i2⟩ := ih fun i => q (i + 1)
        refine ⟨by rw [List.sum_cons, q0, i1], ?_⟩
        rw [List.map_cons, pr, i2, q0]; rfl
    unfold mlt
    rw [(a xs q).1, (a xs q).2]; rfl
  have h2 : ∀ xs ys : List Nat, (∀ i, g ys i = 0) → pr (List.zipWith ch xs ys) = 1 := by
    intro xs
    induction xs with
    | nil => intro ys _; rfl
    | cons x xs ih =>
      intro ys q
      cases ys with
      | nil => rfl
      | cons y ys =>
        have q0 : y = 0 := q 0
        rw [List.zipWith_cons_cons, pr, ih ys fun i => q (i + 1), q0, ch_zero]
  unfold wy
  rw [h1 _ he, h2 _ _ hl]
end LM

/-! LMc: the mathematics of least changes, part 3: paths, their indexes, the next one. -/
namespace LM
/-- the ways with an option -/
abbrev wo (m : M) (v : Nat) : Nat → Nat := fun c => wy (tk m v c)
/-- the options scanned: the one at the index, and what is left of the index -/
def pk (f : Nat → Nat) : List Nat → Nat → Nat × Nat
  | [], i => (0, i)
  | c :: cs, i => if i < f c then (c, i) else pk f cs (i - f c)
def nth : List Nat → M → Nat → List Nat
  | [], _, _ => []
  | v :: vs, m, i => (pk (wo m v) (opts m v) i).1 :: nth vs (tk m v (pk (wo m v) (opts m v) i).1) (pk (wo m v) (opts m v) i).2
def Path : List Nat → M → List Nat → Prop
  | [], _, cs => cs = []
  | v :: vs, m, cs => ∃ c r, cs = c :: r ∧ c ∈ opts m v ∧ Path vs (tk m v c) r
def idx : List Nat → M → List Nat → Nat
  | v :: vs, m, c :: cs => sm (wo m v) ((opts m v).filter (· < c)) + idx vs (tk m v c) cs
  | _, _, _ => 0
def cmpl : List Nat → List Nat → M → List Nat
  | _, [], _ => []
  | [], v :: vs, m => (opts m v).headD 0 :: cmpl [] vs (tk m v ((opts m v).headD 0))
  | b :: bs, v :: vs, m => b :: cmpl bs vs (tk m v b)
def nx : List Nat → M → List Nat → Option (List Nat)
  | v :: vs, m, c :: cs => match nx vs (tk m v c) cs with
    | some p => some (c :: p)
    | none => match (opts m v).filter (c < ·) with
      | [] => none
      | d :: _ => some [d]
  | _, _, _ => none
def lexL : List Nat → List Nat → Bool
  | [], [] => false
  | [], _ :: _ => true
  | _ :: _, [] => false
  | x :: xs, y :: ys => if x = y then lexL xs ys else decide (x < y)

/-! ### ascending lists -/
abbrev Asc (xs : List Nat) : Prop := xs.Pairwise (· < ·)
theorem asc_opts (m : M) (v : Nat) : Asc (opts m v) := (List.pairwise_lt_range).filter _
theorem filter_lt_nil {c : Nat} {cs : List Nat} (h : ∀ a ∈ cs, c < a) : cs.filter (· < c) = [] := by
  rw [List.filter_eq_nil_iff]
  intro a ha q
  have := h a ha
  have := of_decide_eq_true q
  omega
theorem pk_ok {f : Nat → Nat} : ∀ {cs : List Nat} {i : Nat}, Asc cs → i < sm f cs → (pk f cs i).1 ∈ cs ∧ (pk f cs i).2 < f (pk f cs i).1 ∧ sm f (cs.filter (· < (pk f cs i).1)) + (pk f cs i).2 = i
  | [], i, _, h => by simp [sm] at h
  | c :: cs, i, a, h => by
    obtain ⟨a1, a2⟩ := List.pairwise_cons.mp a
    unfold pk
    by_cases q : i < f c
    · rw [if_pos q]
      refine ⟨by simp, q, ?_⟩
      show sm f ((c :: cs).filter (· < c)) + i = i
      rw [List.filter_cons_of_neg (by simp), filter_lt_nil a1]
      simp [sm]
    · rw [if_neg q]
      obtain ⟨h1, h2, h3⟩ := pk_ok (f := f) (cs := cs) (i := i - f c) a2 (by simp only [sm] at h; omega)
      refine ⟨by simp [h1], h2, ?_⟩
      have lt : c < (pk f cs (i - f c)).1 := a1 _ h1
      rw [List.filter_cons_of_pos (by simp [lt])]
      simp only [sm]
      omega
theorem sm_below {f : Nat → Nat} {d : Nat} : ∀ {cs : List Nat} {c : Nat}, Asc cs → c ∈ cs → c < d → sm f (cs.filter (· < c)) + f c ≤ sm f (cs.filter (· < d))
  | x :: cs, c, a, h, hd => by
    obtain ⟨a1, a2⟩ := List.pairwise_cons.mp a
    rcases List.mem_cons.mp h with e | h
    · subst e
      rw [List.filter_cons_of_neg (by simp), filter_lt_nil a1, List.filter_cons_of_pos (by simp [hd])]
      simp only [sm]
      omega
    · have lt : x < c := a1 _ h
      have ih := sm_below (f := f) (d := d) a2 h hd
      rw [List.filter_cons_of_pos (by simp [lt]), List.filter_cons_of_pos (by simp; omega)]
      simp only [sm]
      omega
theorem sm_all {f : Nat → Nat} : ∀ {cs : List Nat} {c : Nat}, Asc cs → c ∈ cs → sm f (cs.filter (· < c)) + f c ≤ sm f cs
  | x :: cs, c, a, h => by
    obtain ⟨a1, a2⟩ := List.pairwise_cons.mp a
    rcases List.mem_cons.mp h with e | h
    · subst e
      rw [List.filter_cons_of_neg (by simp), filter_lt_nil a1]
      simp only [sm]
      omega
    · have lt : x < c := a1 _ h
      have ih := sm_all (f := f) a2 h
      rw [List.filter_cons_of_pos (by simp [lt])]
      simp only [sm]
      omega
/-- c is the last one -/
theorem sm_last {f : Nat → Nat} : ∀ {cs : List Nat} {c : Nat}, Asc cs → c ∈ cs → cs.filter (c < ·) = [] → sm f (cs.filter (· < c)) + f c = sm f cs
  | x :: cs, c, a, h, hn => by
    obtain ⟨a1, a2⟩ := List.pairwise_cons.mp a
    rcases List.mem_cons.mp h with e | h
    · subst e
      rw [List.filter_cons_of_neg (by simp)] at hn
      have z : cs = [] := by
        cases cs with
        | nil => rfl
        | cons y ys =>
          rw [List.filter_eq_nil_iff] at hn
          have := hn y (by simp)
          have := a1 y (by simp)
          simp_all
      subst z
      rw [List.filter_cons_of_neg (by simp)]
      simp [sm]
    · have lt : x < c := a1 _ h
      rw [List.filter_cons_of_neg (by simp; omega)] at hn
      have ih := sm_last (f := f) a2 h hn
      rw [List.filter_cons_of_pos (by simp [lt])]
      simp only [sm]
      omega
/-- d comes next behind c -/
theorem sm_next {f : Nat → Nat} {d : Nat} {r : List Nat} : ∀ {cs : List Nat} {c : Nat}, Asc cs → c ∈ cs → cs.filter (c < ·) = d :: r → d ∈ cs ∧ c < d ∧ sm f (cs.filter (· < d)) = sm f (cs.filter (· < c)) + f c
  | x :: cs, c, a, h, hn => by
    obtain ⟨a1, a2⟩ := List.pairwise_cons.mp a
    have hd : d ∈ (x :: cs).filter (c < ·) := by rw [hn]; simp
    obtain ⟨hd1, hd2⟩ := List.mem_filter.mp hd
    have hcd : c < d := of_decide_eq_true hd2
    refine ⟨hd1, hcd, ?_⟩
    rcases List.mem_cons.mp h with e | h
    · subst e
      rw [List.filter_cons_of_neg (by simp)] at hn
      rw [List.filter_cons_of_pos (p := fun x => decide (x < d)) (by simp [hcd]), List.filter_cons_of_neg (p := fun x => decide (x < c)) (by simp), filter_lt_nil a1]
      have z : cs.filter (c < ·) = cs := List.filter_eq_self.mpr fun y hy => by have := a1 y hy; simp [this]
      rw [z] at hn
      subst hn
      obtain ⟨b1, _⟩ := List.pairwise_cons.mp a2
      rw [List.filter_cons_of_neg (by simp), filter_lt_nil b1]
      simp [sm]
    · have lt : x < c := a1 _ h
      rw [List.filter_cons_of_neg (by simp; omega)] at hn
      obtain ⟨_, _, ih⟩ := sm_next (f := f) a2 h hn
      have ltd : x < d := Nat.lt_trans lt hcd
      rw [List.filter_cons_of_pos (by simp [ltd]), List.filter_cons_of_pos (by simp [lt])]
      simp only [sm]
      omega

/-! ### paths and their indexes -/
theorem idx_lt {k : Nat} : ∀ {vs cs : List Nat} {m : M}, WF k m vs → Path vs m cs → idx vs m cs < wy m
  | [], cs, m, h, p => by
    have e : cs = [] := p
    subst e
    exact wy_pos h
  | v :: vs, cs, m, h, p => by
    obtain ⟨c, r, rfl, hc, hp⟩ := p
    have ih := idx_lt (h.tk hc) hp
    have q := sm_all (f := wo m v) (asc_opts m v) hc
    have s := wy_split h
    show sm (wo m v) ((opts m v).filter (· < c)) + idx vs (tk m v c) r < wy m
    have e : wo m v c = wy (tk m v c) := rfl
    have s' : sm (wo m v) (opts m v) = wy m := s
    omega
theorem nth_ok {k : Nat} : ∀ {vs : List Nat} {m : M} {i : Nat}, WF k m vs → i < wy m → Path vs m (nth vs m i) ∧ idx vs m (nth vs m i) = i
  | [], m, i, h, hi => by
    rw [wy_nil h] at hi
    refine ⟨rfl, ?_⟩
    show 0 = i
    omega
  | v :: vs, m, i, h, hi => by
    have s : sm (wo m v) (opts m v) = wy m := wy_split h
    obtain ⟨h1, h2, h3⟩ := pk_ok (f := wo m v) (asc_opts m v) (by rw [s]; exact hi)
    obtain ⟨i1, i2⟩ := nth_ok (h.tk h1) h2
    refine ⟨⟨_, _, rfl, h1, i1⟩, ?_⟩
    show sm (wo m v) ((opts m v).filter (· < (pk (wo m v) (opts m v) i).1)) + idx vs (tk m v (pk (wo m v) (opts m v) i).1) (nth vs (tk m v (pk (wo m v) (opts m v) i).1) (pk (wo m v) (opts m v) i).2) = i
    rw [i2]
    exact h3
theorem idx_lex {k : Nat} : ∀ {vs cs ds : List Nat} {m : M}, WF k m vs → Path vs m cs → Path vs m ds → lexL cs ds = true → idx vs m cs < idx vs m ds
  | [], cs, ds, m, h, p, q, l => by
    have e1 : cs = [] := p
    have e2 : ds = [] := q
    subst e1 e2
    cases l
  | v :: vs, cs, ds, m, h, p, q, l => by
    obtain ⟨c, r, rfl, hc, hp⟩ := p
    obtain ⟨d, t, rfl, hd, hq⟩ := q
    show sm (wo m v) ((opts m v).filter (· < c)) + idx vs (tk m v c) r < sm (wo m v) ((opts m v).filter (· < d)) + idx vs (tk m v d) t
    unfold lexL at l
    by_cases e : c = d
    · subst e
      rw [if_pos rfl] at l
      have ih := idx_lex (h.tk hc) hp hq l
      omega
    · rw [if_neg e] at l
      have lt : c < d := of_decide_eq_true l
      have b := sm_below (f := wo m v) (asc_opts m v) hc lt
      have i := idx_lt (h.tk hc) hp
      have e : wo m v c = wy (tk m v c) := rfl
      omega
theorem lex_tri : ∀ {xs ys : List Nat}, xs.length = ys.length → lexL xs ys = true ∨ xs = ys ∨ lexL ys xs = true
  | [], [], _ => .inr (.inl rfl)
  | [], _ :: _, h => by simp at h
  | _ :: _, [], h => by simp at h
  | x :: xs, y :: ys, h => by
    unfold lexL
    by_cases e : x = y
    · subst e
      rw [if_pos rfl, if_pos rfl]
      rcases lex_tri (xs := xs) (ys := ys) (by simpa using h) with q | q | q
      · exact .inl q
      · exact .inr (.inl (by rw [q]))
      · exact .inr (.inr q)
    · rw [if_neg e, if_neg fun q => e q.symm]
      rcases Nat.lt_or_ge x y with q | q
      · exact .inl (decide_eq_true q)
      · exact .inr (.inr (decide_eq_true (by omega)))
theorem lex_irr : ∀ xs : List Nat, lexL xs xs = false
  | [] => rfl
  | x :: xs => by
    unfold lexL
    rw [if_pos rfl]
    exact lex_irr xs
theorem Path.len : ∀ {vs cs : List Nat} {m : M}, Path vs m cs → cs.length = vs.length
  | [], cs, m, p => by
    have e : cs = [] := p
    subst e; rfl
  | v :: vs, cs, m, p => by
    obtain ⟨c, r, rfl, hc, hp⟩ := p
    rw [List.length_cons, List.length_cons, hp.len]
theorem idx_inj {k : Nat} {vs cs ds : List Nat} {m : M} (h : WF k m vs) (p : Path vs m cs) (q : Path vs m ds) (e : idx vs m cs = idx vs m ds) : cs = ds := by
  rcases lex_tri (p.len.trans q.len.symm) with z | z | z
  · have := idx_lex h p q z; omega
  · exact z
  · have := idx_lex h q p z; omega
theorem lex_idx {k : Nat} {vs cs ds : List Nat} {m : M} (h : WF k m vs) (p : Path vs m cs) (q : Path vs m ds) : lexL cs ds = decide (idx vs m cs < idx vs m ds) := by
  rcases lex_tri (p.len.trans q.len.symm) with z | z | z
  · rw [z, decide_eq_true (idx_lex h p q z)]
  · subst z
    rw [lex_irr, decide_eq_false (Nat.lt_irrefl _)]
  · have a := idx_lex h q p z
    rw [decide_eq_false (by omega)]
    cases e : lexL cs ds with
    | false => rfl
    | true =>
      have b := idx_lex h p q e
      omega
theorem opts_ne {k : Nat} {m : M} {v : Nat} {vs : List Nat} (h : WF k m (v :: vs)) : ∃ c r, opts m v = c :: r := by
  cases e : opts m v with
  | nil =>
    have s := wy_split h
    have q := wy_pos h
    rw [e] at s
    have s' : 0 = wy m := s
    omega
  | cons c r => exact ⟨c, r, rfl⟩
theorem first_ok {k : Nat} : ∀ {vs : List Nat} {m : M}, WF k m vs → Path vs m (cmpl [] vs m) ∧ idx vs m (cmpl [] vs m) = 0
  | [], m, h => ⟨rfl, rfl⟩
  | v :: vs, m, h => by
    obtain ⟨c, r, e⟩ := opts_ne h
    have hc : c ∈ opts m v := by rw [e]; simp
    have a := asc_opts m v
    rw [e] at a
    obtain ⟨a1, _⟩ := List.pairwise_cons.mp a
    obtain ⟨i1, i2⟩ := first_ok (h.tk hc)
    have e2 : (opts m v).headD 0 = c := by rw [e]; rfl
    unfold cmpl
    rw [e2]
    refine ⟨⟨c, _, rfl, hc, i1⟩, ?_⟩
    show sm (wo m v) ((opts m v).filter (· < c)) + idx vs (tk m v c) (cmpl [] vs (tk m v c)) = 0
    rw [i2, e, List.filter_cons_of_neg (by simp), filter_lt_nil a1]
    rfl
theorem nx_none {k : Nat} : ∀ {vs cs : List Nat} {m : M}, WF k m vs → Path vs m cs → nx vs m cs = none → idx vs m cs + 1 = wy m
  | [], cs, m, h, p, _ => by
    have e : cs = [] := p
    subst e
    rw [wy_nil h]; rfl
  | v :: vs, cs, m, h, p, n => by
    obtain ⟨c, r, rfl, hc, hp⟩ := p
    unfold nx at n
    cases e : nx vs (tk m v c) r with
    | some p => rw [e] at n; cases n
    | none =>
      rw [e] at n
      have ih := nx_none (h.tk hc) hp e
      cases e2 : (opts m v).filter (c < ·) with
      | cons d t => simp only [e2] at n; cases n
      | nil =>
        have l := sm_last (f := wo m v) (asc_opts m v) hc e2
        have s : sm (wo m v) (opts m v) = wy m := wy_split h
        have z : wo m v c = wy (tk m v c) := rfl
        show sm (wo m v) ((opts m v).filter (· < c)) + idx vs (tk m v c) r + 1 = wy m
        omega
theorem nx_some {k : Nat} : ∀ {vs cs q : List Nat} {m : M}, WF k m vs → Path vs m cs → nx vs m cs = some q → Path vs m (cmpl q vs m) ∧ idx vs m (cmpl q vs m) = idx vs m cs + 1
  | [], cs, q, m, h, p, n => by
    unfold nx at n
    cases n
  | v :: vs, cs, q, m, h, p, n => by
    obtain ⟨c, r, rfl, hc, hp⟩ := p
    unfold nx at n
    cases e : nx vs (tk m v c) r with
    | some p =>
      rw [e] at n
      cases n
      obtain ⟨i1, i2⟩ := nx_some (h.tk hc) hp e
      refine ⟨⟨c, _, rfl, hc, i1⟩, ?_⟩
      show sm (wo m v) ((opts m v).filter (· < c)) + idx vs (tk m v c) (cmpl p vs (tk m v c)) = sm (wo m v) ((opts m v).filter (· < c)) + idx vs (tk m v c) r + 1
      omega
    | none =>
      rw [e] at n
      have ih := nx_none (h.tk hc) hp e
      cases e2 : (opts m v).filter (c < ·) with
      | nil => simp only [e2] at n; cases n
      | cons d t =>
        simp only [e2] at n
        cases n
        obtain ⟨hd, hcd, l⟩ := sm_next (f := wo m v) (asc_opts m v) hc e2
        obtain ⟨i1, i2⟩ := first_ok (h.tk hd)
        refine ⟨⟨d, _, rfl, hd, i1⟩, ?_⟩
        have z : wo m v c = wy (tk m v c) := rfl
        show sm (wo m v) ((opts m v).filter (· < d)) + idx vs (tk m v d) (cmpl [] vs (tk m v d)) = sm (wo m v) ((opts m v).filter (· < c)) + idx vs (tk m v c) r + 1
        omega
/-- the items of what is begun, in what is completed -/
theorem nx_pre : ∀ {vs cs q : List Nat} {m : M}, nx vs m cs = some q → q.length ≤ vs.length
  | [], cs, q, m, n => by unfold nx at n; cases n
  | v :: vs, [], q, m, n => by unfold nx at n; cases n
  | v :: vs, c :: r, q, m, n => by
    unfold nx at n
    cases e : nx vs (tk m v c) r with
    | some p =>
      rw [e] at n; cases n
      have ih := nx_pre e
      simp only [List.length_cons]; omega
    | none =>
      rw [e] at n
      cases e2 : (opts m v).filter (c < ·) with
      | nil => simp only [e2] at n; cases n
      | cons d t => simp only [e2] at n; cases n; simp

/-! ### what a path makes -/
theorem Path.lt {k : Nat} : ∀ {vs cs : List Nat} {m : M}, WF k m vs → Path vs m cs → ∀ c ∈ cs, c < k
  | [], cs, m, h, p, c, hc => by
    have e : cs = [] := p
    subst e; cases hc
  | v :: vs, cs, m, h, p, x, hx => by
    obtain ⟨c, r, rfl, hc, hp⟩ := p
    rcases List.mem_cons.mp hx with e | hx
    · subst e
      have := (mem_opts.mp hc).1
      rw [h.lw] at this; exact this
    · exact Path.lt (h.tk hc) hp x hx
theorem tk_w {m : M} {v c : Nat} : (tk m v c).w = dn m.w v := by unfold tk; split <;> rfl
theorem Path.count {k : Nat} : ∀ {vs cs : List Nat} {m : M}, WF k m vs → Path vs m cs → ∀ x, x < k → cs.count x + g m.l x = g m.w x + g m.e x
  | [], cs, m, h, p, x, hx => by
    have e : cs = [] := p
    subst e
    obtain ⟨h1, h2, h3⟩ := h.nil_all
    rw [h1, h2, h3]; rfl
  | v :: vs, cs, m, h, p, x, hx => by
    obtain ⟨c, r, rfl, hc, hp⟩ := p
    have ih := Path.count (h.tk hc) hp x hx
    obtain ⟨hck, hcan⟩ := mem_opts.mp hc
    have hv : v < k := h.vk v (by simp)
    have hvw : v < m.w.length := by rw [h.lw]; exact hv
    have hvl : v < m.l.length := by rw [h.ll]; exact hv
    have hce : c < m.e.length := by rw [h.le, ← h.lw]; exact hck
    have hw := h.w_pos
    have dj := h.dj
    rw [List.count_cons]
    rcases can_iff.mp hcan with ⟨e, hl⟩ | ⟨hl, he⟩
    · subst e
      unfold tk at ih
      rw [if_pos rfl] at ih
      rw [g_dn hvw] at ih
      by_cases e : x = c
      · subst e
        simp at ih ⊢; omega
      · rw [if_neg e] at ih
        have z : (c == x) = false := by simp; exact fun q => e q.symm
        rw [z]; simp; omega
    · have nev : c ≠ v := fun z => by
        subst z
        rcases dj c with q | q <;> omega
      unfold tk at ih
      rw [if_neg nev] at ih
      rw [g_dn hvw, g_dn hvl, g_dn hce] at ih
      by_cases e : x = v
      · subst e
        have z : (c == x) = false := by simp; exact nev
        have nev2 : ¬ x = c := fun q => nev q.symm
        rw [if_pos rfl, if_pos rfl, if_neg nev2] at ih
        rw [z]; simp; omega
      · rw [if_neg e, if_neg e] at ih
        by_cases e2 : x = c
        · subst e2
          rw [if_pos rfl] at ih
          simp; omega
        · rw [if_neg e2] at ih
          have z : (c == x) = false := by simp; exact fun q => e2 q.symm
          rw [z]; simp; omega
theorem g_dn_le {xs : List Nat} {c i : Nat} : g (dn xs c) i ≤ g xs i := by
  rcases Nat.lt_or_ge c xs.length with h | h
  · rw [g_dn h]
    by_cases e : i = c
    · subst e; rw [if_pos rfl]; omega
    · rw [if_neg e]; exact Nat.le_refl _
  · unfold dn; rw [List.set_eq_of_length_le h]; exact Nat.le_refl _
theorem Path.moves {k : Nat} : ∀ {vs cs : List Nat} {m : M}, WF k m vs → Path vs m cs → ∀ (i v c : Nat), vs[i]? = some v → cs[i]? = some c → c ≠ v → 0 < g m.l v ∧ 0 < g m.e c
  | [], cs, m, h, p, i, v, c, h1, h2, n => by simp at h1
  | v :: vs, cs, m, h, p, i, v', c', h1, h2, n => by
    obtain ⟨c, r, rfl, hc, hp⟩ := p
    obtain ⟨hck, hcan⟩ := mem_opts.mp hc
    cases i with
    | zero =>
      simp at h1 h2
      subst h1 h2
      rcases can_iff.mp hcan with ⟨e, hl⟩ | q
      · exact absurd e n
      · exact q
    | succ i =>
      simp at h1 h2
      have ih := Path.moves (h.tk hc) hp i v' c' h1 h2 n
      have q1 : g (tk m v c).l v' ≤ g m.l v' := by
        unfold tk; split
        · exact Nat.le_refl _
        · exact g_dn_le
      have q2 : g (tk m v c).e c' ≤ g m.e c' := by
        unfold tk; split
        · exact Nat.le_refl _
        · exact g_dn_le
      omega

/-! ### the beginning -/
def cnts (k : Nat) (vs : List Nat) : List Nat := (List.range k).map fun i => vs.count i
def m0 (al vs : List Nat) : M := ⟨cnts al.length vs, List.zipWith (fun b a => b - a) (cnts al.length vs) al, List.zipWith (fun b a => a - b) (cnts al.length vs) al⟩
theorem cnts_len {k : Nat} {vs : List Nat} : (cnts k vs).length = k := by simp [cnts]
theorem g_cnts {k i : Nat} {vs : List Nat} (h : i < k) : g (cnts k vs) i = vs.count i := by
  unfold cnts
  rw [map_g (by simpa using h)]
  unfold g
  rw [List.getD_eq_getElem?_getD, List.getElem?_range h]; rfl
theorem sum_map_range {f : Nat → Nat} : ∀ k, ((List.range k).map f).sum = sm f (List.range k)
  | 0 => rfl
  | k + 1 => by
    rw [List.range_succ, List.map_append, List.sum_append, sum_map_range k, sm_append]
    simp [sm]
theorem cnts_sum {k : Nat} : ∀ {vs : List Nat}, (∀ v ∈ vs, v < k) → (cnts k vs).sum = vs.length
  | [], _ => by
    unfold cnts
    rw [sum_map_range]
    exact (sm_congr (h := fun _ => 0) fun _ _ => rfl).trans (sm_zero _)
  | v :: vs, h => by
    have ih := cnts_sum (k := k) (vs := vs) fun x hx => h x (by simp [hx])
    unfold cnts at ih ⊢
    rw [sum_map_range] at ih ⊢
    have e : sm (fun i => (v :: vs).count i) (List.range k) = sm (fun i => vs.count i + (if i = v then (fun _ => 1) i else 0)) (List.range k) := by
      apply sm_congr
      intro i _
      rw [List.count_cons]
      by_cases q : i = v
      · subst q; simp
      · have z : (v == i) = false := by simp; exact fun q' => q q'.symm
        rw [z, if_neg q]; simp
    rw [e, sm_add, ih, sm_one (fun _ => 1) v k, if_pos (h v (by simp)), List.length_cons]
theorem zip_subs : ∀ {xs ys : List Nat}, xs.length = ys.length → (List.zipWith (fun b a => b - a) xs ys).sum + ys.sum = (List.zipWith (fun b a => a - b) xs ys).sum + xs.sum
  | [], [], _ => rfl
  | [], _ :: _, h => by simp at h
  | _ :: _, [], h => by simp at h
  | x :: xs, y :: ys, h => by
    have ih := zip_subs (xs := xs) (ys := ys) (by simpa using h)
    simp only [List.zipWith_cons_cons, List.sum_cons]
    omega
theorem wf0 {al vs : List Nat} (h1 : ∀ v ∈ vs, v < al.length) (h2 : al.sum = vs.length) : WF al.length (m0 al vs) vs := by
  have z1 : ∀ i, g (m0 al vs).l i = g (m0 al vs).w i - g al i := fun i => by
    rcases Nat.lt_or_ge i al.length with q | q
    · exact g_zip (by rw [cnts_len]; exact q) q
    · rw [g_out (by show (List.zipWith _ _ _).length ≤ i; rw [List.length_zipWith, cnts_len]; omega), g_out (xs := (m0 al vs).w) (by show (cnts _ _).length ≤ i; rw [cnts_len]; exact q)]; omega
  have z2 : ∀ i, g (m0 al vs).e i = g al i - g (m0 al vs).w i := fun i => by
    rcases Nat.lt_or_ge i al.length with q | q
    · exact g_zip (by rw [cnts_len]; exact q) q
    · rw [g_out (by show (List.zipWith _ _ _).length ≤ i; rw [List.length_zipWith, cnts_len]; omega), g_out q]; omega
  refine ⟨cnts_len, ?_, ?_, h1, fun i hi => g_cnts hi, fun i => by rw [z1]; omega, ?_, fun i => by rw [z1, z2]; omega⟩
  · show (List.zipWith _ _ _).length = _
    rw [List.length_zipWith, cnts_len]; omega
  · show (List.zipWith _ _ _).length = _
    rw [List.length_zipWith, cnts_len]; omega
  · show (List.zipWith (fun b a => b - a) (cnts al.length vs) al).sum = (List.zipWith (fun b a => a - b) (cnts al.length vs) al).sum
    have q := zip_subs (xs := cnts al.length vs) (ys := al) cnts_len
    have c := cnts_sum h1
    omega
theorem ext_g {xs ys : List Nat} (h : xs.length = ys.length) (q : ∀ i, i < xs.length → g xs i = g ys i) : xs = ys := by
  apply List.ext_getElem? 
  intro i
  rcases Nat.lt_or_ge i xs.length with z | z
  · rw [g_at z, g_at (by omega), q i z]
  · rw [List.getElem?_eq_none z, List.getElem?_eq_none (by omega)]
/-- a least change has the allocation -/
theorem path_alloc {al vs cs : List Nat} (h1 : ∀ v ∈ vs, v < al.length) (h2 : al.sum = vs.length) (p : Path vs (m0 al vs) cs) : cnts al.length cs = al := by
  have W := wf0 h1 h2
  refine ext_g cnts_len fun i hi => ?_
  rw [cnts_len] at hi
  have q := p.count W i hi
  have z1 : g (m0 al vs).l i = g (m0 al vs).w i - g al i := g_zip (by rw [cnts_len]; exact hi) hi
  have z2 : g (m0 al vs).e i = g al i - g (m0 al vs).w i := g_zip (by rw [cnts_len]; exact hi) hi
  rw [g_cnts hi]
  omega
/-- a bucket that moves leaves a variant that decreases and enters one that increases -/
theorem path_moves {al vs cs : List Nat} (h1 : ∀ v ∈ vs, v < al.length) (h2 : al.sum = vs.length) (p : Path vs (m0 al vs) cs) {i v c : Nat} (hv : vs[i]? = some v) (hc : cs[i]? = some c) (n : c ≠ v) : g al v < vs.count v ∧ vs.count c < g al c := by
  have W := wf0 h1 h2
  obtain ⟨q1, q2⟩ := p.moves W i v c hv hc n
  have hvk : v < al.length := h1 v (List.mem_of_getElem? hv)
  have hck : c < al.length := p.lt W c (List.mem_of_getElem? hc)
  have z1 : g (m0 al vs).l v = g (m0 al vs).w v - g al v := g_zip (by rw [cnts_len]; exact hvk) hvk
  have z2 : g (m0 al vs).e c = g al c - g (m0 al vs).w c := g_zip (by rw [cnts_len]; exact hck) hck
  have y1 : g (m0 al vs).w v = vs.count v := g_cnts hvk
  have y2 : g (m0 al vs).w c = vs.count c := g_cnts hck
  omega
end LM

/-! LMd: the mathematics of least changes, part 4: sizes, steps of loops. -/
namespace LM
theorem pr_snoc (x : Nat) : ∀ xs : List Nat, pr (xs ++ [x]) = pr xs * x
  | [] => by simp [pr]
  | y :: ys => by
    rw [List.cons_append, pr, pr, pr_snoc x ys, Nat.mul_assoc]
theorem ch_le : ∀ n k, ch n k ≤ 2 ^ n
  | 0, 0 => by decide
  | 0, k + 1 => by show 0 ≤ 1; decide
  | n + 1, 0 => by rw [ch_zero]; exact Nat.one_le_two_pow
  | n + 1, k + 1 => by
    have h1 := ch_le n k
    have h2 := ch_le n (k + 1)
    show ch n k + ch n (k + 1) ≤ 2 ^ (n + 1)
    rw [Nat.pow_succ]; omega
theorem ch_sym {n k : Nat} (h : k ≤ n) : ch n k = ch n (n - k) := by
  have h1 := ch_fct k (n - k)
  have h2 := ch_fct (n - k) k
  have e1 : k + (n - k) = n := by omega
  have e2 : n - k + k = n := by omega
  rw [e1] at h1
  rw [e2] at h2
  rw [Nat.mul_comm (fct (n - k)) (fct k)] at h2
  exact Nat.eq_of_mul_eq_mul_right (Nat.mul_pos (fct_pos k) (fct_pos (n - k))) (h1.trans h2.symm)
theorem fct_le : ∀ {m n : Nat}, m ≤ n → fct m ≤ fct n := by
  intro m n h
  induction n with
  | zero =>
    have e : m = 0 := by omega
    subst e; exact Nat.le_refl _
  | succ n ih =>
    rcases Nat.lt_or_ge m (n + 1) with q | q
    · have := ih (by omega)
      show fct m ≤ fct n * (n + 1)
      exact Nat.le_trans this (Nat.le_mul_of_pos_right _ (by omega))
    · have e : m = n + 1 := by omega
      subst e; exact Nat.le_refl _
theorem sum_le : ∀ {xs ys : List Nat}, xs.length = ys.length → (∀ i, g xs i ≤ g ys i) → xs.sum ≤ ys.sum
  | [], [], _, _ => Nat.le_refl _
  | [], _ :: _, h, _ => by simp at h
  | _ :: _, [], h, _ => by simp at h
  | x :: xs, y :: ys, h, q => by
    have ih := sum_le (xs := xs) (ys := ys) (by simpa using h) fun i => q (i + 1)
    have q0 : x ≤ y := q 0
    simp only [List.sum_cons]; omega
theorem WF.wsum {k : Nat} {m : M} {vs : List Nat} (h : WF k m vs) : m.w.sum = vs.length := by
  have e : m.w = cnts k vs := ext_g (by rw [h.lw, cnts_len]) fun i hi => by
    rw [h.lw] at hi
    rw [h.cnt i hi, g_cnts hi]
  rw [e]
  exact cnts_sum h.vk
theorem WF.lsum {k : Nat} {m : M} {vs : List Nat} (h : WF k m vs) : m.l.sum ≤ vs.length := by
  rw [← h.wsum]
  exact sum_le (by rw [h.ll, h.lw]) h.lle
theorem WF.esum {k : Nat} {m : M} {vs : List Nat} (h : WF k m vs) : m.e.sum ≤ vs.length := by
  rw [← h.sm]; exact h.lsum
theorem WF.gw {k : Nat} {m : M} {vs : List Nat} (h : WF k m vs) (i : Nat) : g m.w i ≤ vs.length := by
  rw [← h.wsum]; exact g_le_sum
theorem WF.ge {k : Nat} {m : M} {vs : List Nat} (h : WF k m vs) (i : Nat) : g m.e i ≤ vs.length := Nat.le_trans g_le_sum h.esum
theorem prz_le : ∀ w l : List Nat, pr (List.zipWith ch w l) ≤ 2 ^ w.sum
  | [], _ => by show 1 ≤ _; exact Nat.one_le_two_pow
  | _ :: _, [] => by show 1 ≤ _; exact Nat.one_le_two_pow
  | x :: w, y :: l => by
    have ih := prz_le w l
    rw [List.zipWith_cons_cons, pr, List.sum_cons, Nat.pow_add]
    exact Nat.mul_le_mul (ch_le x y) ih
theorem wy_le {k : Nat} {m : M} {vs : List Nat} (h : WF k m vs) (hl : vs.length ≤ 20) : wy m < 2 ^ 100 := by
  have h1 : mlt m.e ≤ fct 20 := Nat.le_trans (Nat.div_le_self _ _) (fct_le (Nat.le_trans h.esum hl))
  have h2 : pr (List.zipWith ch m.w m.l) ≤ 2 ^ 20 := Nat.le_trans (prz_le _ _) (by rw [h.wsum]; exact Nat.pow_le_pow_right (by decide) hl)
  have h3 : mlt m.e * pr (List.zipWith ch m.w m.l) ≤ fct 20 * 2 ^ 20 := Nat.mul_le_mul h1 h2
  have h4 : fct 20 * 2 ^ 20 < 2 ^ 100 := by decide +kernel
  exact Nat.lt_of_le_of_lt h3 h4
/-- what taking asks -/
theorem take_ok {k : Nat} {m : M} {v c : Nat} {vs : List Nat} (h : WF k m (v :: vs)) (hc : c ∈ opts m v) : v < m.w.length ∧ v < m.l.length ∧ c < m.e.length ∧ 0 < g m.w v ∧ (c ≠ v → 0 < g m.l v ∧ 0 < g m.e c) := by
  obtain ⟨hck, hcan⟩ := mem_opts.mp hc
  have hv : v < k := h.vk v (by simp)
  refine ⟨by rw [h.lw]; exact hv, by rw [h.ll]; exact hv, by rw [h.le, ← h.lw]; exact hck, h.w_pos, fun n => ?_⟩
  rcases can_iff.mp hcan with ⟨e, _⟩ | q
  · exact absurd e n
  · exact q
theorem drop_cons {xs : List Nat} {i x : Nat} (h : xs[i]? = some x) : xs.drop i = x :: xs.drop (i + 1) := by
  obtain ⟨h1, h2⟩ := List.getElem?_eq_some_iff.mp h
  rw [List.drop_eq_getElem_cons h1, h2]
theorem sm_take_succ {f : Nat → Nat} {xs : List Nat} {i x : Nat} (h : xs[i]? = some x) : sm f (xs.take (i + 1)) = sm f (xs.take i) + f x := by
  rw [List.take_add_one, h, sm_append]
  simp [sm]
theorem filter_take_succ {p : Nat → Bool} {xs : List Nat} {i x : Nat} (h : xs[i]? = some x) : (xs.take (i + 1)).filter p = (xs.take i).filter p ++ (if p x = true then [x] else []) := by
  rw [List.take_add_one, h, List.filter_append]
  by_cases q : p x = true
  · rw [if_pos q, Option.toList_some, List.filter_cons_of_pos q]; rfl
  · rw [if_neg q, Option.toList_some, List.filter_cons_of_neg q]; rfl
/-- one turn of nth -/
theorem pk_hit {f : Nat → Nat} {xs : List Nat} {t c i : Nat} (h : xs[t]? = some c) (q : i < f c) : pk f (xs.drop t) i = (c, i) := by
  rw [drop_cons h, pk, if_pos q]
theorem pk_miss {f : Nat → Nat} {xs : List Nat} {t c i : Nat} (h : xs[t]? = some c) (q : ¬ i < f c) : pk f (xs.drop t) i = pk f (xs.drop (t + 1)) (i - f c) := by
  rw [drop_cons h, pk, if_neg q]
theorem sm_drop {f : Nat → Nat} {xs : List Nat} {t c : Nat} (h : xs[t]? = some c) : sm f (xs.drop t) = f c + sm f (xs.drop (t + 1)) := by
  rw [drop_cons h]; rfl
/-- what is known behind some turns of next: the best so far, and what is to come -/
def fin (pre : List Nat) (best : Option (List Nat)) : Option (List Nat) → Option (List Nat)
  | some p => some (pre ++ p)
  | none => best
def nb (pre : List Nat) (best : Option (List Nat)) : List Nat → Option (List Nat)
  | [] => best
  | d :: _ => some (pre ++ [d])
/-- one turn of next -/
theorem nx_turn {vs cs : List Nat} {m : M} {i v c : Nat} {best : Option (List Nat)} (hv : vs[i]? = some v) (hc : cs[i]? = some c) :
    fin (cs.take i) best (nx (vs.drop i) m (cs.drop i)) = fin (cs.take (i + 1)) (nb (cs.take i) best ((opts m v).filter (c < ·))) (nx (vs.drop (i + 1)) (tk m v c) (cs.drop (i + 1))) := by
  rw [drop_cons hv, drop_cons hc, nx]
  cases e : nx (vs.drop (i + 1)) (tk m v c) (cs.drop (i + 1)) with
  | some p =>
    show some (cs.take i ++ c :: p) = some (cs.take (i + 1) ++ p)
    rw [List.take_add_one, hc]
    simp
  | none =>
    cases e2 : (opts m v).filter (c < ·) with
    | nil => rfl
    | cons d r => rfl
theorem Path.drop_one {v : Nat} {vs : List Nat} {m : M} {c : Nat} {r : List Nat} (p : Path (v :: vs) m (c :: r)) : c ∈ opts m v ∧ Path vs (tk m v c) r := by
  obtain ⟨c', r', e, hc, hp⟩ := p
  obtain ⟨e1, e2⟩ := List.cons.inj e
  subst e1 e2
  exact ⟨hc, hp⟩
/-- one turn of completed -/
def hd (bg : List Nat) (m : M) (j v : Nat) : Nat := if j < bg.length then g bg j else (opts m v).headD 0
theorem cmpl_turn {bg vs : List Nat} {m : M} {j v : Nat} (hv : vs[j]? = some v) : cmpl (bg.drop j) (vs.drop j) m = hd bg m j v :: cmpl (bg.drop (j + 1)) (vs.drop (j + 1)) (tk m v (hd bg m j v)) := by
  rw [drop_cons hv]
  unfold hd
  by_cases h : j < bg.length
  · rw [if_pos h, drop_cons (g_at h), cmpl]
  · have e1 : bg.drop j = [] := List.drop_eq_nil_of_le (by omega)
    have e2 : bg.drop (j + 1) = [] := List.drop_eq_nil_of_le (by omega)
    rw [if_neg h, e1, e2, cmpl]
/-- one turn of nth -/
theorem nth_turn {vs : List Nat} {m : M} {i j v : Nat} (hv : vs[j]? = some v) : nth (vs.drop j) m i = (pk (wo m v) (opts m v) i).1 :: nth (vs.drop (j + 1)) (tk m v (pk (wo m v) (opts m v) i).1) (pk (wo m v) (opts m v) i).2 := by
  rw [drop_cons hv, nth]
/-- one turn of idx -/
theorem idx_turn {vs cs : List Nat} {m : M} {j v c : Nat} (hv : vs[j]? = some v) (hc : cs[j]? = some c) : idx (vs.drop j) m (cs.drop j) = sm (wo m v) ((opts m v).filter (· < c)) + idx (vs.drop (j + 1)) (tk m v c) (cs.drop (j + 1)) := by
  rw [drop_cons hv, drop_cons hc, idx]
end LM

/-! LR: rules of our own: tuple.count, sum of a tuple, enumerate of a tuple, comb, factorial, comprehensions over enumerate and zip, tuples told as their one object. -/
namespace LR
open L2 PySem PySem.Spec PyProof.Rows
section
variable {X : Cx}
/-! ### what is called by its value -/
/-- t.count(k), t a tuple of ints -/
def rCntT (K : PySem.W.Frag) : V → List V → Hp → VK → Prop := fun o us H Q => ∃ (t : Addr) (zs : List Int) (n : Int), o = .ref t ∧ us = [.int n] ∧ SqT K H t (zs.map V.int) ∧ Q (.int (zs.count n : Nat)) H
theorem mt_tcount : MtR X "tuple.count" (rCntT X.K) := by
  rintro pins s σ H o us vo vus Q I ro rus ⟨t, zs, n, rfl, rfl, ht, hQ⟩
  cases ro
  obtain ⟨_, rfl, tn, rfl⟩ := rus.one
  obtain ⟨its, rv, ⟨⟨cls, dc, dat, slo⟩, hob, hcl, m, hdat⟩, _⟩ := I.tuple ht
  simp only at hcl hdat
  subst hcl hdat
  have hints := ints_of_vals rv
  refine call_meets PySem.F.slot_tuple_count ⟨_, hob, rfl⟩ PySem.F.entry_tuple_count (PySem.F.args_tuple_count_2 _ _) (SeqAt.tuple_countAt t its.toArray m dc slo (.int n tn) (eqk n))
    ⟨hob, fun y hy => (eqk_gives hints y (by simpa using hy)).at _ _, ⟨.int (zs.count n : Nat), H, I.tok _, ⟨s.toks, ?_⟩, hQ⟩⟩
  exact congrArg (fun c : Nat => Value.int (c : Int) s.toks) (eqk_count (k := n) hints)
/-- sum(t), t a tuple of ints -/
def rSumT (K : PySem.W.Frag) : List V → Hp → VK → Prop := fun us H Q => ∃ (t : Addr) (zs : List Int), us = [V.ref t] ∧ SqT K H t (zs.map V.int) ∧ Q (.int zs.sum) H
theorem cr_sumT (hc : X.calm = true) : CallR X (.builtin "sum") (rSumT X.K) := by
  rintro pins s σ H us vus Q I rus ⟨t, zs, rfl, ht, hQ⟩
  obtain ⟨its, rv, ho, _⟩ := I.tuple ht
  rw [Vals.ref1 rus]
  obtain ⟨ps, hps⟩ := rv.ints.allInts.items
  have hzs : zs = ps.toList.map Prod.fst := by
    rw [← nums_intItems, ← hps]
    exact rv.ints.numsOf.symm
  rw [hps] at ho
  refine PySem.W.ktm_sumG (I.ok.hd hc) (show s.heap.IsTuple t (intItems ps) from ho) fun h' tk t' hk => ⟨.int zs.sum, H, I.kept hk, ⟨t', ?_⟩, hQ⟩
  rw [preSum_eq, hzs, List.take_of_length_le (by simp)]
/-- factorial(n), comb(n, k) -/
def rFact : List V → Hp → VK → Prop := fun us H Q => ∃ n : Int, us = [.int n] ∧ 0 ≤ n ∧ n ≤ 20000 ∧ Q (.int ((Builtin.Math.factorialNat n.toNat : Nat) : Int)) H
theorem cr_fact : CallR X (.builtin "math.factorial") rFact := by
  rintro pins s σ H us vus Q I rus ⟨n, rfl, h0, h1, hQ⟩
  obtain ⟨_, rfl, tn, rfl⟩ := vals1 rus
  exact PySem.W.mc_factorial h0 h1 fun _ => ⟨.int _, H, I.tok _, ⟨_, rfl⟩, hQ⟩
def rComb : List V → Hp → VK → Prop := fun us H Q => ∃ n k : Int, us = [.int n, .int k] ∧ 0 ≤ n ∧ 0 ≤ k ∧ n ≤ 18000 ∧ Q (.int (PySem.W.mcComb n k)) H
theorem cr_comb : CallR X (.builtin "math.comb") rComb := by
  rintro pins s σ H us vus Q I rus ⟨n, k, rfl, h0, h1, h2, hQ⟩
  obtain ⟨tn, tk, rfl⟩ := Vals.int2 rus
  exact PySem.W.mc_comb h0 h1 (by omega) (.inr h2) fun _ => ⟨.int _, H, I.tok _, ⟨_, rfl⟩, hQ⟩
end

/-! ### enumerate of a tuple -/
/-- a walk over enumerate of the tuple at t -/
def IteT (K : PySem.W.Frag) (t : Addr) : It where
  go := fun i H => ∃ (us : List V) (u : V), SqT K H t us ∧ us[i]? = some u
  yld := fun i H v H' => ∃ T u, v = .ref T ∧ H T = none ∧ H' = upd H T (.tup [.int (i : Nat), u]) ∧ ∀ us, SqT K H t us → us[i]? = some u
  stop := fun i H => ∃ us : List V, SqT K H t us ∧ us.length = i
/-- the library's own walk of enumerate, over what a tuple's iterator draws -/
theorem walk_enumT (P : Program) (w : World) (A : Around) (hA : A.handled = none) (t e it : Addr) (zs : Array Value) (h1 : t ≠ it) (h2 : t ≠ e) (h3 : e ≠ it) :
    WalksT P w A e [e, it, t] [e, it] zs.size (fun i vals => ∃ k u, zs[i]? = some u ∧ vals = #[.int i k, u]) (fun i h => (∃ old, IsEnum h e it i old) ∧ h.IsTupleIter it t i ∧ h.IsTuple t zs)
      (fun i T h => (∃ u, IsEnumOut h e it ((i : Int) + 1) u T) ∧ (h.IsTupleIter it t (i + 1) ∧ h.IsTuple t zs) ∧ T ≠ e ∧ T ≠ it) :=
  WalksT.enumerateD (Draws.tuple (show A.in1.handled = none from hA) it t h1 zs) e h3 (by simp [h3, h2.symm]) (by simp)
theorem turn_enumT {P : Program} {w : World} {K : PySem.W.Frag} {elts : List Expr} {kk : Nat} {tpos : Pos} (t e it : Addr) (h1 : t ≠ it) (h2 : t ≠ e) :
    Turn P w K (.Tuple elts kk tpos) (IteT K t) [e, it] e (fun i h => (∃ old, IsEnum h e it ((i : Nat) : Int) old) ∧ h.IsTupleIter it t i ∧ e ≠ it) := by
  refine ⟨by simp, ?_, ?_, ?_, ?_, ?_⟩
  · rintro i h ⟨⟨old, hE⟩, ⟨oi, hi, _, di⟩, _⟩ b hb
    rcases List.mem_cons.mp hb with rfl | hb
    · exact ⟨_, hE, fun v q => nomatch q⟩
    · rw [List.mem_singleton.mp hb]
      refine ⟨oi, hi, fun v q => ?_⟩
      rw [di] at q
      cases q
  · rintro i h h' ⟨⟨old, hE⟩, hI, hne⟩ keep
    exact ⟨⟨old, keep e (by simp) _ hE⟩, hI.at fun o q => keep it (by simp) o q, hne⟩
  · rintro X rfl rfl rfl hc i pins s σ H E I hf ⟨hE, hI, hne⟩ ⟨us, u, hus, hu⟩
    obtain ⟨zs, rv, hT, _⟩ := I.tuple hus
    obtain ⟨z, hz, ru⟩ := rv.get hu
    have hlt : i < zs.toArray.size := by simpa using (List.getElem?_eq_some_iff.mp hz).1
    have Wk := walk_enumT X.prog X.w X.A (I.ok.hd hc) t e it zs.toArray h1 h2 hne
    have old : ∀ b ∈ [e, it], b < s.heap.objs.size := fun b hb => by
      rcases List.mem_cons.mp hb with rfl | hb
      · exact let ⟨_, q⟩ := hE; Heap.lt_size q
      · rw [List.mem_singleton.mp hb]
        exact let ⟨_, q, _⟩ := hI; Heap.lt_size q
    refine Wk.item i s _ E hlt ⟨hE, hI, hT⟩ fun T vals g tk ⟨k, z', hz', hv⟩ hsz hTv hM kg => ⟨_, rfl, ?_⟩
    have hzz : z' = z := by
      have q : zs.toArray[i]? = some z := by simpa using hz
      exact Option.some.inj (hz'.symm.trans q)
    subst hzz hv
    refine Wk.go elts kk tpos i T _ _ E hM fun g' hst kg' => ?_
    have hTg : IsTup g' T #[.int i k, z'] := hTv.at fun o q => kg' T o (Wk.apart i T g hM) q
    have fresh : H T = none := I.hok.fresh hsz
    refine ⟨.ref T, upd H T (.tup [.int (i : Nat), u]), I.turnedNew (t' := tk) (ch := [e, it]) (fun b o hb q => kg' b o hb (kg b o hb q)) hf hsz ⟨by show 2 ≤ sizeLine; decide, [.int i k, z'], .cons ⟨k, rfl⟩ (.cons ru .nil), hTg⟩, rfl, ⟨T, u, rfl, fresh, rfl, fun ws hw => ?_⟩, ⟨hst.1, hst.2.1, hne⟩, fun b hb => ?_⟩
    · rw [I.tuple_inj hw hus]
      exact hu
    · rw [upd_ne (Nat.ne_of_lt (Nat.lt_of_lt_of_le (old b hb) hsz))]
      exact (hf b hb).1
  · rintro X rfl rfl rfl hc i pins s σ H E I hf ⟨hE, hI, hne⟩ ⟨us, hus, hu⟩
    obtain ⟨zs, rv, hT, _⟩ := I.tuple hus
    have hn : zs.toArray.size = i := by rw [List.size_toArray, ← rv.length, hu]
    have Wk := walk_enumT X.prog X.w X.A (I.ok.hd hc) t e it zs.toArray h1 h2 hne
    rw [hn] at Wk
    exact Wk.done s _ E ⟨hE, hI, hT⟩ fun g tk kg => ⟨rfl, I.turnedL (t' := tk) (ch := [e, it]) kg hf⟩
  · rintro A i s Q E ⟨⟨_, hE⟩, _⟩ hQ
    exact wpAny_pyIter_enum hE hQ
/-- enumerate(t) makes two new records -/
def enumRec (it : Addr) : Obj := { cls := .type "enumerate", data := .fields #[.none, .bool false, .ref it, rawInt 0, .none, .none] }
def iterRec (t : Addr) : Obj := { cls := .type "tuple_iterator", data := .fields #[.ref t, .int 0 0] }
set_option maxHeartbeats 16000000 in
theorem enumT_new (t : Addr) (zs : Array Value) : Meets (Builtin.«enumerate.__new__» ⟨[.type "enumerate", .ref t], []⟩)
    (fun _ R s => s.heap.IsTuple t zs ∧ R (.ok (.ret (.ref (s.heap.push (iterRec t)).objs.size))) { s with heap := (s.heap.push (iterRec t)).push (enumRec s.heap.objs.size) }) :=
  .of_wp fun P w A R ⟨hp, gs, dr, tks, os⟩ ⟨hT, hR⟩ => by
    have sub := sub_enumerate
    have iter : ∀ {A' : Around} {E : Value → Shared → Prop} {Q : Value → Shared → Prop}, Q (.ref hp.objs.size) ⟨hp.push (iterRec t), gs, dr, tks, os⟩ → wpAny (model P w) A' (pyIter (.ref t)) Q E ⟨hp, gs, dr, tks, os⟩ := fun q =>
      (begins_tuple t zs).iter P w _ _ ⟨hp, gs, dr, tks, os⟩ _ hT q
    wp_walk using iter
    refine wpAny_stack_any fun _ => wpAny_pure ?_
    split
    · rename_i c _ _ _ _ _
      cases (c == Value.type "enumerate") <;> (wp_walk using iter; exact ⟨_, rfl, hR⟩)
    · wp_walk using iter
      exact ⟨_, rfl, hR⟩
theorem call_enumT {P : Program} {w : World} {A : Around} {E : Value → Shared → Prop} {s : Shared} {t : Addr} {zs : Array Value} {Q : Value → Shared → Prop} (hT : s.heap.IsTuple t zs)
    (hQ : Q (.ref (s.heap.objs.size + 1)) { s with heap := (s.heap.push (iterRec t)).push (enumRec s.heap.objs.size) }) : wpAny (model P w) A (call (.type "enumerate") [.ref t]) Q E s := by
  have hz : (s.heap.push (iterRec t)).objs.size = s.heap.objs.size + 1 := Heap.size_push ..
  have hE : ((s.heap.push (iterRec t)).push (enumRec s.heap.objs.size)).get? (s.heap.push (iterRec t)).objs.size = some (enumRec s.heap.objs.size) := Heap.get?_push_size _ rfl
  refine callType_new F.called_enumerate (by decide) (F.typeCall_enumerate_1 _) (F.newCall_enumerate_1 _) (fun ob => F.args_object_init_2 ob _) F.entry_enumerate_new (enumT_new t zs) ⟨hT, ?_⟩
  refine ⟨⟨_, hE, rfl⟩, ?_⟩
  rw [hz]
  exact hQ
def iEnumT (K : PySem.W.Frag) (ta : TA) : TI := fun σ H R => ta σ H fun us H1 => ∃ t zs, us = [.ref t] ∧ SqT K H1 t zs ∧ R (IteT K t) H1
theorem pi_enumT {X : Cx} {a : Expr} {ta : TA} {p pos tpos : Pos} {elts : List Expr} {kk : Nat} (hg : Gl X "enumerate") (hm : X.mg "enumerate" = none) (ha : PA X [a] ta) (hs : starEach [a] X.env = [(false, eval a X.env)] := by rfl) :
    PI X (.Tuple elts kk tpos) (.Call (.Name "enumerate" p) [a] [] pos) (iEnumT X.K ta) := by
  constructor
  intro pins s σ H R I hw
  refine Call_ (ld_blt I hg hm boot_enumerate (PyProof.Rows.callWith_type1 (thn (ha.run pos pins s σ H _ I hw) ?_) hs rfl))
  rintro vus s1 ⟨us, H1, I1, rus, t, zs, rfl, ht, hR⟩
  rw [Vals.ref1 rus]
  obtain ⟨its, rv, hT, _⟩ := I1.tuple ht
  have hlt : t < s1.heap.objs.size := let ⟨_, q, _⟩ := hT; Heap.lt_size q
  have hz : (s1.heap.push (iterRec t)).objs.size = s1.heap.objs.size + 1 := Heap.size_push ..
  have hE : IsEnum ((s1.heap.push (iterRec t)).push (enumRec s1.heap.objs.size)) (s1.heap.objs.size + 1) s1.heap.objs.size 0 .none := by
    rw [← hz]
    exact Heap.get?_push_size _ rfl
  have hI : ((s1.heap.push (iterRec t)).push (enumRec s1.heap.objs.size)).IsTupleIter s1.heap.objs.size t 0 := ⟨iterRec t, Heap.get?_push_of_some _ (Heap.get?_push_size _ rfl), rfl, rfl⟩
  have keep : ∀ b o, s1.heap.get? b = some o → ((s1.heap.push (iterRec t)).push (enumRec s1.heap.objs.size)).get? b = some o := fun b o q => Heap.get?_push_of_some _ (Heap.get?_push_of_some _ q)
  refine call_enumT hT (wpAny_pyIter_enum hE ⟨s1.heap.objs.size + 1, [s1.heap.objs.size + 1, s1.heap.objs.size], _, _, H1, rfl, I1.kept (t' := s1.toks) keep, turn_enumT t (s1.heap.objs.size + 1) s1.heap.objs.size (Nat.ne_of_lt hlt) (Nat.ne_of_lt (Nat.lt_succ_of_lt hlt)), ⟨⟨.none, hE⟩, hI, Nat.succ_ne_self _⟩, fun b hb => ?_, hR⟩)
  have hle : s1.heap.objs.size ≤ b := by
    rcases List.mem_cons.mp hb with rfl | hb
    · exact Nat.le_succ _
    · rw [List.mem_singleton.mp hb]
      exact Nat.le_refl _
  exact I1.fpOk hle (I1.hok.fresh hle)

/-! ### a walk of n turns by a word -/
/-- a loop: Pv by the turn -/
theorem for_by {J : It} {n : Nat} {g : TG} {tb : TS} {D : Ends} {σ : L2.St} {H : Hp} (Pv : Nat → L2.St → Hp → Prop) (start : Pv 0 σ H) (on : ∀ i σ H, i < n → Pv i σ H → J.go i H) (off : ∀ σ H, Pv n σ H → J.stop n H)
    (turn : ∀ i σ H v H', i < n → Pv i σ H → J.yld i H v H' → g v σ H' fun σ2 H2 => tb { D with nx := Pv (i + 1), ct := Pv (i + 1), bk := D.nx } σ2 H2) (fin : ∀ σ H, Pv n σ H → D.nx σ H) :
    ∃ W : Nat → Nat → L2.St → Hp → Prop, (∃ k, W 0 k σ H) ∧ ∀ i k σ H, W i k σ H → (J.stop i H ∧ D.nx σ H) ∨
      (J.go i H ∧ ∃ N : L2.St → Hp → Prop, (∀ σ' H', N σ' H' → ∃ k', k' < k ∧ W (i + 1) k' σ' H') ∧ ∀ v H', J.yld i H v H' → g v σ H' fun σ2 H2 => tb { D with nx := N, ct := N, bk := D.nx } σ2 H2) := by
  refine ⟨fun i k σ H => k + i = n ∧ Pv i σ H, ⟨n, rfl, start⟩, fun i k σ H ⟨e, q⟩ => ?_⟩
  cases k with
  | zero =>
    have e' : i = n := by omega
    subst e'
    exact .inl ⟨off _ _ q, fin _ _ q⟩
  | succ k => exact .inr ⟨on i σ H (by omega) q, Pv (i + 1), fun _ _ q' => ⟨k, Nat.lt_succ_self k, by omega, q'⟩, fun v H' y => turn i σ H v H' (by omega) q y⟩
/-- what a turn of a comprehension asks -/
abbrev LcTurn (g : TG) (tt : TT) (te : TE) (vs : List Nat) (σ : L2.St) (D : Addr) (Nx : Hp → Prop) (v : V) (H' : Hp) : Prop := g v (wipe σ vs) H' fun σ2 H2 => wipe σ2 vs = wipe σ vs ∧ tt σ2 H2 fun b H3 =>
  if b = true then te σ2 H3 fun y H4 => ∃ acc, H4 D = some (.lst acc) ∧ acc.length < sizeLine ∧ Nx (upd H4 D (.lst (acc ++ [y]))) else Nx H3
theorem lc_by {J : It} {n : Nat} {g : TG} {tt : TT} {te : TE} {vs : List Nat} {σ : L2.St} {H1 : Hp} {D : Addr} {Qd : Hp → Prop} (Pv : Nat → Hp → Prop) (start : Pv 0 (upd H1 D (.lst []))) (on : ∀ i H, i < n → Pv i H → J.go i H) (off : ∀ H, Pv n H → J.stop n H)
    (turn : ∀ i H v H', i < n → Pv i H → J.yld i H v H' → LcTurn g tt te vs σ D (Pv (i + 1)) v H') (fin : ∀ H, Pv n H → Qd H) :
    ∃ W : Nat → Nat → Hp → Prop, (∃ k, W 0 k (upd H1 D (.lst []))) ∧ ∀ i k H, W i k H → (J.stop i H ∧ Qd H) ∨ (J.go i H ∧ ∃ Nx : Hp → Prop, (∀ H', Nx H' → ∃ k', k' < k ∧ W (i + 1) k' H') ∧ ∀ v H', J.yld i H v H' → LcTurn g tt te vs σ D Nx v H') := by
  refine ⟨fun i k H => k + i = n ∧ Pv i H, ⟨n, rfl, start⟩, fun i k H ⟨e, q⟩ => ?_⟩
  cases k with
  | zero =>
    have e' : i = n := by omega
    subst e'
    exact .inl ⟨off _ q, fin _ q⟩
  | succ k => exact .inr ⟨on i H (by omega) q, Pv (i + 1), fun _ q' => ⟨k, Nat.lt_succ_self k, by omega, q'⟩, fun v H' y => turn i H v H' (by omega) q y⟩
/-- a loop over enumerate of a tuple -/
theorem for_enumT {K : PySem.W.Frag} {t : Addr} {us : List V} {g : TG} {tb : TS} {D : Ends} {σ : L2.St} {H : Hp} (Pv : Nat → L2.St → Hp → Prop) (start : Pv 0 σ H) (there : ∀ i σ H, i ≤ us.length → Pv i σ H → SqT K H t us)
    (turn : ∀ (i : Nat) (u : V) (T : Addr) (σ : L2.St) (H : Hp), us[i]? = some u → Pv i σ H → H T = none → g (.ref T) σ (upd H T (.tup [.int (i : Nat), u])) fun σ2 H2 => tb { D with nx := Pv (i + 1), ct := Pv (i + 1), bk := D.nx } σ2 H2) (fin : ∀ σ H, Pv us.length σ H → D.nx σ H) :
    ∃ W : Nat → Nat → L2.St → Hp → Prop, (∃ k, W 0 k σ H) ∧ ∀ i k σ H, W i k σ H → ((IteT K t).stop i H ∧ D.nx σ H) ∨
      ((IteT K t).go i H ∧ ∃ N : L2.St → Hp → Prop, (∀ σ' H', N σ' H' → ∃ k', k' < k ∧ W (i + 1) k' σ' H') ∧ ∀ v H', (IteT K t).yld i H v H' → g v σ H' fun σ2 H2 => tb { D with nx := N, ct := N, bk := D.nx } σ2 H2) :=
  for_by (n := us.length) Pv start (fun i σ H hi q => ⟨us, _, there i σ H (Nat.le_of_lt hi) q, List.getElem?_eq_getElem hi⟩) (fun σ H q => ⟨us, there _ σ H (Nat.le_refl _) q, rfl⟩)
    (fun i σ H v H' hi q ⟨T, u, e1, hT, e2, hu⟩ => by subst e1 e2; exact turn i u T σ H (hu us (there i σ H (Nat.le_of_lt hi) q)) q hT) fin
/-- a comprehension over enumerate of a list -/
theorem lc_enum {K : PySem.W.Frag} {l : Addr} {us : List V} {g : TG} {tt : TT} {te : TE} {vs : List Nat} {σ : L2.St} {H1 : Hp} {D : Addr} {Qd : Hp → Prop} (Pv : Nat → Hp → Prop) (start : Pv 0 (upd H1 D (.lst []))) (there : ∀ i H, i ≤ us.length → Pv i H → SqL K H l us)
    (turn : ∀ i u T H, us[i]? = some u → Pv i H → H T = none → LcTurn g tt te vs σ D (Pv (i + 1)) (.ref T) (upd H T (.tup [.int (i : Nat), u]))) (fin : ∀ H, Pv us.length H → Qd H) :
    ∃ W : Nat → Nat → Hp → Prop, (∃ k, W 0 k (upd H1 D (.lst []))) ∧ ∀ i k H, W i k H → ((Ite K l).stop i H ∧ Qd H) ∨ ((Ite K l).go i H ∧ ∃ Nx : Hp → Prop, (∀ H', Nx H' → ∃ k', k' < k ∧ W (i + 1) k' H') ∧ ∀ v H', (Ite K l).yld i H v H' → LcTurn g tt te vs σ D Nx v H') :=
  lc_by (n := us.length) Pv start (fun i H hi q => ⟨us, _, there i H (Nat.le_of_lt hi) q, List.getElem?_eq_getElem hi⟩) (fun H q => ⟨us, there _ H (Nat.le_refl _) q, Nat.le_refl _⟩)
    (fun i H v H' hi q ⟨T, u, e1, hT, e2, hu⟩ => by subst e1 e2; exact turn i u T H (hu us (there i H (Nat.le_of_lt hi) q)) q hT) fin
/-- a comprehension over zip of two tuples of one length -/
theorem lc_zipT {K : PySem.W.Frag} {t1 t2 : Addr} {us ws : List V} {g : TG} {tt : TT} {te : TE} {vs : List Nat} {σ : L2.St} {H1 : Hp} {D : Addr} {Qd : Hp → Prop} (alike : us.length = ws.length) (Pv : Nat → Hp → Prop) (start : Pv 0 (upd H1 D (.lst [])))
    (there : ∀ i H, i ≤ us.length → Pv i H → SqT K H t1 us ∧ SqT K H t2 ws)
    (turn : ∀ i u w T H, us[i]? = some u → ws[i]? = some w → Pv i H → H T = none → LcTurn g tt te vs σ D (Pv (i + 1)) (.ref T) (upd H T (.tup [u, w]))) (fin : ∀ H, Pv us.length H → Qd H) :
    ∃ W : Nat → Nat → Hp → Prop, (∃ k, W 0 k (upd H1 D (.lst []))) ∧ ∀ i k H, W i k H → ((RZ.ItzT K t1 t2).stop i H ∧ Qd H) ∨ ((RZ.ItzT K t1 t2).go i H ∧ ∃ Nx : Hp → Prop, (∀ H', Nx H' → ∃ k', k' < k ∧ W (i + 1) k' H') ∧ ∀ v H', (RZ.ItzT K t1 t2).yld i H v H' → LcTurn g tt te vs σ D Nx v H') :=
  lc_by (n := us.length) Pv start
    (fun i H hi q => ⟨us, ws, _, _, (there i H (Nat.le_of_lt hi) q).1, (there i H (Nat.le_of_lt hi) q).2, List.getElem?_eq_getElem hi, List.getElem?_eq_getElem (by omega)⟩)
    (fun H q => ⟨us, ws, (there _ H (Nat.le_refl _) q).1, (there _ H (Nat.le_refl _) q).2, .inl (Nat.le_refl _)⟩)
    (fun i H v H' hi q ⟨T, u, w, e1, hT, e2, hu, hw⟩ => by subst e1 e2; exact turn i u w T H (hu us (there i H (Nat.le_of_lt hi) q).1) (hw ws (there i H (Nat.le_of_lt hi) q).2) q hT) fin

/-! ### a tuple on which no dict hangs: it is told as its one object -/
def FT (H : Hp) (a : Addr) (xs : List V) : Prop := ∃ o : Obj, H a = some (.frz o (.tup xs)) ∧ o.dict = none
theorem FT.seq {K : PySem.W.Frag} {H : Hp} {a : Addr} {xs : List V} (h : FT H a xs) : SqT K H a xs := let ⟨_, e, _⟩ := h; .inl (.inr ⟨_, e⟩)
theorem FT.same {H H' : Hp} {a : Addr} {xs : List V} (s : Same H H') (h : FT H a xs) : FT H' a xs := let ⟨o, e, d⟩ := h; ⟨o, s _ _ e, d⟩
theorem FT.new {H : Hp} {p : Addr} {o : Obj} {xs : List V} (d : o.dict = none) : FT (upd H p (.frz o (.tup xs))) p xs := ⟨o, upd_same, d⟩
def tyTup (x : V) (H : Hp) : Prop := ∃ a xs, x = .ref a ∧ FT H a xs
section
variable {X : Cx}
theorem ty_tup : TyOk X "tuple" tyTup := by
  rintro pins σ H s x v I r ⟨t, zs, rfl, ob, hob, hd⟩
  cases r
  obtain ⟨hget, _, its, _, ob2, hget2, hcls, _⟩ := (show ObjOk X.prog X.w H s.heap t (.frz ob (.tup zs)) from I.hok t _ hob)
  exact ⟨⟨ob2, hget2, hcls⟩, fun b q => by cases q; exact ⟨ob, hget, hd⟩⟩
/-- tuple(list), told as its one object -/
theorem call_tuple_frz : CallR X (.type "tuple") (fun us H Q => ∃ l zs, us = [.ref l] ∧ SqL X.K H l zs ∧ ∀ (t : Addr) (o : Obj), H t = none → o.dict = none → Q (.ref t) (upd H t (.frz o (.tup zs)))) := by
  rintro pins s σ H us vus Q I rus ⟨l, zs, rfl, hl, hQ⟩
  rw [Vals.ref1 rus]
  obtain ⟨its, rv, hL, hz⟩ := I.list hl
  have hlen : its.toArray.size ≤ sizeLine := by rw [List.size_toArray, ← rv.length]; exact hz
  refine call_tuple_list hL.isList (fun g keep => ?_) hlen
  have I1 := I.kept (t' := s.toks) keep
  have made : ObjOk X.prog X.w (upd H g.objs.size (.frz { cls := .type "tuple", data := .seq its.toArray } (.tup zs))) (g.push { cls := .type "tuple", data := .seq its.toArray }) g.objs.size (.frz { cls := .type "tuple", data := .seq its.toArray } (.tup zs)) :=
    ⟨Heap.get?_push_size _ rfl, hz, its, rv, IsTup.new _ _⟩
  exact ⟨.ref g.objs.size, _, I1.laid (t' := s.toks) (fun b o q => Heap.get?_push_of_some _ q) (Nat.le_refl _) made, rfl, hQ _ _ (I1.hok.fresh (Nat.le_refl _)) rfl⟩
end
end LR

/-! LT: the text by places, what its top has left, short words. -/
namespace LX
open PySem L2 LR
def top (i : Nat) : Stmt := PySem.Challenge.pw_leastmoved_k16_whole_far_indexes.main.body.getD i (.Pass ⟨0, 0, 0, 0⟩)
abbrev sWhole : Stmt := top 5
abbrev sBetween : Stmt := top 6
abbrev sIsAlloc : Stmt := top 7
abbrev sIsAssign : Stmt := top 9
abbrev sCounts : Stmt := top 10
abbrev sInteger : Stmt := top 14
abbrev sChkVar : Stmt := top 15
abbrev sSome : Stmt := top 16
abbrev sChkAlloc : Stmt := top 17
abbrev sChkAssign : Stmt := top 18
abbrev sChkBucket : Stmt := top 19
abbrev sNMove : Stmt := top 20
abbrev sFirstN : Stmt := top 21
abbrev sNeedless : Stmt := top 22
abbrev sMinimal : Stmt := top 23
abbrev sInit : Stmt := inClass (top 24) 0
abbrev sOptions : Stmt := inClass (top 24) 1
abbrev sTake : Stmt := inClass (top 24) 2
abbrev sMovesOf : Stmt := top 25
abbrev sCompleted : Stmt := top 26
abbrev sFirst : Stmt := top 27
abbrev sWays : Stmt := top 29
abbrev sWaysWith : Stmt := top 30
abbrev sIsLeast : Stmt := top 31
abbrev sCount : Stmt := top 32
abbrev sNth : Stmt := top 33
abbrev sIndex : Stmt := top 34
abbrev sNext : Stmt := top 35
abbrev sStream : Stmt := top 37
abbrev sLNext : Stmt := top 38
abbrev sLInt : Stmt := top 39
abbrev sLEqual : Stmt := top 40
abbrev sLCounts : Stmt := top 41
abbrev sLAssign : Stmt := top 44
abbrev sLShares : Stmt := top 45
abbrev sLaw : Stmt := top 50

/-- whole numbers as values -/
def up (ns : List Nat) : List Int := ns.map fun (n : Nat) => (n : Int)
abbrev iv (ns : List Nat) : List V := (up ns).map V.int
theorem up_len {ns : List Nat} : (up ns).length = ns.length := List.length_map _
theorem iv_len {ns : List Nat} : (iv ns).length = ns.length := by rw [List.length_map, up_len]
theorem iv_at {ns : List Nat} {i n : Nat} (h : ns[i]? = some n) : (iv ns)[i]? = some (V.int (n : Int)) := by
  rw [List.getElem?_map, up, List.getElem?_map, h]; rfl
theorem iv_get {ns : List Nat} {i : Nat} {v : V} (h : (iv ns)[i]? = some v) : ∃ n : Nat, ns[i]? = some n ∧ v = V.int (n : Int) := by
  rw [List.getElem?_map, up, List.getElem?_map] at h
  cases e : ns[i]? with
  | none => rw [e] at h; cases h
  | some n => rw [e] at h; exact ⟨n, rfl, (Option.some.inj h).symm⟩
theorem up_sum : ∀ ns : List Nat, (up ns).sum = ((ns.sum : Nat) : Int)
  | [] => rfl
  | n :: ns => by
    have ih := up_sum ns
    show (n : Int) + (up ns).sum = (((n :: ns).sum : Nat) : Int)
    rw [ih, List.sum_cons]; omega
theorem up_count : ∀ (ns : List Nat) (v : Nat), (up ns).count (v : Int) = ns.count v
  | [], _ => rfl
  | n :: ns, v => by
    have ih := up_count ns v
    show ((n : Int) :: up ns).count (v : Int) = (n :: ns).count v
    rw [List.count_cons, List.count_cons, ih]
    by_cases e : n = v
    · subst e; simp
    · have e2 : ¬ (n : Int) = (v : Int) := by omega
      have z1 : ((n : Int) == (v : Int)) = false := by simp; omega
      have z2 : (n == v) = false := by simp; exact e
      rw [z1, z2]
theorem iv_append (a b : List Nat) : iv a ++ iv b = iv (a ++ b) := by simp [iv, up]
theorem iv_one (n : Nat) : [V.int (n : Int)] = iv [n] := rfl
theorem iv_take_succ {ns : List Nat} {i n : Nat} (h : ns[i]? = some n) : iv (ns.take i) ++ [V.int (n : Int)] = iv (ns.take (i + 1)) := by
  rw [iv_one, iv_append, List.take_add_one, h]; rfl
theorem iv_set {ns : List Nat} {i n : Nat} : (iv ns).set i (V.int (n : Int)) = iv (ns.set i n) := by
  simp [iv, up, List.map_set]

theorem sameT {K : PySem.W.Frag} {H H' : Hp} {a : Addr} {xs : List V} (e : Same H H') (h : SqT K H a xs) : SqT K H' a xs := by
  rcases h with (h | ⟨o, h⟩) | h
  · exact .inl (.inl (e _ _ h))
  · exact .inl (.inr ⟨o, e _ _ h⟩)
  · exact .inr h
theorem same_new {H : Hp} {p : Addr} (h : H p = none) (o : HO) : Same H (upd H p o) := fun b u e => by
  rw [upd_ne (ne_of_none e h)]; exact e
/-- kept but at one address, which is new -/
theorem same_set {H H' : Hp} {p : Addr} {o : HO} (h : H p = none) (s : Same H H') : Same H (upd H' p o) := fun b u e => by
  rw [upd_ne (ne_of_none e h)]; exact s _ _ e
theorem tyT {K : PySem.W.Frag} {H : Hp} {a : Addr} {xs : List V} (h : SqT K H a xs) : TyX K H (.ref a) (.type "tuple") := by
  rcases h with (h | ⟨o, h⟩) | ⟨o, its, n, h, hc, _⟩
  · exact .base (.tup h)
  · exact .fTuple h
  · exact .kTuple h hc
theorem tyI {K : PySem.W.Frag} {H : Hp} {i : Int} : TyX K H (.int i) (.type "int") := .base (.int i)

theorem tyes {σ : L2.St} {H : Hp} {Q : Bool → Hp → Prop} (h : Q true H) : tYes σ H Q := h
theorem rep_step {H : Hp} {D : Addr} {i : Nat} {v : V} (h : v = .bl true) : upd H D (.lst ((List.replicate i true).map V.bl ++ [v])) D = some (.lst ((List.replicate (i + 1) true).map V.bl)) := by
  rw [upd_same, List.replicate_succ', List.map_append, h]; rfl
theorem rep_small {i n : Nat} (h : i < n) (hn : n ≤ 1000) : ((List.replicate i true).map V.bl).length < sizeLine := by
  rw [List.length_map, List.length_replicate]; exact small1000 (by omega)
theorem bl_t {c : Prop} [Decidable c] (h : c) : V.bl (decide c) = .bl true := by rw [decide_eq_true h]
theorem bl_f {c : Prop} [Decidable c] (h : ¬ c) : V.bl (decide c) = .bl false := by rw [decide_eq_false h]
theorem iv_i {ns : List Nat} {i n : Nat} (h : ns[i]? = some n) : atI (iv ns) (i : Int) = some (V.int (n : Int)) := atI_nat (iv_at h)
theorem iv_g {ns : List Nat} {i : Nat} (h : i < ns.length) : atI (iv ns) (i : Int) = some (V.int (LM.g ns i : Int)) := iv_i (LM.g_at h)
/-! ### tuples and lists of whole numbers compared -/
def dts (ns : List Nat) : List PyData := (up ns).map PyData.int
theorem dpAll_iv {K : PySem.W.Frag} {H : Hp} : ∀ ns : List Int, DpAll K H (ns.map V.int) (ns.map PyData.int)
  | [] => .nil
  | n :: ns => .cons (.int n) (dpAll_iv ns)
theorem dp_iv {K : PySem.W.Frag} {H : Hp} {a : Addr} {ns : List Nat} (h : SqT K H a (iv ns)) : Dp K H (.ref a) (.tuple (dts ns)) := .tup h (dpAll_iv (up ns))
theorem lay_dts : ∀ ns : List Int, PyData.canLayAll0 (ns.map PyData.int) = true
  | [] => rfl
  | n :: ns => by
    show (PyData.canLay0 (.int n) && PyData.canLayAll0 (ns.map PyData.int)) = true
    rw [lay_dts ns]; rfl
theorem depth_dts : ∀ ns : List Int, PyData.depthAll (ns.map PyData.int) ≤ 1
  | [] => by simp [PyData.depthAll]
  | n :: ns => by
    have ih := depth_dts ns
    simp only [List.map_cons, PyData.depthAll, PyData.depth]
    omega
theorem shaped_dts (ns : List Nat) : SeqAt.shaped (.tuple (dts ns)) = true := by
  have h := depth_dts (up ns)
  unfold SeqAt.shaped
  rw [Bool.and_eq_true]
  refine ⟨lay_dts (up ns), decide_eq_true ?_⟩
  simp only [PyData.depth, dts]
  omega
theorem eqv_dts : ∀ ns ms : List Nat, PyData.eqvAll (dts ns) (dts ms) = decide (ns = ms)
  | [], [] => rfl
  | [], _ :: _ => rfl
  | _ :: _, [] => rfl
  | n :: ns, m :: ms => by
    have ih := eqv_dts ns ms
    show (((n : Int) == (m : Int)) && PyData.eqvAll (dts ns) (dts ms)) = decide (n :: ns = m :: ms)
    rw [ih]
    by_cases e : n = m
    · subst e
      simp
    · have z : ((n : Int) == (m : Int)) = false := by simp; omega
      rw [z, Bool.false_and]
      exact (decide_eq_false fun q => e (List.cons.inj q).1).symm
theorem eqv_tup (ns ms : List Nat) : PyData.eqv (.tuple (dts ns)) (.tuple (dts ms)) = decide (ns = ms) := by
  rw [PyData.eqv]; exact eqv_dts ns ms
/-- what the top has left -/
structure Txt (K : PySem.W.Frag) (mg : Str → Option Value) : Prop where
  isi : mg "isinstance" = none
  int : mg "int" = none
  bool : mg "bool" = none
  tuple : mg "tuple" = none
  list : mg "list" = none
  str : mg "str" = none
  len : mg "len" = none
  all : mg "all" = none
  sum : mg "sum" = none
  range : mg "range" = none
  max : mg "max" = none
  abs : mg "abs" = none
  zip : mg "zip" = none
  sorted : mg "sorted" = none
  enum : mg "enumerate" = none
  mv : ∃ t, mg "MOST_VARIANTS" = some (.int 5 t)
  mb : ∃ t, mg "MOST_BUCKETS" = some (.int 20 t)
  comb : mg "comb" = some (.builtin "math.comb")
  fact : mg "factorial" = some (.builtin "math.factorial")
/-- a def of the module, as it is called -/
structure Dfn (P : Program) (w : World) (K : PySem.W.Frag) (mg : Str → Option Value) (base : Heap) (k : Nat) (x : Str) (ps : List Str) (sp : Sp) : Prop where
  ex : ∃ (f : Addr) (fd : FuncData), FnOk P w K mg base CX0 k f fd ps sp ∧ Binds K fd ps [] ∧ PySem.W.keepIn K (.ref f) = true ∧ mg x = some (.ref f)
theorem pe_d {X : Cx} {j k : Nat} {x : Str} {ps : List Str} {sp : Sp} {e : Expr} {es : List Expr} {p pos : Pos} {t : TA} (D : Dfn X.prog X.w X.K X.mg X.base k x ps sp) (hr : Room j X.A) (hk : k ≤ j) (hg : Gl X x) (ha : PA X (e :: es) t)
    (hdb : (x == ("__debug__" : Str)) = false := by decide) (he : starEach (e :: es) X.env = (false, eval e X.env) :: starEach es X.env := by rfl) (hpl : (backTo pos (starEach es X.env)).any (·.1) = false := by rfl) :
    PE X (.Call (.Name x p) (e :: es) [] pos) (tCall sp [] E0 t) := by
  obtain ⟨f, fd, F, b, kp, m⟩ := D.ex
  exact pe_call F (hr.mono hk) hg m kp b .nil pass0 ha hdb he hpl
end LX

/-! LD1: the small checks. -/
namespace LX
open PySem L2 LR
/-! ### promises -/
/-- a whole number is one -/
def spWhole : Sp := fun vs H Q _ => ∃ i : Int, vs = [.int i] ∧ Q (.bl true) H
def spBetween : Sp := fun vs H Q _ => ∃ i lo hi : Int, vs = [.int i, .int lo, .int hi] ∧ lo ≤ i ∧ i ≤ hi ∧ Q (.bl true) H
def spIsAlloc (K : PySem.W.Frag) : Sp := fun vs H Q _ => ∃ (a : Addr) (al : List Nat), vs = [.ref a, .int (al.length : Nat), .int (al.sum : Nat)] ∧ SqT K H a (iv al) ∧ al.length ≤ 1000 ∧ ∀ H', Same H H' → Q (.bl true) H'
def spIsAssign (K : PySem.W.Frag) : Sp := fun vs H Q _ => ∃ (a : Addr) (ns : List Nat) (k : Nat), vs = [.ref a, .int (k : Nat), .int (ns.length : Nat)] ∧ SqT K H a (iv ns) ∧ ns.length ≤ 1000 ∧ (∀ n ∈ ns, n < k) ∧ ∀ H', Same H H' → Q (.bl true) H'
def spCounts : Sp := fun vs H Q _ => ∃ (a : Addr) (ns : List Nat) (k : Nat), vs = [.ref a, .int (k : Nat)] ∧ FT H a (iv ns) ∧ k ≤ 1000 ∧ ∀ p H', Same H H' → H p = none → H' p = some (.tup (iv (LM.cnts k ns))) → Q (.ref p) H'

section
variable {P : Program} {w : World} {K : PySem.W.Frag} {mg : Str → Option Value} {base : Heap}
theorem scWhole : FnScope ["value"] ["value"] (defScope sWhole) := ⟨rfl, rfl, rfl, by decide +kernel, rfl, by decide +kernel, by decide +kernel⟩
theorem ok_whole {f : Addr} {fd : FuncData} (F : Fun K "is_whole" "is_whole" sWhole f fd) (T : Txt K mg) : FnOk P w K mg base CX0 1 f fd ["value"] spWhole := by
  refine F.ok scWhole (fun vs H Q E h => ?_) (fun cdv A outer s H vs Q E hr h => ?_)
  · obtain ⟨i, rfl, _⟩ := h
    rfl
  · obtain ⟨i, rfl, q⟩ := h
    -- return isinstance(value, int) and not isinstance(value, bool)
    refine ⟨_, pss_one (ps_ret (pe_and (pe_callB call_isi (by rfl) T.isi (by decide +kernel) (pa_cons (pv 0) (pa_cons (pe_bltn (v := .ty "int") (by rfl) T.int (by decide +kernel) rfl) pa_nil)))
      (pe_one (pe_not (pe_callB call_isi (by rfl) T.isi (by decide +kernel) (pa_cons (pv 0) (pa_cons (pe_bltn (v := .ty "bool") (by rfl) T.bool (by decide +kernel) rfl) pa_nil))))))), ?_⟩
    refine ⟨_, rfl, _, _, _, _, true, rfl, .ty "int", tyI, kit_ty (by decide +kernel), true, rfl, iteT ?_⟩
    refine ⟨_, rfl, _, _, _, _, false, rfl, .ty "bool", tyI, kit_ty (by decide +kernel), false, rfl, ?_⟩
    exact q
theorem scInteger : FnScope ["value"] ["value"] (defScope sInteger) := ⟨rfl, rfl, rfl, by decide +kernel, rfl, by decide +kernel, by decide +kernel⟩
theorem ok_integer {f : Addr} {fd : FuncData} (F : Fun K "is_integer" "is_integer" sInteger f fd) (T : Txt K mg) : FnOk P w K mg base CX0 1 f fd ["value"] spWhole := by
  refine F.ok scInteger (fun vs H Q E h => ?_) (fun cdv A outer s H vs Q E hr h => ?_)
  · obtain ⟨i, rfl, _⟩ := h
    rfl
  · obtain ⟨i, rfl, q⟩ := h
    refine ⟨_, pss_one (ps_ret (pe_and (pe_callB call_isi (by rfl) T.isi (by decide +kernel) (pa_cons (pv 0) (pa_cons (pe_bltn (v := .ty "int") (by rfl) T.int (by decide +kernel) rfl) pa_nil)))
      (pe_one (pe_not (pe_callB call_isi (by rfl) T.isi (by decide +kernel) (pa_cons (pv 0) (pa_cons (pe_bltn (v := .ty "bool") (by rfl) T.bool (by decide +kernel) rfl) pa_nil))))))), ?_⟩
    refine ⟨_, rfl, _, _, _, _, true, rfl, .ty "int", tyI, kit_ty (by decide +kernel), true, rfl, iteT ?_⟩
    refine ⟨_, rfl, _, _, _, _, false, rfl, .ty "bool", tyI, kit_ty (by decide +kernel), false, rfl, ?_⟩
    exact q
theorem scLInt : FnScope ["_law_actual"] ["_law_actual"] (defScope sLInt) := ⟨rfl, rfl, rfl, by decide +kernel, rfl, by decide +kernel, by decide +kernel⟩
theorem ok_lint {f : Addr} {fd : FuncData} (F : Fun K "_law_is_integer" "_law_is_integer" sLInt f fd) (T : Txt K mg) : FnOk P w K mg base CX0 1 f fd ["_law_actual"] spWhole := by
  refine F.ok scLInt (fun vs H Q E h => ?_) (fun cdv A outer s H vs Q E hr h => ?_)
  · obtain ⟨i, rfl, _⟩ := h
    rfl
  · obtain ⟨i, rfl, q⟩ := h
    refine ⟨_, pss_one (ps_ret (pe_and (pe_callB call_isi (by rfl) T.isi (by decide +kernel) (pa_cons (pv 0) (pa_cons (pe_bltn (v := .ty "int") (by rfl) T.int (by decide +kernel) rfl) pa_nil)))
      (pe_one (pe_not (pe_callB call_isi (by rfl) T.isi (by decide +kernel) (pa_cons (pv 0) (pa_cons (pe_bltn (v := .ty "bool") (by rfl) T.bool (by decide +kernel) rfl) pa_nil))))))), ?_⟩
    refine ⟨_, rfl, _, _, _, _, true, rfl, .ty "int", tyI, kit_ty (by decide +kernel), true, rfl, iteT ?_⟩
    refine ⟨_, rfl, _, _, _, _, false, rfl, .ty "bool", tyI, kit_ty (by decide +kernel), false, rfl, ?_⟩
    exact q
theorem scBetween : FnScope ["value", "low", "high"] ["value", "low", "high"] (defScope sBetween) := ⟨rfl, rfl, rfl, by decide +kernel, rfl, by decide +kernel, by decide +kernel⟩
theorem ok_between {f : Addr} {fd : FuncData} (F : Fun K "is_between" "is_between" sBetween f fd) (T : Txt K mg) (DW : Dfn P w K mg base 1 "is_whole" ["value"] spWhole) : FnOk P w K mg base CX0 2 f fd ["value", "low", "high"] spBetween := by
  refine F.ok scBetween (fun vs H Q E h => ?_) (fun cdv A outer s H vs Q E hr h => ?_)
  · obtain ⟨i, lo, hi, rfl, _⟩ := h
    rfl
  · obtain ⟨i, lo, hi, rfl, h1, h2, q⟩ := h
    -- return is_whole(value) and low <= value <= high
    refine ⟨_, pss_one (ps_ret (pe_and (pe_d DW hr (Nat.le_refl _) (by rfl) (pa_cons (pv 0) pa_nil)) (pe_one (pe_chain op_le op_le (pv 1) (pv 0) (pv 2))))), ?_⟩
    refine ⟨_, rfl, i, rfl, true, rfl, iteT ?_⟩
    refine ⟨_, rfl, _, rfl, _, _, rfl, rfl, _, rfl, ?_⟩
    rw [decide_eq_true h1]
    refine iteT ⟨_, rfl, _, _, rfl, rfl, ?_⟩
    show Q (.bl (decide (i ≤ hi))) H
    rw [decide_eq_true h2]
    exact q
theorem scIsAlloc : FnScope ["value", "variants", "buckets", "share"] ["value", "variants", "buckets"] (defScope sIsAlloc) := ⟨rfl, rfl, rfl, by decide +kernel, rfl, by decide +kernel, by decide +kernel⟩
theorem ok_isAlloc {f : Addr} {fd : FuncData} (F : Fun K "is_allocation" "is_allocation" sIsAlloc f fd) (T : Txt K mg) (DW : Dfn P w K mg base 1 "is_whole" ["value"] spWhole) : FnOk P w K mg base CX0 2 f fd ["value", "variants", "buckets"] (spIsAlloc K) := by
  refine F.ok scIsAlloc (fun vs H Q E h => ?_) (fun cdv A outer s H vs Q E hr h => ?_)
  · obtain ⟨a, al, rfl, _⟩ := h
    rfl
  · obtain ⟨a, al, rfl, ha, hl, q⟩ := h
    refine ⟨_, pss_cons (ps_if (PW.pt (pw_or (pt_not (pt_val (pe_callB call_isi (by rfl) T.isi (by decide +kernel) (pa_cons (pv 0) (pa_cons (pe_bltn (v := .ty "tuple") (by rfl) T.tuple (by decide +kernel) rfl) pa_nil)))))
        (pw_or1 (pt_cmpR op_ne (pe_callB call_len_seq (by rfl) T.len PySem.boot_len (pa_cons (pv 0) pa_nil)) (pv 1) (nomark _))))) (pss_one (ps_ret pe_bl)) pss_nil)
      (pss_one (ps_ret (pe_and (pe_callB (cr_all rfl) (by rfl) T.all (by decide +kernel) (pa_cons (pe_lc (own := [("share", 3)]) (g := gName 3) (tt := tYes) rfl scIsAlloc.nd (pi_tup (pv 0)) (blkOk_by (own := [("share", 3)]) (N := ["value", "variants", "buckets", "share"]) (sc := defScope sIsAlloc) (by decide +kernel))
          (fun _ _ _ _ _ => pg_name (i := 3) scIsAlloc.nd rfl (Or.inl rfl)) (fun _ _ _ _ _ => pts_nil) (fun _ _ _ _ _ => pe_and (pe_d DW hr (Nat.le_refl _) (by rfl) (pa_cons (pv 3) pa_nil)) (pe_one (pe_cmpR op_ge (pv 3) pe_int (nomark _))))) pa_nil))
        (pe_one (pe_cmpR op_eq (pe_callB (cr_sumT rfl) (by rfl) T.sum (by decide +kernel) (pa_cons (pv 0) pa_nil)) (pv 2) (nomark _)))))), ?_⟩
    -- not isinstance(value, tuple) or len(value) != variants
    refine ⟨_, rfl, _, _, _, _, true, rfl, .ty "tuple", tyT ha, kit_ty (by decide +kernel), true, rfl, iteF ?_⟩
    refine ⟨_, rfl, a, _, rfl, .inr ha, _, rfl, rfl, _, rfl, ?_⟩
    rw [iv_len, decide_eq_true rfl]
    refine iteF ?_
    -- all([..]) and sum(value) == buckets
    refine ⟨_, rfl, a, rfl, ⟨_, ha⟩, fun D hD => lc_tup (K := K) (a := a) (xs := iv al) (fun i H' => Same H H' ∧ H' D = some (.lst ((List.replicate i true).map V.bl))) ⟨same_new hD _, upd_same⟩ (fun i H' _ z => sameT z.1 ha) ?_ ?_⟩
    · rintro i x H' hx ⟨z, zD⟩
      obtain ⟨n, hn, rfl⟩ := iv_get hx
      have hi : i < al.length := (List.getElem?_eq_some_iff.mp hn).1
      refine ⟨rfl, tyes (iteT ?_)⟩
      refine ⟨_, rfl, _, rfl, true, rfl, iteT ?_⟩
      refine ⟨_, rfl, _, _, rfl, rfl, ?_⟩
      exact ⟨_, zD, rep_small hi hl, same_set hD z, rep_step (bl_t (by omega))⟩
    · rintro H' ⟨z, zD⟩
      refine ⟨D, _, rfl, .inl (.inl zD), true, by simp, iteT ?_⟩
      refine ⟨_, rfl, a, up al, rfl, sameT z ha, _, rfl, rfl, ?_⟩
      rw [up_sum, decide_eq_true rfl]
      exact q _ z
theorem scIsAssign : FnScope ["value", "variants", "buckets", "variant"] ["value", "variants", "buckets"] (defScope sIsAssign) := ⟨rfl, rfl, rfl, by decide +kernel, rfl, by decide +kernel, by decide +kernel⟩
theorem ok_isAssign {f : Addr} {fd : FuncData} (F : Fun K "is_assignment" "is_assignment" sIsAssign f fd) (T : Txt K mg) (DB : Dfn P w K mg base 2 "is_between" ["value", "low", "high"] spBetween) : FnOk P w K mg base CX0 3 f fd ["value", "variants", "buckets"] (spIsAssign K) := by
  refine F.ok scIsAssign (fun vs H Q E h => ?_) (fun cdv A outer s H vs Q E hr h => ?_)
  · obtain ⟨a, ns, k, rfl, _⟩ := h
    rfl
  · obtain ⟨a, ns, k, rfl, ha, hl, hk, q⟩ := h
    refine ⟨_, pss_cons (ps_if (PW.pt (pw_or (pt_not (pt_val (pe_callB call_isi (by rfl) T.isi (by decide +kernel) (pa_cons (pv 0) (pa_cons (pe_bltn (v := .ty "tuple") (by rfl) T.tuple (by decide +kernel) rfl) pa_nil)))))
        (pw_or1 (pt_cmpR op_ne (pe_callB call_len_seq (by rfl) T.len PySem.boot_len (pa_cons (pv 0) pa_nil)) (pv 2) (nomark _))))) (pss_one (ps_ret pe_bl)) pss_nil)
      (pss_one (ps_ret (pe_callB (cr_all rfl) (by rfl) T.all (by decide +kernel) (pa_cons (pe_lc (own := [("variant", 3)]) (g := gName 3) (tt := tYes) rfl scIsAssign.nd (pi_tup (pv 0)) (blkOk_by (own := [("variant", 3)]) (N := ["value", "variants", "buckets", "variant"]) (sc := defScope sIsAssign) (by decide +kernel))
          (fun _ _ _ _ _ => pg_name (i := 3) scIsAssign.nd rfl (Or.inl rfl)) (fun _ _ _ _ _ => pts_nil) (fun _ _ _ _ _ => pe_d DB hr (Nat.le_refl _) (by rfl) (pa_cons (pv 3) (pa_cons pe_int (pa_cons (pe_op op_sub (pv 1) pe_int) pa_nil))))) pa_nil)))), ?_⟩
    -- not isinstance(value, tuple) or len(value) != buckets
    refine ⟨_, rfl, _, _, _, _, true, rfl, .ty "tuple", tyT ha, kit_ty (by decide +kernel), true, rfl, iteF ?_⟩
    refine ⟨_, rfl, a, _, rfl, .inr ha, _, rfl, rfl, _, rfl, ?_⟩
    rw [iv_len, decide_eq_true rfl]
    refine iteF ?_
    -- all([..])
    refine ⟨_, rfl, a, rfl, ⟨_, ha⟩, fun D hD => lc_tup (K := K) (a := a) (xs := iv ns) (fun i H' => Same H H' ∧ H' D = some (.lst ((List.replicate i true).map V.bl))) ⟨same_new hD _, upd_same⟩ (fun i H' _ z => sameT z.1 ha) ?_ ?_⟩
    · rintro i x H' hx ⟨z, zD⟩
      obtain ⟨n, hn, rfl⟩ := iv_get hx
      have hi : i < ns.length := (List.getElem?_eq_some_iff.mp hn).1
      have hnk := hk n (List.mem_of_getElem? hn)
      refine ⟨rfl, tyes (iteT ?_)⟩
      refine ⟨_, rfl, _, rfl, _, _, rfl, rfl, _, _, _, rfl, by omega, by omega, ?_⟩
      exact ⟨_, zD, rep_small hi hl, same_set hD z, rep_step rfl⟩
    · rintro H' ⟨z, zD⟩
      refine ⟨D, _, rfl, .inl (.inl zD), ?_⟩
      have e : (List.replicate (iv ns).length true).all id = true := by simp
      rw [e]
      exact q _ z
theorem scCounts : FnScope ["assignment", "variants", "variant"] ["assignment", "variants"] (defScope sCounts) := ⟨rfl, rfl, rfl, by decide +kernel, rfl, by decide +kernel, by decide +kernel⟩
theorem ok_counts {f : Addr} {fd : FuncData} (F : Fun K "counts_of" "counts_of" sCounts f fd) (T : Txt K mg) : FnOk P w K mg base CX0 1 f fd ["assignment", "variants"] spCounts := by
  refine F.ok scCounts (fun vs H Q E h => ?_) (fun cdv A outer s H vs Q E hr h => ?_)
  · obtain ⟨a, ns, k, rfl, _⟩ := h
    rfl
  · obtain ⟨a, ns, k, rfl, ha, hl, q⟩ := h
    -- return tuple([assignment.count(variant) for variant in range(variants)])
    refine ⟨_, pss_one (ps_ret (pe_callTy call_tuple_of (by rfl) T.tuple (by decide +kernel) (pa_cons (pe_lc (own := [("variant", 2)]) (g := gName 2) (tt := tYes) rfl scCounts.nd (pi_range1 (by rfl) T.range (pa_cons (pv 1) pa_nil))
      (blkOk_by (own := [("variant", 2)]) (N := ["assignment", "variants", "variant"]) (sc := defScope sCounts) (by decide +kernel))
      (fun _ _ _ _ _ => pg_name (i := 2) scCounts.nd rfl (Or.inl rfl)) (fun _ _ _ _ _ => pts_nil) (fun _ _ _ _ _ => pe_mG (r := rCntT K) ty_tup PySem.F.plainAttrs_tuple PySem.F.slot_tuple_count PySem.F.type_tuple_count mt_tcount (pv 0) (pa_cons (pv 2) pa_nil))) pa_nil))), ?_⟩
    refine ⟨_, rfl, _, rfl, by omega, by omega, fun D hD => lc_range (lo := 0) (n := k) (fun i H' => Same H H' ∧ H' D = some (.lst (iv (LM.cnts i ns)))) ⟨same_new hD _, upd_same⟩ ?_ ?_⟩
    · rintro i H' hi ⟨z, zD⟩
      refine ⟨rfl, tyes (iteT ?_)⟩
      have hn : ((0 : Int) + (i : Int)) = ((i : Nat) : Int) := by omega
      refine ⟨_, rfl, ⟨a, _, rfl, ha.same z⟩, _, rfl, a, up ns, _, rfl, rfl, (ha.same z).seq, ?_⟩
      rw [hn, up_count]
      refine ⟨_, zD, by rw [iv_len, LM.cnts_len]; exact small1000 (by omega), same_set hD z, ?_⟩
      rw [upd_same, iv_one, iv_append]
      have e : LM.cnts i ns ++ [ns.count i] = LM.cnts (i + 1) ns := by
        unfold LM.cnts; rw [List.range_succ, List.map_append]; rfl
      rw [e]
    · rintro H' ⟨z, zD⟩
      refine ⟨D, _, rfl, .inl ⟨.inl (.inl zD), fun l hl' => ?_⟩⟩
      exact q l _ (z.trans (same_new hl' _)) (z.free hl') upd_same
end
end LX

/-! LD2: the checks of arguments; no bucket moves needlessly. -/
namespace LX
open PySem L2 LR
def spChkVar : Sp := fun vs H Q _ => ∃ k : Nat, vs = [.int (k : Nat)] ∧ 1 ≤ k ∧ k ≤ 5 ∧ Q .non H
/-- an allocation: at a, of some buckets -/
def AlAt (K : PySem.W.Frag) (H : Hp) (a : Addr) (al : List Nat) : Prop := SqT K H a (iv al) ∧ 1 ≤ al.length ∧ al.length ≤ 5 ∧ al.sum ≤ 20
theorem AlAt.same {K : PySem.W.Frag} {H H' : Hp} {a : Addr} {al : List Nat} (h : AlAt K H a al) (s : Same H H') : AlAt K H' a al := ⟨sameT s h.1, h.2⟩
/-- an assignment of as many buckets to as many variants -/
def AsAt (K : PySem.W.Frag) (H : Hp) (a : Addr) (al ns : List Nat) : Prop := SqT K H a (iv ns) ∧ ns.length = al.sum ∧ ∀ n ∈ ns, n < al.length
theorem AsAt.same {K : PySem.W.Frag} {H H' : Hp} {a : Addr} {al ns : List Nat} (h : AsAt K H a al ns) (s : Same H H') : AsAt K H' a al ns := ⟨sameT s h.1, h.2⟩
def spSome (K : PySem.W.Frag) : Sp := fun vs H Q _ => ∃ (a : Addr) (al : List Nat), vs = [.ref a] ∧ AlAt K H a al ∧ ∀ H', Same H H' → Q (.bl true) H'
def spChkAlloc (K : PySem.W.Frag) : Sp := fun vs H Q _ => ∃ (a : Addr) (al : List Nat), vs = [.ref a] ∧ AlAt K H a al ∧ ∀ H', Same H H' → Q .non H'
def spChkAssign (K : PySem.W.Frag) : Sp := fun vs H Q _ => ∃ (a b : Addr) (al ns : List Nat) (x : V), vs = [.ref a, .ref b, x] ∧ AlAt K H a al ∧ AsAt K H b al ns ∧ ∀ H', Same H H' → Q .non H'
def spChkBucket (K : PySem.W.Frag) : Sp := fun vs H Q _ => ∃ (a : Addr) (al : List Nat) (b : Nat), vs = [.ref a, .int (b : Nat)] ∧ AlAt K H a al ∧ b < al.sum ∧ Q .non H
def spNMove (K : PySem.W.Frag) : Sp := fun vs H Q _ => ∃ (b d a o : Addr) (be bh as cs : List Nat), vs = [.ref b, .ref d, .ref a, .ref o] ∧ SqT K H b (iv be) ∧ SqT K H d (iv bh) ∧ SqT K H a (iv as) ∧ SqT K H o (iv cs) ∧ be.length = bh.length ∧ as.length = cs.length ∧
  (∀ (i v c : Nat), as[i]? = some v → cs[i]? = some c → v < be.length ∧ c < be.length ∧ (c ≠ v → LM.g bh v < LM.g be v ∧ LM.g be c < LM.g bh c)) ∧ ∀ H', Same H H' → Q .non H'
section
variable {P : Program} {w : World} {K : PySem.W.Frag} {mg : Str → Option Value} {base : Heap}
theorem scChkVar : FnScope ["variants"] ["variants"] (defScope sChkVar) := ⟨rfl, rfl, rfl, by decide +kernel, rfl, by decide +kernel, by decide +kernel⟩
theorem ok_chkVar {f : Addr} {fd : FuncData} (F : Fun K "check_variants" "check_variants" sChkVar f fd) (T : Txt K mg) (DI : Dfn P w K mg base 1 "is_integer" ["value"] spWhole) : FnOk P w K mg base CX0 2 f fd ["variants"] spChkVar := by
  refine F.ok scChkVar (fun vs H Q E h => ?_) (fun cdv A outer s H vs Q E hr h => ?_)
  · obtain ⟨k, rfl, _⟩ := h
    rfl
  · obtain ⟨k, rfl, h1, h2, q⟩ := h
    obtain ⟨t5, mv⟩ := T.mv
    refine ⟨_, pss_one (ps_if (PW.pt (pw_or (pt_not (pt_val (pe_d DI hr (Nat.le_refl _) (by rfl) (pa_cons (pv 0) pa_nil)))) (pw_or1 (pt_not (pt_chain op_le op_le pe_int (pv 0) (pe_glob (v := .int 5) (by rfl) mv ⟨_, rfl⟩)))))) pss_never pss_nil), ?_⟩
    refine ⟨_, rfl, _, rfl, true, rfl, iteF ?_⟩
    refine ⟨_, rfl, _, _, rfl, rfl, _, bl_t (by omega), iteT ⟨_, _, rfl, rfl, _, bl_t (by omega), iteF ?_⟩⟩
    exact q
theorem scSome : FnScope ["value", "share"] ["value"] (defScope sSome) := ⟨rfl, rfl, rfl, by decide +kernel, rfl, by decide +kernel, by decide +kernel⟩
theorem ok_some {f : Addr} {fd : FuncData} (F : Fun K "is_some_allocation" "is_some_allocation" sSome f fd) (T : Txt K mg) (DI : Dfn P w K mg base 1 "is_integer" ["value"] spWhole)
    (DA : Dfn P w K mg base 2 "is_allocation" ["value", "variants", "buckets"] (spIsAlloc K)) : FnOk P w K mg base CX0 3 f fd ["value"] (spSome K) := by
  refine F.ok scSome (fun vs H Q E h => ?_) (fun cdv A outer s H vs Q E hr h => ?_)
  · obtain ⟨a, al, rfl, _⟩ := h
    rfl
  · obtain ⟨a, al, rfl, ⟨ha, h1, h5, h20⟩, q⟩ := h
    obtain ⟨t5, mv⟩ := T.mv
    obtain ⟨t20, mb⟩ := T.mb
    refine ⟨_, pss_cons (ps_if (PW.pt (pw_or (pt_not (pt_val (pe_callB call_isi (by rfl) T.isi (by decide +kernel) (pa_cons (pv 0) (pa_cons (pe_bltn (v := .ty "tuple") (by rfl) T.tuple (by decide +kernel) rfl) pa_nil)))))
        (pw_or1 (pt_not (pt_chain op_le op_le pe_int (pe_callB call_len_seq (by rfl) T.len PySem.boot_len (pa_cons (pv 0) pa_nil)) (pe_glob (v := .int 5) (by rfl) mv ⟨_, rfl⟩)))))) (pss_one (ps_ret pe_bl)) pss_nil)
      (pss_cons (ps_if (PW.pt (pw_or (pt_not (pt_val (pe_callB (cr_all rfl) (by rfl) T.all (by decide +kernel) (pa_cons (pe_lc (own := [("share", 1)]) (g := gName 1) (tt := tYes) rfl scSome.nd (pi_tup (pv 0)) (blkOk_by (own := [("share", 1)]) (N := ["value", "share"]) (sc := defScope sSome) (by decide +kernel))
          (fun _ _ _ _ _ => pg_name (i := 1) scSome.nd rfl (Or.inl rfl)) (fun _ _ _ _ _ => pts_nil) (fun _ _ _ _ _ => pe_and (pe_d DI hr (by decide) (by rfl) (pa_cons (pv 1) pa_nil)) (pe_one (pe_cmpR op_ge (pv 1) pe_int (nomark _))))) pa_nil))))
        (pw_or1 (pt_cmpR op_gt (pe_callB (cr_sumT rfl) (by rfl) T.sum (by decide +kernel) (pa_cons (pv 0) pa_nil)) (pe_glob (v := .int 20) (by rfl) mb ⟨_, rfl⟩) (nomark _))))) (pss_one (ps_ret pe_bl)) pss_nil)
      (pss_one (ps_ret (pe_d DA hr (Nat.le_refl _) (by rfl) (pa_cons (pv 0) (pa_cons (pe_callB call_len_seq (by rfl) T.len PySem.boot_len (pa_cons (pv 0) pa_nil)) (pa_cons (pe_callB (cr_sumT rfl) (by rfl) T.sum (by decide +kernel) (pa_cons (pv 0) pa_nil)) pa_nil))))))), ?_⟩
    -- not isinstance(value, tuple) or not 1 <= len(value) <= MOST_VARIANTS
    refine ⟨_, rfl, _, _, _, _, true, rfl, .ty "tuple", tyT ha, kit_ty (by decide +kernel), true, rfl, iteF ?_⟩
    have hlen : (iv al).length = al.length := iv_len
    refine ⟨_, rfl, a, _, rfl, .inr ha, _, _, rfl, rfl, _, bl_t (by omega), iteT ⟨_, _, rfl, rfl, _, bl_t (by omega), iteF ?_⟩⟩
    -- all([..])
    refine ⟨_, rfl, a, rfl, ⟨_, ha⟩, fun D hD => lc_tup (K := K) (a := a) (xs := iv al) (fun i H' => Same H H' ∧ H' D = some (.lst ((List.replicate i true).map V.bl))) ⟨same_new hD _, upd_same⟩ (fun i H' _ z => sameT z.1 ha) ?_ ?_⟩
    · rintro i x H' hx ⟨z, zD⟩
      obtain ⟨n, hn, rfl⟩ := iv_get hx
      have hi : i < al.length := (List.getElem?_eq_some_iff.mp hn).1
      refine ⟨rfl, tyes (iteT ?_)⟩
      refine ⟨_, rfl, _, rfl, true, rfl, iteT ?_⟩
      refine ⟨_, rfl, _, _, rfl, rfl, ?_⟩
      exact ⟨_, zD, rep_small hi (by omega), same_set hD z, rep_step (bl_t (by omega))⟩
    · rintro H' ⟨z, zD⟩
      refine ⟨D, _, rfl, .inl (.inl zD), true, by simp, iteF ?_⟩
      refine ⟨_, rfl, a, up al, rfl, sameT z ha, _, _, rfl, rfl, _, bl_f (by rw [up_sum]; omega), iteF ?_⟩
      -- is_allocation(value, len(value), sum(value))
      refine ⟨_, rfl, _, rfl, a, _, rfl, .inr (sameT z ha), _, rfl, a, up al, rfl, sameT z ha, a, al, ?_, sameT z ha, by omega, fun H2 z2 => q _ (z.trans z2)⟩
      rw [up_sum, iv_len]
      rfl
theorem scChkAlloc : FnScope ["value"] ["value"] (defScope sChkAlloc) := ⟨rfl, rfl, rfl, by decide +kernel, rfl, by decide +kernel, by decide +kernel⟩
theorem ok_chkAlloc {f : Addr} {fd : FuncData} (F : Fun K "check_allocation" "check_allocation" sChkAlloc f fd) (DS : Dfn P w K mg base 3 "is_some_allocation" ["value"] (spSome K)) : FnOk P w K mg base CX0 4 f fd ["value"] (spChkAlloc K) := by
  refine F.ok scChkAlloc (fun vs H Q E h => ?_) (fun cdv A outer s H vs Q E hr h => ?_)
  · obtain ⟨a, al, rfl, _⟩ := h
    rfl
  · obtain ⟨a, al, rfl, ha, q⟩ := h
    refine ⟨_, pss_one (ps_if (pt_not (pt_val (pe_d DS hr (Nat.le_refl _) (by rfl) (pa_cons (pv 0) pa_nil)))) pss_never pss_nil), ?_⟩
    refine ⟨_, rfl, a, al, rfl, ha, fun H' z => ⟨true, rfl, iteF ?_⟩⟩
    exact q _ z
theorem scChkAssign : FnScope ["allocation", "value", "name"] ["allocation", "value", "name"] (defScope sChkAssign) := ⟨rfl, rfl, rfl, by decide +kernel, rfl, by decide +kernel, by decide +kernel⟩
theorem ok_chkAssign {f : Addr} {fd : FuncData} (F : Fun K "check_assignment" "check_assignment" sChkAssign f fd) (T : Txt K mg) (DA : Dfn P w K mg base 3 "is_assignment" ["value", "variants", "buckets"] (spIsAssign K)) : FnOk P w K mg base CX0 4 f fd ["allocation", "value", "name"] (spChkAssign K) := by
  refine F.ok scChkAssign (fun vs H Q E h => ?_) (fun cdv A outer s H vs Q E hr h => ?_)
  · obtain ⟨a, b, al, ns, x, rfl, _⟩ := h
    rfl
  · obtain ⟨a, b, al, ns, x, rfl, ⟨ha, h1, h5, h20⟩, ⟨hb, hl, hk⟩, q⟩ := h
    refine ⟨_, pss_one (ps_if (pt_not (pt_val (pe_d DA hr (Nat.le_refl _) (by rfl) (pa_cons (pv 1) (pa_cons (pe_callB call_len_seq (by rfl) T.len PySem.boot_len (pa_cons (pv 0) pa_nil)) (pa_cons (pe_callB (cr_sumT rfl) (by rfl) T.sum (by decide +kernel) (pa_cons (pv 0) pa_nil)) pa_nil)))))) pss_never pss_nil), ?_⟩
    refine ⟨_, rfl, _, rfl, a, _, rfl, .inr ha, _, rfl, a, up al, rfl, ha, b, ns, al.length, ?_, hb, by omega, hk, fun H' z => ⟨true, rfl, iteF ?_⟩⟩
    · rw [up_sum, iv_len, hl]
      rfl
    · exact q _ z
theorem scChkBucket : FnScope ["allocation", "bucket"] ["allocation", "bucket"] (defScope sChkBucket) := ⟨rfl, rfl, rfl, by decide +kernel, rfl, by decide +kernel, by decide +kernel⟩
theorem ok_chkBucket {f : Addr} {fd : FuncData} (F : Fun K "check_bucket" "check_bucket" sChkBucket f fd) (T : Txt K mg) (DI : Dfn P w K mg base 1 "is_integer" ["value"] spWhole) : FnOk P w K mg base CX0 2 f fd ["allocation", "bucket"] (spChkBucket K) := by
  refine F.ok scChkBucket (fun vs H Q E h => ?_) (fun cdv A outer s H vs Q E hr h => ?_)
  · obtain ⟨a, al, b, rfl, _⟩ := h
    rfl
  · obtain ⟨a, al, b, rfl, ⟨ha, _⟩, hb, q⟩ := h
    refine ⟨_, pss_one (ps_if (PW.pt (pw_or (pt_not (pt_val (pe_d DI hr (Nat.le_refl _) (by rfl) (pa_cons (pv 1) pa_nil))))
      (pw_or1 (pt_not (pt_chain op_le op_lt pe_int (pv 1) (pe_callB (cr_sumT rfl) (by rfl) T.sum (by decide +kernel) (pa_cons (pv 0) pa_nil))))))) pss_never pss_nil), ?_⟩
    refine ⟨_, rfl, _, rfl, true, rfl, iteF ?_⟩
    refine ⟨_, rfl, _, _, rfl, rfl, _, bl_t (by omega), iteT ⟨_, rfl, a, up al, rfl, ha, _, _, rfl, rfl, _, bl_t (by rw [up_sum]; omega), iteF ?_⟩⟩
    exact q
theorem scNMove : FnScope ["before", "behind", "assignment", "other", "bucket", "variant", "entered"] ["before", "behind", "assignment", "other"] (defScope sNMove) := ⟨rfl, rfl, rfl, by decide +kernel, rfl, by decide +kernel, by decide +kernel⟩
theorem ok_nMove {f : Addr} {fd : FuncData} (F : Fun K "needless_move" "needless_move" sNMove f fd) (T : Txt K mg) : FnOk P w K mg base CX0 1 f fd ["before", "behind", "assignment", "other"] (spNMove K) := by
  refine F.ok scNMove (fun vs H Q E h => ?_) (fun cdv A outer s H vs Q E hr h => ?_)
  · obtain ⟨b, d, a, o, be, bh, as, cs, rfl, _⟩ := h
    rfl
  · obtain ⟨b, d, a, o, be, bh, as, cs, rfl, hb, hd, ha, ho, l1, l2, hm, q⟩ := h
    have nd := scNMove.nd
    refine ⟨_, pss_cons (ps_for PassesOwn.never rfl (pi_enumT (by rfl) T.enum (pa_cons (pv 2) pa_nil)) (pg_tup rfl (pgs_cons (pg_name (i := 4) nd rfl (Or.inl rfl)) (pgs_cons (pg_name (i := 5) nd rfl (Or.inl rfl)) pgs_nil)))
        (pss_cons (ps_set (i := 6) nd rfl (Or.inl rfl) (pe_ix ix_tup (pv 3) (pv 4) (fun _ _ => rfl)))
        (pss_one (ps_if (pt_cmpR op_ne (pv 5) (pv 6) (nomark _))
          (pss_cons (ps_if (pt_cmpR op_ge (pe_ix ix_tup (pv 1) (pv 5) (fun _ _ => rfl)) (pe_ix ix_tup (pv 0) (pv 5) (fun _ _ => rfl)) (nomark _)) (pss_one (ps_ret (pe_tup (pa_cons (pv 4) (pa_cons pe_str pa_nil))))) pss_nil)
          (pss_one (ps_if (pt_cmpR op_le (pe_ix ix_tup (pv 1) (pv 6) (fun _ _ => rfl)) (pe_ix ix_tup (pv 0) (pv 6) (fun _ _ => rfl)) (nomark _)) (pss_one (ps_ret (pe_tup (pa_cons (pv 4) (pa_cons pe_str pa_nil))))) pss_nil))) pss_nil))))
      (pss_one (ps_ret pe_non)), ?_⟩
    refine ⟨_, rfl, a, _, rfl, ha, for_enumT (K := K) (t := a) (us := iv as) (fun i σ H' => ∃ x y z : Option V, σ = [some (.ref b), some (.ref d), some (.ref a), some (.ref o), x, y, z] ∧ Same H H') ⟨_, _, _, rfl, Same.refl _⟩ (fun i σ H' _ ⟨_, _, _, _, z⟩ => sameT z ha) ?_ ?_⟩
    · rintro i x T' σ H' hx ⟨_, _, _, rfl, z⟩ hT
      obtain ⟨v, hv, rfl⟩ := iv_get hx
      have hi : i < as.length := (List.getElem?_eq_some_iff.mp hv).1
      have hc : cs[i]? = some (LM.g cs i) := LM.g_at (by omega)
      have z2 : Same H (upd H' T' (.tup [.int (i : Nat), V.int (v : Int)])) := z.trans (same_new hT _)
      obtain ⟨m1, m2, m3⟩ := hm i v _ hv hc
      refine ⟨T', _, rfl, .inl (.inl upd_same), rfl, _, _, rfl, _, _, rfl, rfl, ?_⟩
      refine ⟨_, rfl, _, rfl, o, _, _, _, rfl, rfl, sameT z2 ho, iv_i hc, ?_⟩
      refine ⟨_, rfl, _, rfl, rfl, _, rfl, ?_⟩
      refine ite2 (fun c => ?_) (fun c => ?_)
      · have ne : LM.g cs i ≠ v := fun e => by
          rw [e] at c
          simp at c
        obtain ⟨k1, k2⟩ := m3 ne
        refine ⟨_, rfl, _, rfl, d, _, _, _, rfl, rfl, sameT z2 hd, iv_g (by omega), _, rfl, _, rfl, b, _, _, _, rfl, rfl, sameT z2 hb, iv_g (by omega), _, _, rfl, rfl, _, bl_f (by omega), iteF ?_⟩
        refine ⟨_, rfl, _, rfl, d, _, _, _, rfl, rfl, sameT z2 hd, iv_g (by omega), _, rfl, _, rfl, b, _, _, _, rfl, rfl, sameT z2 hb, iv_g (by omega), _, _, rfl, rfl, _, bl_f (by omega), iteF ?_⟩
        exact ⟨_, _, _, rfl, z2⟩
      · exact ⟨_, _, _, rfl, z2⟩
    · rintro σ H' ⟨_, _, _, rfl, z⟩
      exact q _ z
end
end LX

/-! LD3: a change is least: needless, is_minimal, is_least. -/
namespace LX
open PySem L2 LR
/-- no bucket moves needlessly -/
def NoNeed (as cs : List Nat) : Prop := ∀ (i v c : Nat), as[i]? = some v → cs[i]? = some c → c ≠ v → cs.count v < as.count v ∧ as.count c < cs.count c
def spFirstN : Sp := fun vs H Q _ => ∃ (a o : Addr) (as cs : List Nat) (k : Nat), vs = [.int (k : Nat), .ref a, .ref o] ∧ FT H a (iv as) ∧ FT H o (iv cs) ∧ as.length = cs.length ∧ k ≤ 1000 ∧ (∀ n ∈ as, n < k) ∧ (∀ n ∈ cs, n < k) ∧ NoNeed as cs ∧ ∀ H', Same H H' → Q .non H'
def spMinimal (r : V) : Sp := fun vs H Q _ => ∃ (a o : Addr) (as cs : List Nat) (k : Nat), vs = [.int (k : Nat), .ref a, .ref o] ∧ FT H a (iv as) ∧ FT H o (iv cs) ∧ as.length = cs.length ∧ as.length ≤ 20 ∧ 1 ≤ k ∧ k ≤ 5 ∧ (∀ n ∈ as, n < k) ∧ (∀ n ∈ cs, n < k) ∧ NoNeed as cs ∧ ∀ H', Same H H' → Q r H'
def spIsLeast (K : PySem.W.Frag) : Sp := fun vs H Q _ => ∃ (a b o : Addr) (al as cs : List Nat), vs = [.ref a, .ref b, .ref o] ∧ AlAt K H a al ∧ FT H b (iv as) ∧ FT H o (iv cs) ∧ as.length = cs.length ∧ (∀ n ∈ as, n < al.length) ∧ (∀ n ∈ cs, n < al.length) ∧ LM.cnts al.length cs = al ∧ NoNeed as cs ∧ ∀ H', Same H H' → Q (.bl true) H'
section
variable {P : Program} {w : World} {K : PySem.W.Frag} {mg : Str → Option Value} {base : Heap}
theorem noNeed_cnts {as cs : List Nat} {k : Nat} (h1 : ∀ n ∈ as, n < k) (h2 : ∀ n ∈ cs, n < k) (h : NoNeed as cs) :
    ∀ (i v c : Nat), as[i]? = some v → cs[i]? = some c → v < (LM.cnts k as).length ∧ c < (LM.cnts k as).length ∧ (c ≠ v → LM.g (LM.cnts k cs) v < LM.g (LM.cnts k as) v ∧ LM.g (LM.cnts k as) c < LM.g (LM.cnts k cs) c) := fun i v c hv hc => by
  have k1 := h1 v (List.mem_of_getElem? hv)
  have k2 := h2 c (List.mem_of_getElem? hc)
  rw [LM.cnts_len]
  refine ⟨k1, k2, fun n => ?_⟩
  rw [LM.g_cnts k1, LM.g_cnts k1, LM.g_cnts k2, LM.g_cnts k2]
  exact h i v c hv hc n
theorem scFirstN : FnScope ["variants", "assignment", "other"] ["variants", "assignment", "other"] (defScope sFirstN) := ⟨rfl, rfl, rfl, by decide +kernel, rfl, by decide +kernel, by decide +kernel⟩
theorem ok_firstN {f : Addr} {fd : FuncData} (F : Fun K "first_needless" "first_needless" sFirstN f fd) (DC : Dfn P w K mg base 1 "counts_of" ["assignment", "variants"] spCounts)
    (DN : Dfn P w K mg base 1 "needless_move" ["before", "behind", "assignment", "other"] (spNMove K)) : FnOk P w K mg base CX0 2 f fd ["variants", "assignment", "other"] spFirstN := by
  refine F.ok scFirstN (fun vs H Q E h => ?_) (fun cdv A outer s H vs Q E hr h => ?_)
  · obtain ⟨a, o, as, cs, k, rfl, _⟩ := h
    rfl
  · obtain ⟨a, o, as, cs, k, rfl, ha, ho, hl, hk, h1, h2, hn, q⟩ := h
    refine ⟨_, pss_one (ps_ret (pe_d DN hr (Nat.le_refl _) (by rfl) (pa_cons (pe_d DC hr (Nat.le_refl _) (by rfl) (pa_cons (pv 1) (pa_cons (pv 0) pa_nil))) (pa_cons (pe_d DC hr (Nat.le_refl _) (by rfl) (pa_cons (pv 2) (pa_cons (pv 0) pa_nil))) (pa_cons (pv 1) (pa_cons (pv 2) pa_nil)))))), ?_⟩
    refine ⟨_, rfl, _, rfl, a, as, k, rfl, ha, hk, fun p1 H1 z1 n1 e1 => ?_⟩
    refine ⟨_, rfl, _, rfl, o, cs, k, rfl, ho.same z1, hk, fun p2 H2 z2 n2 e2 => ?_⟩
    refine ⟨_, rfl, _, rfl, p1, p2, a, o, _, _, as, cs, rfl, .inl (.inl (z2 _ _ e1)), .inl (.inl e2), (ha.same (z1.trans z2)).seq, (ho.same (z1.trans z2)).seq, by rw [LM.cnts_len, LM.cnts_len], hl, noNeed_cnts h1 h2 hn, fun H3 z3 => ?_⟩
    exact q _ ((z1.trans z2).trans z3)
theorem scNeedless : FnScope ["variants", "assignment", "other"] ["variants", "assignment", "other"] (defScope sNeedless) := ⟨rfl, rfl, rfl, by decide +kernel, rfl, by decide +kernel, by decide +kernel⟩
theorem ok_needless {f : Addr} {fd : FuncData} (F : Fun K "needless" "needless" sNeedless f fd) (T : Txt K mg) (DV : Dfn P w K mg base 2 "check_variants" ["variants"] spChkVar) (DA : Dfn P w K mg base 3 "is_assignment" ["value", "variants", "buckets"] (spIsAssign K))
    (DF : Dfn P w K mg base 2 "first_needless" ["variants", "assignment", "other"] spFirstN) : FnOk P w K mg base CX0 4 f fd ["variants", "assignment", "other"] (spMinimal .non) := by
  refine F.ok scNeedless (fun vs H Q E h => ?_) (fun cdv A outer s H vs Q E hr h => ?_)
  · obtain ⟨a, o, as, cs, k, rfl, _⟩ := h
    rfl
  · obtain ⟨a, o, as, cs, k, rfl, ha, ho, hl, h20, hk1, hk5, h1, h2, hn, q⟩ := h
    obtain ⟨t20, mb⟩ := T.mb
    refine ⟨_, pss_cons (ps_expr (pe_d DV hr (by decide) (by rfl) (pa_cons (pv 0) pa_nil)))
      (pss_cons (ps_if (PW.pt (pw_or (pt_not (pt_val (pe_callB call_isi (by rfl) T.isi (by decide +kernel) (pa_cons (pv 1) (pa_cons (pe_bltn (v := .ty "tuple") (by rfl) T.tuple (by decide +kernel) rfl) pa_nil)))))
        (pw_or1 (pt_cmpR op_gt (pe_callB call_len_seq (by rfl) T.len PySem.boot_len (pa_cons (pv 1) pa_nil)) (pe_glob (v := .int 20) (by rfl) mb ⟨_, rfl⟩) (nomark _))))) pss_never pss_nil)
      (pss_cons (ps_if (pt_not (pt_val (pe_d DA hr (Nat.le_refl _) (by rfl) (pa_cons (pv 1) (pa_cons (pv 0) (pa_cons (pe_callB call_len_seq (by rfl) T.len PySem.boot_len (pa_cons (pv 1) pa_nil)) pa_nil)))))) pss_never pss_nil)
      (pss_cons (ps_if (pt_not (pt_val (pe_d DA hr (Nat.le_refl _) (by rfl) (pa_cons (pv 2) (pa_cons (pv 0) (pa_cons (pe_callB call_len_seq (by rfl) T.len PySem.boot_len (pa_cons (pv 1) pa_nil)) pa_nil)))))) pss_never pss_nil)
      (pss_one (ps_ret (pe_d DF hr (by decide) (by rfl) (pa_cons (pv 0) (pa_cons (pv 1) (pa_cons (pv 2) pa_nil))))))))), ?_⟩
    have la : (iv as).length = as.length := iv_len
    refine ⟨_, rfl, k, rfl, hk1, hk5, ?_⟩
    refine ⟨_, rfl, _, _, _, _, true, rfl, .ty "tuple", tyT ha.seq, kit_ty (by decide +kernel), true, rfl, iteF ?_⟩
    refine ⟨_, rfl, a, _, rfl, .inr ha.seq, _, _, rfl, rfl, _, bl_f (by omega), iteF ?_⟩
    refine ⟨_, rfl, _, rfl, _, rfl, a, _, rfl, .inr ha.seq, a, as, k, ?_, ha.seq, by omega, h1, fun H1 z1 => ⟨true, rfl, iteF ?_⟩⟩
    · rw [la]
      rfl
    refine ⟨_, rfl, _, rfl, _, rfl, a, _, rfl, .inr (ha.same z1).seq, o, cs, k, ?_, (ho.same z1).seq, by omega, h2, fun H2 z2 => ⟨true, rfl, iteF ?_⟩⟩
    · rw [la, hl]
      rfl
    refine ⟨_, rfl, _, rfl, _, rfl, a, o, as, cs, k, rfl, ha.same (z1.trans z2), ho.same (z1.trans z2), hl, by omega, h1, h2, hn, fun H3 z3 => ?_⟩
    exact q _ ((z1.trans z2).trans z3)
theorem scMinimal : FnScope ["variants", "assignment", "other"] ["variants", "assignment", "other"] (defScope sMinimal) := ⟨rfl, rfl, rfl, by decide +kernel, rfl, by decide +kernel, by decide +kernel⟩
theorem ok_minimal {f : Addr} {fd : FuncData} (F : Fun K "is_minimal" "is_minimal" sMinimal f fd) (DN : Dfn P w K mg base 4 "needless" ["variants", "assignment", "other"] (spMinimal .non)) : FnOk P w K mg base CX0 5 f fd ["variants", "assignment", "other"] (spMinimal (.bl true)) := by
  refine F.ok scMinimal (fun vs H Q E h => ?_) (fun cdv A outer s H vs Q E hr h => ?_)
  · obtain ⟨a, o, as, cs, k, rfl, _⟩ := h
    rfl
  · obtain ⟨a, o, as, cs, k, rfl, ha, ho, hl, h20, hk1, hk5, h1, h2, hn, q⟩ := h
    refine ⟨_, pss_one (ps_ret (pe_cmpR op_isN (pe_d DN hr (Nat.le_refl _) (by rfl) (pa_cons (pv 0) (pa_cons (pv 1) (pa_cons (pv 2) pa_nil)))) pe_non (nomark _))), ?_⟩
    refine ⟨_, rfl, _, rfl, _, rfl, a, o, as, cs, k, rfl, ha, ho, hl, h20, hk1, hk5, h1, h2, hn, fun H' z => ⟨rfl, ?_⟩⟩
    exact q _ z
theorem scIsLeast : FnScope ["allocation", "assignment", "other", "counts"] ["allocation", "assignment", "other"] (defScope sIsLeast) := ⟨rfl, rfl, rfl, by decide +kernel, rfl, by decide +kernel, by decide +kernel⟩
theorem ok_isLeast {f : Addr} {fd : FuncData} (F : Fun K "is_least" "is_least" sIsLeast f fd) (T : Txt K mg) (DC : Dfn P w K mg base 1 "counts_of" ["assignment", "variants"] spCounts)
    (DN : Dfn P w K mg base 1 "needless_move" ["before", "behind", "assignment", "other"] (spNMove K)) : FnOk P w K mg base CX0 2 f fd ["allocation", "assignment", "other"] (spIsLeast K) := by
  refine F.ok scIsLeast (fun vs H Q E h => ?_) (fun cdv A outer s H vs Q E hr h => ?_)
  · obtain ⟨a, b, o, al, as, cs, rfl, _⟩ := h
    rfl
  · obtain ⟨a, b, o, al, as, cs, rfl, hA, hb, ho, hl, h1, h2, hc, hn, q⟩ := h
    have hu : (cxOf CX0 P w K mg base ["allocation", "assignment", "other", "counts"] "is_least" (defScope sIsLeast) f cdv A outer s H E).nox.A.units + 64 < cLine := hr.units
    have hal5 := hA.2.2.1
    refine ⟨_, pss_cons (ps_set (i := 3) scIsLeast.nd rfl (Or.inl rfl) (pe_callTy call_tupleT (by rfl) T.tuple (by decide +kernel) (pa_cons (pe_d DC hr (Nat.le_refl _) (by rfl) (pa_cons (pv 2) (pa_cons (pe_callB call_len_seq (by rfl) T.len PySem.boot_len (pa_cons (pv 0) pa_nil)) pa_nil))) pa_nil)))
      (pss_cons (ps_if (pt_cmpR (op_neD hu) (pv 3) (pv 0) (nomark _)) (pss_one (ps_ret pe_bl)) pss_nil)
      (pss_one (ps_ret (pe_cmpR op_isN (pe_d DN hr (Nat.le_refl _) (by rfl) (pa_cons (pe_d DC hr (Nat.le_refl _) (by rfl) (pa_cons (pv 1) (pa_cons (pe_callB call_len_seq (by rfl) T.len PySem.boot_len (pa_cons (pv 0) pa_nil)) pa_nil))) (pa_cons (pv 0) (pa_cons (pv 1) (pa_cons (pv 2) pa_nil))))) pe_non (nomark _))))), ?_⟩
    have la : (iv al).length = al.length := iv_len
    refine ⟨_, rfl, _, rfl, a, _, rfl, .inr hA.1, o, cs, al.length, by rw [la]; rfl, ho, by omega, fun p1 H1 z1 n1 e1 => ?_⟩
    refine ⟨p1, _, rfl, .inl (.inl e1), ?_⟩
    rw [hc] at e1
    refine ⟨_, rfl, _, rfl, _, _, dp_iv (.inl (.inl e1)), dp_iv (sameT z1 hA.1), shaped_dts _, shaped_dts _, _, rfl, ?_⟩
    rw [eqv_tup, decide_eq_true rfl]
    refine iteF ?_
    refine ⟨_, rfl, _, rfl, a, _, rfl, .inr (sameT z1 hA.1), b, as, al.length, by rw [la]; rfl, hb.same z1, by omega, fun p2 H2 z2 n2 e2 => ?_⟩
    have zz := z1.trans z2
    have hm := noNeed_cnts h1 h2 hn
    rw [hc] at hm
    refine ⟨_, rfl, _, rfl, _, rfl, p2, a, b, o, _, al, as, cs, rfl, .inl (.inl e2), sameT zz hA.1, (hb.same zz).seq, (ho.same zz).seq, by rw [LM.cnts_len], hl, hm, fun H3 z3 => ⟨rfl, ?_⟩⟩
    exact q _ (zz.trans z3)
end
end LX

/-! LD4: the class Moves. -/
namespace LX
open PySem L2 LR
/-! ### the attributes of a Moves -/
def mf (a lw ll le : Addr) : List (Str × V) := putF "entering" (.ref le) (putF "leaving" (.ref ll) (putF "waiting" (.ref lw) (putF "assignment" (.ref a) [])))
theorem nWA : ¬ (("waiting" : Str) = "assignment") := by decide +kernel
theorem nLA : ¬ (("leaving" : Str) = "assignment") := by decide +kernel
theorem nEA : ¬ (("entering" : Str) = "assignment") := by decide +kernel
theorem nLW : ¬ (("leaving" : Str) = "waiting") := by decide +kernel
theorem nEW : ¬ (("entering" : Str) = "waiting") := by decide +kernel
theorem nEL : ¬ (("entering" : Str) = "leaving") := by decide +kernel
section
variable (a lw ll le : Addr)
theorem mf_a : (mf a lw ll le).lookup ("assignment" : Str) = some (.ref a) := by
  unfold mf
  rw [lookup_putF, if_neg (fun q => nEA q.symm), lookup_putF, if_neg (fun q => nLA q.symm), lookup_putF, if_neg (fun q => nWA q.symm), lookup_putF, if_pos rfl]
theorem mf_w : (mf a lw ll le).lookup ("waiting" : Str) = some (.ref lw) := by
  unfold mf
  rw [lookup_putF, if_neg (fun q => nEW q.symm), lookup_putF, if_neg (fun q => nLW q.symm), lookup_putF, if_pos rfl]
theorem mf_l : (mf a lw ll le).lookup ("leaving" : Str) = some (.ref ll) := by
  unfold mf
  rw [lookup_putF, if_neg (fun q => nEL q.symm), lookup_putF, if_pos rfl]
theorem mf_e : (mf a lw ll le).lookup ("entering" : Str) = some (.ref le) := by
  unfold mf
  rw [lookup_putF, if_pos rfl]
theorem mf_no {x : Str} (h1 : ¬ x = "assignment") (h2 : ¬ x = "waiting") (h3 : ¬ x = "leaving") (h4 : ¬ x = "entering") : (mf a lw ll le).lookup x = none := by
  unfold mf
  rw [lookup_putF, if_neg h4, lookup_putF, if_neg h3, lookup_putF, if_neg h2, lookup_putF, if_neg h1]
  rfl
end
theorem putF_len (x : Str) (v : V) : ∀ fs : List (Str × V), (putF x v fs).length ≤ fs.length + 1
  | [] => Nat.le_refl _
  | (y, u) :: r => by
    have ih := putF_len x v r
    unfold putF
    split
    · simp
    · simp only [List.length_cons]; omega
/-- what the class is, as the top has made it -/
structure ClM (K : PySem.W.Frag) (mg : Str → Option Value) (C : Addr) : Prop where
  cl : Cls K C
  nA : NoAttr K C "assignment"
  nW : NoAttr K C "waiting"
  nL : NoAttr K C "leaving"
  nE : NoAttr K C "entering"
/-- the moves at p: of the assignment at a, with the three lists -/
structure MvAt (C : Addr) (H : Hp) (p a lw ll le : Addr) (m : LM.M) : Prop where
  ob : ∃ dx, H p = some (.ins C dx (mf a lw ll le))
  hw : H lw = some (.lst (iv m.w))
  hl : H ll = some (.lst (iv m.l))
  he : H le = some (.lst (iv m.e))
  nwl : lw ≠ ll
  nwe : lw ≠ le
  nle : ll ≠ le
theorem MvAt.same {C : Addr} {H H' : Hp} {p a lw ll le : Addr} {m : LM.M} (h : MvAt C H p a lw ll le m) (s : Same H H') : MvAt C H' p a lw ll le m :=
  ⟨let ⟨dx, e⟩ := h.ob; ⟨dx, s _ _ e⟩, s _ _ h.hw, s _ _ h.hl, s _ _ h.he, h.nwl, h.nwe, h.nle⟩
/-- all is kept but these three -/
def But3 (lw ll le : Addr) (H H' : Hp) : Prop := ∀ b o, H b = some o → b ≠ lw → b ≠ ll → b ≠ le → H' b = some o
theorem ixN_n {n j : Nat} (hj : j < n) : ixN n (j : Int) = some j := by
  unfold ixN
  rw [if_pos (by omega), if_pos (by omega)]
  simp
/-! ### promises -/
def SqA (K : PySem.W.Frag) (H : Hp) (a : Addr) (xs : List V) : Prop := SqL K H a xs ∨ SqT K H a xs
def spInit (K : PySem.W.Frag) (C : Addr) : Sp := fun vs H Q _ => ∃ (p dx a x1 x2 x3 : Addr) (m : LM.M), vs = [.ref p, .ref a, .ref x1, .ref x2, .ref x3] ∧ H p = some (.ins C dx []) ∧ SqA K H x1 (iv m.w) ∧ SqA K H x2 (iv m.l) ∧ SqA K H x3 (iv m.e) ∧ p ≠ x1 ∧ p ≠ x2 ∧ p ≠ x3 ∧
  ∀ (lw ll le : Addr) (H' : Hp), MvAt C H' p a lw ll le m → (∀ b o, H b = some o → b ≠ p → H' b = some o) → H lw = none → H ll = none → H le = none → Q .non H'
/-- the options of a bucket -/
def spOptions (K : PySem.W.Frag) (C : Addr) : Sp := fun vs H Q _ => ∃ (p a lw ll le : Addr) (m : LM.M) (as : List Nat) (i v : Nat), vs = [.ref p, .int (i : Nat)] ∧ MvAt C H p a lw ll le m ∧ SqT K H a (iv as) ∧ as[i]? = some v ∧ v < m.w.length ∧ m.l.length = m.w.length ∧ m.e.length = m.w.length ∧ m.w.length ≤ 5 ∧
  (LM.g m.l v = 0 ∨ LM.g m.e v = 0) ∧ ∀ (q : Addr) (H' : Hp), Same H H' → H q = none → H' q = some (.lst (iv (LM.opts m v))) → Q (.ref q) H'
def spTake (K : PySem.W.Frag) (C : Addr) : Sp := fun vs H Q _ => ∃ (p a lw ll le : Addr) (m : LM.M) (as : List Nat) (i v c : Nat), vs = [.ref p, .int (i : Nat), .int (c : Nat)] ∧ MvAt C H p a lw ll le m ∧ SqT K H a (iv as) ∧ as[i]? = some v ∧ v < m.w.length ∧ v < m.l.length ∧ c < m.e.length ∧ 0 < LM.g m.w v ∧
  (c ≠ v → 0 < LM.g m.l v ∧ 0 < LM.g m.e c) ∧ ∀ H' : Hp, MvAt C H' p a lw ll le (LM.tk m v c) → But3 lw ll le H H' → Q .non H'
def spMovesOf (K : PySem.W.Frag) (C : Addr) : Sp := fun vs H Q _ => ∃ (a b : Addr) (al as : List Nat), vs = [.ref a, .ref b] ∧ AlAt K H a al ∧ FT H b (iv as) ∧
  ∀ (p lw ll le : Addr) (H' : Hp), MvAt C H' p b lw ll le (LM.m0 al as) → Same H H' → H p = none → H lw = none → H ll = none → H le = none → Q (.ref p) H'

/-! ### the options: sorted -/
def fnd (m : LM.M) (v : Nat) : List Nat := (if LM.g m.l v < LM.g m.w v then [v] else []) ++ (if 0 < LM.g m.l v then (List.range m.e.length).filter (fun c => decide (0 < LM.g m.e c)) else [])
theorem fnd_perm {m : LM.M} {v : Nat} (hv : v < m.w.length) (he : m.e.length = m.w.length) (dj : LM.g m.l v = 0 ∨ LM.g m.e v = 0) : (fnd m v).Perm (LM.opts m v) := by
  have n1 : (LM.opts m v).Nodup := (LM.asc_opts m v).imp fun h => Nat.ne_of_lt h
  have n2 : (fnd m v).Nodup := by
    unfold fnd
    have nf : ((List.range m.e.length).filter (fun c => decide (0 < LM.g m.e c))).Nodup := List.Pairwise.filter _ List.nodup_range
    by_cases h1 : LM.g m.l v < LM.g m.w v
    · by_cases h2 : 0 < LM.g m.l v
      · rw [if_pos h1, if_pos h2]
        refine List.nodup_cons.mpr ⟨fun q => ?_, nf⟩
        have := of_decide_eq_true (List.mem_filter.mp q).2
        omega
      · rw [if_pos h1, if_neg h2]
        simp
    · by_cases h2 : 0 < LM.g m.l v
      · rw [if_neg h1, if_pos h2]
        exact nf
      · rw [if_neg h1, if_neg h2]
        simp
  refine (List.perm_ext_iff_of_nodup n2 n1).mpr fun c => ?_
  rw [LM.mem_opts, LM.can_iff]
  unfold fnd
  rw [List.mem_append]
  constructor
  · rintro (h | h)
    · by_cases h1 : LM.g m.l v < LM.g m.w v
      · rw [if_pos h1] at h
        have e := List.mem_singleton.mp h
        subst e
        exact ⟨hv, .inl ⟨rfl, h1⟩⟩
      · rw [if_neg h1] at h
        cases h
    · by_cases h2 : 0 < LM.g m.l v
      · rw [if_pos h2] at h
        obtain ⟨k1, k2⟩ := List.mem_filter.mp h
        have k1 := List.mem_range.mp k1
        exact ⟨by omega, .inr ⟨h2, of_decide_eq_true k2⟩⟩
      · rw [if_neg h2] at h
        cases h
  · rintro ⟨hc, ⟨e, h1⟩ | ⟨h2, h3⟩⟩
    · left
      rw [if_pos h1, e]
      simp
    · right
      rw [if_pos h2]
      exact List.mem_filter.mpr ⟨List.mem_range.mpr (by omega), decide_eq_true h3⟩
theorem sorted_fnd {m : LM.M} {v : Nat} {ns : List Int} (hv : v < m.w.length) (he : m.e.length = m.w.length) (dj : LM.g m.l v = 0 ∨ LM.g m.e v = 0) (hp : ns.Perm (up (fnd m v))) (hs : ns.Pairwise (· ≤ ·)) : ns = up (LM.opts m v) := by
  have p2 : ns.Perm (up (LM.opts m v)) := hp.trans ((fnd_perm hv he dj).map _)
  have s2 : (up (LM.opts m v)).Pairwise (· ≤ ·) := by
    unfold up
    rw [List.pairwise_map]
    exact (LM.asc_opts m v).imp fun h => by omega
  exact List.Perm.eq_of_pairwise (fun a b _ _ h1 h2 => Int.le_antisymm h1 h2) hs s2 p2

section
variable {P : Program} {w : World} {K : PySem.W.Frag} {mg : Str → Option Value} {base : Heap}
theorem scInit : FnScope ["self", "assignment", "waiting", "leaving", "entering"] ["self", "assignment", "waiting", "leaving", "entering"] (defScope sInit) := ⟨rfl, rfl, rfl, by decide +kernel, rfl, by decide +kernel, by decide +kernel⟩
theorem sqA_keep {H H' : Hp} {x : Addr} {xs : List V} (h : SqA K H x xs) (k : ∀ o, H x = some o → H' x = some o) : SqA K H' x xs := by
  rcases h with ((h | ⟨o, h⟩) | h) | ((h | ⟨o, h⟩) | h)
  · exact .inl (.inl (.inl (k _ h)))
  · exact .inl (.inl (.inr ⟨o, k _ h⟩))
  · exact .inl (.inr h)
  · exact .inr (.inl (.inl (k _ h)))
  · exact .inr (.inl (.inr ⟨o, k _ h⟩))
  · exact .inr (.inr h)
theorem ok_init {f C : Addr} {fd : FuncData} (F : Fun K "__init__" "Moves.__init__" sInit f fd) (T : Txt K mg) (c : ClM K mg C) : FnOk P w K mg base CX0 1 f fd ["self", "assignment", "waiting", "leaving", "entering"] (spInit K C) := by
  refine F.ok scInit (fun vs H Q E h => ?_) (fun cdv A outer s H vs Q E hr h => ?_)
  · obtain ⟨p, dx, a, x1, x2, x3, m, rfl, _⟩ := h
    rfl
  · obtain ⟨p, dx, a, x1, x2, x3, m, rfl, hp, h1, h2, h3, p1, p2, p3, q⟩ := h
    refine ⟨_, pss_cons (ps_fld (pv 0) (pv 1) rfl) (pss_cons (ps_fld (pv 0) (pe_callTy call_list_of (by rfl) T.list (by decide +kernel) (pa_cons (pv 2) pa_nil)) rfl)
      (pss_cons (ps_fld (pv 0) (pe_callTy call_list_of (by rfl) T.list (by decide +kernel) (pa_cons (pv 3) pa_nil)) rfl) (pss_one (ps_fld (pv 0) (pe_callTy call_list_of (by rfl) T.list (by decide +kernel) (pa_cons (pv 4) pa_nil)) rfl)))), ?_⟩
    -- self.assignment = assignment
    refine ⟨_, rfl, _, rfl, p, C, dx, [], rfl, hp, c.cl, c.nA, (by show 0 < 1000; decide), ?_⟩
    have np : ∀ {x : Addr} {o : HO}, x ≠ p → H x = some o → upd H p (.ins C dx (putF "assignment" (.ref a) [])) x = some o := fun n e => by rw [upd_ne n]; exact e
    -- self.waiting = list(waiting)
    refine ⟨_, rfl, x1, _, rfl, sqA_keep h1 (fun o e => np p1.symm e), fun lw nw => ?_⟩
    have nwp : lw ≠ p := fun e => by rw [e, upd_same] at nw; cases nw
    have hw0 : H lw = none := by rw [upd_ne nwp] at nw; exact nw
    refine ⟨_, rfl, p, C, dx, _, rfl, by rw [upd_ne nwp.symm, upd_same], c.cl, c.nW, (by show 1 < 1000; decide), ?_⟩
    -- self.leaving = list(leaving)
    refine ⟨_, rfl, x2, _, rfl, sqA_keep h2 (fun o e => by rw [upd_ne p2.symm, upd_ne (ne_of_none e hw0)]; exact np p2.symm e), fun ll nl => ?_⟩
    have nlp : ll ≠ p := fun e => by rw [e, upd_same] at nl; cases nl
    have nlw : ll ≠ lw := fun e => by rw [upd_ne nlp, e, upd_same] at nl; cases nl
    have hl0 : H ll = none := by rw [upd_ne nlp, upd_ne nlw, upd_ne nlp] at nl; exact nl
    refine ⟨_, rfl, p, C, dx, _, rfl, by rw [upd_ne nlp.symm, upd_same], c.cl, c.nL, Nat.lt_of_le_of_lt (putF_len _ _ _) (by show 2 < 1000; decide), ?_⟩
    -- self.entering = list(entering)
    refine ⟨_, rfl, x3, _, rfl, sqA_keep h3 (fun o e => by rw [upd_ne p3.symm, upd_ne (ne_of_none e hl0), upd_ne p3.symm, upd_ne (ne_of_none e hw0)]; exact np p3.symm e), fun le ne => ?_⟩
    have nep : le ≠ p := fun e => by rw [e, upd_same] at ne; cases ne
    have nel : le ≠ ll := fun e => by rw [upd_ne nep, e, upd_same] at ne; cases ne
    have new : le ≠ lw := fun e => by rw [upd_ne nep, upd_ne nel, upd_ne nep, e, upd_same] at ne; cases ne
    have he0 : H le = none := by rw [upd_ne nep, upd_ne nel, upd_ne nep, upd_ne new, upd_ne nep] at ne; exact ne
    refine ⟨_, rfl, p, C, dx, _, rfl, by rw [upd_ne nep.symm, upd_same], c.cl, c.nE, Nat.lt_of_le_of_lt (putF_len _ _ _) (Nat.lt_of_le_of_lt (Nat.succ_le_succ (putF_len _ _ _)) (by show 3 < 1000; decide)), ?_⟩
    refine q lw ll le _ ⟨⟨dx, upd_same⟩, ?_, ?_, ?_, nlw.symm, new.symm, nel.symm⟩ (fun b o e nb => ?_) hw0 hl0 he0
    · rw [upd_ne nwp, upd_ne new.symm, upd_ne nwp, upd_ne nlw.symm, upd_ne nwp, upd_same]
    · rw [upd_ne nlp, upd_ne nel.symm, upd_ne nlp, upd_same]
    · rw [upd_ne nep, upd_same]
    · rw [upd_ne nb, upd_ne (ne_of_none e he0), upd_ne nb, upd_ne (ne_of_none e hl0), upd_ne nb, upd_ne (ne_of_none e hw0), upd_ne nb]
      exact e
theorem scTake : FnScope ["self", "bucket", "chosen", "variant"] ["self", "bucket", "chosen"] (defScope sTake) := ⟨rfl, rfl, rfl, by decide +kernel, rfl, by decide +kernel, by decide +kernel⟩
theorem ok_take {f C : Addr} {fd : FuncData} (F : Fun K "take" "Moves.take" sTake f fd) (c : ClM K mg C) : FnOk P w K mg base CX0 1 f fd ["self", "bucket", "chosen"] (spTake K C) := by
  refine F.ok scTake (fun vs H Q E h => ?_) (fun cdv A outer s H vs Q E hr h => ?_)
  · obtain ⟨p, a, lw, ll, le, m, as, i, v, c, rfl, _⟩ := h
    rfl
  · obtain ⟨p, a, lw, ll, le, m, as, i, v, ch, rfl, ⟨⟨dx, ho⟩, hw, hl, he, nwl, nwe, nle⟩, ha, hv, v1, v2, c1, w1, hc, q⟩ := h
    have nd := scTake.nd
    have npw : p ≠ lw := ne_of ho hw (by intro z; cases z)
    have npl : p ≠ ll := ne_of ho hl (by intro z; cases z)
    have npe : p ≠ le := ne_of ho he (by intro z; cases z)
    refine ⟨_, pss_cons (ps_set (i := 3) nd rfl (Or.inl rfl) (pe_ix ix_tup (pe_fld (pv 0) rfl) (pv 1) (fun _ _ => rfl)))
      (pss_cons (ps_asg (pe_op op_sub (pe_ix ix_list (pe_fld (pv 0) rfl) (pv 3) (fun _ _ => rfl)) pe_int) (pg_sub (pe_fld (pv 0) rfl) (pv 3) set_list))
      (pss_one (ps_if (pt_cmpR op_ne (pv 2) (pv 3) (nomark _))
        (pss_cons (ps_asg (pe_op op_sub (pe_ix ix_list (pe_fld (pv 0) rfl) (pv 3) (fun _ _ => rfl)) pe_int) (pg_sub (pe_fld (pv 0) rfl) (pv 3) set_list))
        (pss_one (ps_asg (pe_op op_sub (pe_ix ix_list (pe_fld (pv 0) rfl) (pv 2) (fun _ _ => rfl)) pe_int) (pg_sub (pe_fld (pv 0) rfl) (pv 2) set_list)))) pss_nil))), ?_⟩
    refine ⟨_, rfl, p, C, dx, _, _, rfl, ho, c.cl, c.nA, mf_a _ _ _ _, _, rfl, a, _, _, _, rfl, rfl, ha, iv_i hv, ?_⟩
    refine ⟨_, rfl, p, C, dx, _, _, rfl, ho, c.cl, c.nW, mf_w _ _ _ _, _, rfl, lw, _, _, _, rfl, rfl, SqL.of hw, iv_g v1, _, _, rfl, rfl, ?_⟩
    refine ⟨_, rfl, p, C, dx, _, _, rfl, ho, c.cl, c.nW, mf_w _ _ _ _, _, rfl, lw, _, _, v, rfl, rfl, hw, ixN_n (by rw [iv_len]; exact v1), ?_⟩
    have ew : (iv m.w).set v (V.int ((LM.g m.w v : Int) - 1)) = iv (LM.dn m.w v) := by
      have e1 : ((LM.g m.w v : Int) - 1) = ((LM.g m.w v - 1 : Nat) : Int) := by omega
      rw [e1, iv_set]
      rfl
    rw [ew]
    refine ⟨_, rfl, _, rfl, rfl, _, rfl, ?_⟩
    refine ite2 (fun cne => ?_) (fun cne => ?_)
    · have ne : ch ≠ v := fun e => by
        rw [e] at cne
        simp at cne
      obtain ⟨l1, e1⟩ := hc ne
      have ho1 : upd H lw (.lst (iv (LM.dn m.w v))) p = some (.ins C dx (mf a lw ll le)) := by rw [upd_ne npw]; exact ho
      have hl1 : upd H lw (.lst (iv (LM.dn m.w v))) ll = some (.lst (iv m.l)) := by rw [upd_ne nwl.symm]; exact hl
      refine ⟨_, rfl, p, C, dx, _, _, rfl, ho1, c.cl, c.nL, mf_l _ _ _ _, _, rfl, ll, _, _, _, rfl, rfl, SqL.of hl1, iv_g v2, _, _, rfl, rfl, ?_⟩
      refine ⟨_, rfl, p, C, dx, _, _, rfl, ho1, c.cl, c.nL, mf_l _ _ _ _, _, rfl, ll, _, _, v, rfl, rfl, hl1, ixN_n (by rw [iv_len]; exact v2), ?_⟩
      have el : (iv m.l).set v (V.int ((LM.g m.l v : Int) - 1)) = iv (LM.dn m.l v) := by
        have e1 : ((LM.g m.l v : Int) - 1) = ((LM.g m.l v - 1 : Nat) : Int) := by omega
        rw [e1, iv_set]
        rfl
      rw [el]
      have ho2 : upd (upd H lw (.lst (iv (LM.dn m.w v)))) ll (.lst (iv (LM.dn m.l v))) p = some (.ins C dx (mf a lw ll le)) := by rw [upd_ne npl]; exact ho1
      have he2 : upd (upd H lw (.lst (iv (LM.dn m.w v)))) ll (.lst (iv (LM.dn m.l v))) le = some (.lst (iv m.e)) := by rw [upd_ne nle.symm, upd_ne nwe.symm]; exact he
      refine ⟨_, rfl, p, C, dx, _, _, rfl, ho2, c.cl, c.nE, mf_e _ _ _ _, _, rfl, le, _, _, _, rfl, rfl, SqL.of he2, iv_g c1, _, _, rfl, rfl, ?_⟩
      refine ⟨_, rfl, p, C, dx, _, _, rfl, ho2, c.cl, c.nE, mf_e _ _ _ _, _, rfl, le, _, _, ch, rfl, rfl, he2, ixN_n (by rw [iv_len]; exact c1), ?_⟩
      have ee : (iv m.e).set ch (V.int ((LM.g m.e ch : Int) - 1)) = iv (LM.dn m.e ch) := by
        have e1 : ((LM.g m.e ch : Int) - 1) = ((LM.g m.e ch - 1 : Nat) : Int) := by omega
        rw [e1, iv_set]
        rfl
      rw [ee]
      have et : LM.tk m v ch = ⟨LM.dn m.w v, LM.dn m.l v, LM.dn m.e ch⟩ := by
        unfold LM.tk
        rw [if_neg ne]
      refine q _ ?_ fun b o e n1 n2 n3 => by rw [upd_ne n3, upd_ne n2, upd_ne n1]; exact e
      rw [et]
      exact ⟨⟨dx, by rw [upd_ne npe]; exact ho2⟩, by rw [upd_ne nwe, upd_ne nwl, upd_same], by rw [upd_ne nle, upd_same], upd_same, nwl, nwe, nle⟩
    · have e : ch = v := by
        have z : decide (V.int (ch : Int) = V.int (v : Int)) = true := by
          cases zz : decide (V.int (ch : Int) = V.int (v : Int)) with
          | true => rfl
          | false =>
            rw [zz] at cne
            exact absurd rfl cne
        have z2 := V.int.inj (of_decide_eq_true z)
        omega
      have et : LM.tk m v ch = ⟨LM.dn m.w v, m.l, m.e⟩ := by
        unfold LM.tk
        rw [if_pos e]
      refine q _ ?_ fun b o e n1 n2 n3 => by rw [upd_ne n1]; exact e
      rw [et]
      exact ⟨⟨dx, by rw [upd_ne npw]; exact ho⟩, upd_same, by rw [upd_ne nwl.symm]; exact hl, by rw [upd_ne nwe.symm]; exact he, nwl, nwe, nle⟩
end
end LX

/-! LD5: options, moves_of. -/
namespace LX
open PySem L2 LR
section
variable {P : Program} {w : World} {K : PySem.W.Frag} {mg : Str → Option Value} {base : Heap}
theorem scOptions : FnScope ["self", "bucket", "variant", "found", "other", "many"] ["self", "bucket"] (defScope sOptions) := ⟨rfl, rfl, rfl, by decide +kernel, rfl, by decide +kernel, by decide +kernel⟩
theorem filter_step {p : Nat → Bool} {i : Nat} : (List.range (i + 1)).filter p = (List.range i).filter p ++ (if p i = true then [i] else []) := by
  rw [List.range_succ, List.filter_append]
  by_cases h : p i = true
  · rw [if_pos h, List.filter_cons_of_pos h]; rfl
  · rw [if_neg h, List.filter_cons_of_neg h]; rfl
theorem filter_len {p : Nat → Bool} {i : Nat} : ((List.range i).filter p).length ≤ i := by
  have h := List.length_filter_le p (List.range i)
  rw [List.length_range] at h
  exact h
theorem ok_options {f C : Addr} {fd : FuncData} (F : Fun K "options" "Moves.options" sOptions f fd) (T : Txt K mg) (c : ClM K mg C) : FnOk P w K mg base CX0 1 f fd ["self", "bucket"] (spOptions K C) := by
  refine F.ok scOptions (fun vs H Q E h => ?_) (fun cdv A outer s H vs Q E hr h => ?_)
  · obtain ⟨p, a, lw, ll, le, m, as, i, v, rfl, _⟩ := h
    rfl
  · obtain ⟨p, a, lw, ll, le, m, as, i, v, rfl, M, ha, hv, v1, e1, e2, e3, dj, q⟩ := h
    obtain ⟨dx, ho⟩ := M.ob
    have nd := scOptions.nd
    refine ⟨_, pss_cons (ps_set (i := 2) nd rfl (Or.inl rfl) (pe_ix ix_tup (pe_fld (pv 0) rfl) (pv 1) (fun _ _ => rfl)))
      (pss_cons (ps_set (i := 3) nd rfl (Or.inl rfl) (pe_lst pa_nil))
      (Evl.pss_cut (ps_if (pt_cmpR op_gt (pe_ix ix_list (pe_fld (pv 0) rfl) (pv 2) (fun _ _ => rfl)) (pe_ix ix_list (pe_fld (pv 0) rfl) (pv 2) (fun _ _ => rfl)) (nomark _))
        (pss_one (ps_expr (pe_bm PySem.F.plainAttrs_list PySem.F.slot_list_append PySem.F.type_list_append mt_append (pv 3) (pa_cons (pv 2) pa_nil)))) pss_nil)
      (Evl.pss_cut (ps_if (pt_cmpR op_gt (pe_ix ix_list (pe_fld (pv 0) rfl) (pv 2) (fun _ _ => rfl)) pe_int (nomark _))
        (pss_one (ps_set (i := 3) nd rfl (Or.inl rfl) (pe_op op_cat (pv 3) (pe_lc (own := [("other", 4), ("many", 5)]) (g := gTup K 2 (gCons (gName 4) (gCons (gName 5) gNil))) rfl nd (pi_enum (by rfl) T.enum (pa_cons (pe_fld (pv 0) rfl) pa_nil))
          (blkOk_by (own := [("other", 4), ("many", 5)]) (N := ["self", "bucket", "variant", "found", "other", "many"]) (sc := defScope sOptions) (by decide +kernel))
          (fun _ _ _ _ _ => pg_tup rfl (pgs_cons (pg_name (i := 4) nd rfl (Or.inl rfl)) (pgs_cons (pg_name (i := 5) nd rfl (Or.inl rfl)) pgs_nil)))
          (fun _ _ _ _ _ => pts_one (pt_cmpR op_gt (pv 5) pe_int (nomark _))) (fun _ _ _ _ _ => pv 4))))) pss_nil)
      (pss_one (ps_ret (pe_callB cr_sorted (by rfl) T.sorted (by decide +kernel) (pa_cons (pv 3) pa_nil))))))), ?_⟩
    -- variant = self.assignment[bucket]; found = []
    refine ⟨_, rfl, p, C, dx, _, _, rfl, ho, c.cl, c.nA, mf_a _ _ _ _, _, rfl, a, _, _, _, rfl, rfl, ha, iv_i hv, ?_⟩
    refine ⟨Nat.zero_le _, fun fo hfo => ?_⟩
    have z0 : Same H (upd H fo (.lst [])) := same_new hfo _
    refine ⟨fun σ' H' => σ' = [some (.ref p), some (.int (i : Nat)), some (.int (v : Nat)), some (.ref fo), none, none] ∧ Same H H' ∧ H' fo = some (.lst (iv (if LM.g m.l v < LM.g m.w v then [v] else []))), ?_, ?_⟩
    · have M0 := M.same z0
      refine ⟨_, rfl, p, C, dx, _, _, rfl, z0 _ _ ho, c.cl, c.nW, mf_w _ _ _ _, _, rfl, lw, _, _, _, rfl, rfl, SqL.of M0.hw, iv_g v1, ?_⟩
      refine ⟨_, rfl, p, C, dx, _, _, rfl, z0 _ _ ho, c.cl, c.nL, mf_l _ _ _ _, _, rfl, ll, _, _, _, rfl, rfl, SqL.of M0.hl, iv_g (by omega), _, _, rfl, rfl, _, rfl, ?_⟩
      refine ite2 (fun h1 => ?_) (fun h1 => ?_)
      · have h1' : LM.g m.l v < LM.g m.w v := by
          have := of_decide_eq_true h1
          omega
        refine ⟨_, rfl, .inl ⟨rfl, _, SqL.of upd_same⟩, _, rfl, fo, _, _, rfl, rfl, upd_same, (by show 0 < sizeLine; decide), ?_⟩
        refine ⟨rfl, ?_, ?_⟩
        · rw [upd_upd]
          exact same_new hfo _
        · rw [upd_same, if_pos h1']
          rfl
      · have h1' : ¬ LM.g m.l v < LM.g m.w v := fun z => h1 (decide_eq_true (by omega))
        refine ⟨rfl, z0, ?_⟩
        rw [upd_same, if_neg h1']
        rfl
    · rintro σ' H1 ⟨rfl, z1, hf1⟩
      have M1 := M.same z1
      refine ⟨fun σ' H' => ∃ f2 : Addr, σ' = [some (.ref p), some (.int (i : Nat)), some (.int (v : Nat)), some (.ref f2), none, none] ∧ Same H H' ∧ H' f2 = some (.lst (iv (fnd m v))), ?_, ?_⟩
      · refine ⟨_, rfl, p, C, dx, _, _, rfl, z1 _ _ ho, c.cl, c.nL, mf_l _ _ _ _, _, rfl, ll, _, _, _, rfl, rfl, SqL.of M1.hl, iv_g (by omega), _, _, rfl, rfl, _, rfl, ?_⟩
        refine ite2 (fun h1 => ?_) (fun h1 => ?_)
        · have h1' : 0 < LM.g m.l v := by
            have := of_decide_eq_true h1
            omega
          refine ⟨_, rfl, _, rfl, p, C, dx, _, _, rfl, z1 _ _ ho, c.cl, c.nE, mf_e _ _ _ _, le, _, rfl, SqL.of M1.he, fun D hD => ?_⟩
          refine lc_enum (K := K) (l := le) (us := iv m.e) (fun j H' => Same H1 H' ∧ H' D = some (.lst (iv ((List.range j).filter (fun x => decide (0 < LM.g m.e x)))))) ⟨same_new hD _, upd_same⟩ (fun j H' _ z => SqL.of (z.1 _ _ M1.he)) ?_ ?_
          · rintro j x T' H' hx ⟨z, zD⟩ hT
            obtain ⟨n, hn, rfl⟩ := iv_get hx
            have hj : j < m.e.length := (List.getElem?_eq_some_iff.mp hn).1
            have en : LM.g m.e j = n := by
              have := LM.g_at hj
              rw [hn] at this
              exact (Option.some.inj this).symm
            have nDT : D ≠ T' := ne_of_none zD hT
            refine ⟨T', _, rfl, .inl (.inl upd_same), rfl, _, _, rfl, _, _, rfl, rfl, rfl, ?_⟩
            refine ⟨_, rfl, _, _, rfl, rfl, _, rfl, ?_⟩
            refine ite2 (fun h2 => ?_) (fun h2 => ?_)
            · have h2' : 0 < n := by
                have := of_decide_eq_true h2
                omega
              refine ⟨_, rfl, _, by rw [upd_ne nDT]; exact zD, ?_, ?_, ?_⟩
              · rw [iv_len]
                exact small1000 (Nat.le_trans filter_len (by omega))
              · exact same_set hD (z.trans (same_new hT _))
              · rw [upd_same, filter_step, iv_one, iv_append, if_pos (by rw [en]; exact decide_eq_true h2')]
            · have h2' : ¬ 0 < n := fun z => h2 (decide_eq_true (by omega))
              refine ⟨z.trans (same_new hT _), ?_⟩
              rw [upd_ne nDT, zD, filter_step, if_neg (by rw [en]; simpa using h2'), List.append_nil]
          · rintro H' ⟨z, zD⟩
            refine ⟨fo, D, _, _, rfl, rfl, z _ _ hf1, zD, ?_, fun f2 hf2 => ?_⟩
            · rw [iv_len, iv_len, iv_len]
              have := filter_len (p := fun x => decide (0 < LM.g m.e x)) (i := m.e.length)
              have z3 : (if LM.g m.l v < LM.g m.w v then [v] else []).length ≤ 1 := by split <;> simp
              exact Nat.le_of_lt (small1000 (by omega))
            · refine ⟨f2, rfl, (z1.trans z).trans (same_new hf2 _), ?_⟩
              rw [upd_same, iv_append, iv_len]
              unfold fnd
              rw [if_pos h1']
        · have h1' : ¬ 0 < LM.g m.l v := fun z => h1 (decide_eq_true (by omega))
          refine ⟨fo, rfl, z1, ?_⟩
          rw [hf1]
          unfold fnd
          rw [if_neg h1', List.append_nil]
      · rintro σ' H2 ⟨f2, rfl, z2, hf2⟩
        refine ⟨_, rfl, f2, up (fnd m v), rfl, SqL.of hf2, ?_, fun ns' q' hp hs hq => ?_⟩
        · rw [up_len]
          have z4 : (fnd m v).length ≤ 1 + 5 := by
            unfold fnd
            rw [List.length_append]
            have z3 : (if LM.g m.l v < LM.g m.w v then [v] else []).length ≤ 1 := by split <;> simp
            have z5 : (if 0 < LM.g m.l v then (List.range m.e.length).filter (fun c => decide (0 < LM.g m.e c)) else []).length ≤ 5 := by
              split
              · exact Nat.le_trans filter_len (by omega)
              · exact Nat.zero_le _
            omega
          omega
        · have e := sorted_fnd v1 e2 dj hp hs
          subst e
          exact q q' _ (z2.trans (same_new hq _)) (z2.free hq) upd_same
theorem scMovesOf : FnScope ["allocation", "assignment", "counts", "before", "behind", "leaving"] ["allocation", "assignment"] (defScope sMovesOf) := ⟨rfl, rfl, rfl, by decide +kernel, rfl, by decide +kernel, by decide +kernel⟩
/-- the class is made by its __init__ -/
structure MkM (P : Program) (w : World) (K : PySem.W.Frag) (mg : Str → Option Value) (base : Heap) (C : Addr) : Prop where
  ex : ∃ (f : Addr) (fd : FuncData), FnOk P w K mg base CX0 1 f fd ["self", "assignment", "waiting", "leaving", "entering"] (spInit K C) ∧ Binds K fd ["self", "assignment", "waiting", "leaving", "entering"] [] ∧ Mk K C f ∧ mg "Moves" = some (.ref C)
theorem pe_mk {X : Cx} {j : Nat} {C : Addr} {e : Expr} {es : List Expr} {p pos : Pos} {t : TA} (D : MkM X.prog X.w X.K X.mg X.base C) (hr : Room j X.A) (hk : 2 ≤ j) (hg : Gl X "Moves") (ha : PA X (e :: es) t)
    (he : starEach (e :: es) X.env = (false, eval e X.env) :: starEach es X.env := by rfl) (hpl : (backTo pos (starEach es X.env)).any (·.1) = false := by rfl) :
    PE X (.Call (.Name "Moves" p) (e :: es) [] pos) (tMake C (spInit X.K C) [] E0 t) := by
  obtain ⟨f, fd, F, b, M, m⟩ := D.ex
  exact pe_make M F (hr.mono hk) hg m b .nil pass0 ha (by decide) he hpl
theorem zip_step {f : Nat → Nat → Nat} {xs ys : List Nat} {i x y : Nat} (hx : xs[i]? = some x) (hy : ys[i]? = some y) : List.zipWith f (xs.take (i + 1)) (ys.take (i + 1)) = List.zipWith f (xs.take i) (ys.take i) ++ [f x y] := by
  rw [List.take_add_one, List.take_add_one, hx, hy]
  have h1 : i < xs.length := (List.getElem?_eq_some_iff.mp hx).1
  have h2 : i < ys.length := (List.getElem?_eq_some_iff.mp hy).1
  rw [List.zipWith_append (by rw [List.length_take, List.length_take]; omega)]
  rfl
theorem ok_movesOf {f C : Addr} {fd : FuncData} (F : Fun K "moves_of" "moves_of" sMovesOf f fd) (T : Txt K mg) (DC : Dfn P w K mg base 1 "counts_of" ["assignment", "variants"] spCounts) (M : MkM P w K mg base C) : FnOk P w K mg base CX0 3 f fd ["allocation", "assignment"] (spMovesOf K C) := by
  refine F.ok scMovesOf (fun vs H Q E h => ?_) (fun cdv A outer s H vs Q E hr h => ?_)
  · obtain ⟨a, b, al, as, rfl, _⟩ := h
    rfl
  · obtain ⟨a, b, al, as, rfl, hA, hb, q⟩ := h
    have nd := scMovesOf.nd
    refine ⟨_, pss_cons (ps_set (i := 2) nd rfl (Or.inl rfl) (pe_d DC hr (by decide) (by rfl) (pa_cons (pv 1) (pa_cons (pe_callB call_len_seq (by rfl) T.len PySem.boot_len (pa_cons (pv 0) pa_nil)) pa_nil))))
      (pss_cons (ps_setLc (i := 5) (own := [("before", 3), ("behind", 4)]) (g := gTup K 2 (gCons (gName 3) (gCons (gName 4) gNil))) (tt := tYes) (by rfl) nd rfl rfl (sw_true rfl rfl rfl (by decide +kernel)) (RZ.pi_zipA (by rfl) T.zip (pa_cons (pv 2) (pa_cons (pv 0) pa_nil)))
          (blkOk_by (own := [("before", 3), ("behind", 4)]) (N := ["allocation", "assignment", "counts", "before", "behind", "leaving"]) (sc := defScope sMovesOf) (by decide +kernel))
          (fun _ _ _ _ _ => pg_tup rfl (pgs_cons (pg_name (i := 3) nd rfl (Or.inl rfl)) (pgs_cons (pg_name (i := 4) nd rfl (Or.inl rfl)) pgs_nil)))
          (fun _ _ _ _ _ => pts_nil) (fun _ _ _ _ _ => pe_callB (call_max2 rfl) (by rfl) T.max (by decide +kernel) (pa_cons pe_int (pa_cons (pe_op op_sub (pv 3) (pv 4)) pa_nil))))
      (pss_one (ps_ret (pe_mk M hr (by decide) (by rfl) (pa_cons (pv 1) (pa_cons (pv 2) (pa_cons (pv 5) (pa_cons (pe_lc (own := [("before", 3), ("behind", 4)]) (g := gTup K 2 (gCons (gName 3) (gCons (gName 4) gNil))) (tt := tYes) rfl nd (RZ.pi_zipA (by rfl) T.zip (pa_cons (pv 2) (pa_cons (pv 0) pa_nil)))
          (blkOk_by (own := [("before", 3), ("behind", 4)]) (N := ["allocation", "assignment", "counts", "before", "behind", "leaving"]) (sc := defScope sMovesOf) (by decide +kernel))
          (fun _ _ _ _ _ => pg_tup rfl (pgs_cons (pg_name (i := 3) nd rfl (Or.inl rfl)) (pgs_cons (pg_name (i := 4) nd rfl (Or.inl rfl)) pgs_nil)))
          (fun _ _ _ _ _ => pts_nil) (fun _ _ _ _ _ => pe_callB (call_max2 rfl) (by rfl) T.max (by decide +kernel) (pa_cons pe_int (pa_cons (pe_op op_sub (pv 4) (pv 3)) pa_nil)))) pa_nil)))))))), ?_⟩
    have hal5 := hA.2.2.1
    have la : (iv al).length = al.length := iv_len
    refine ⟨_, rfl, _, rfl, a, _, rfl, .inr hA.1, b, as, al.length, by rw [la]; rfl, hb, by omega, fun pc H1 z1 n1 e1 => ?_⟩
    have hlc : (LM.cnts al.length as).length = al.length := LM.cnts_len
    have hzip : (iv (LM.cnts al.length as)).length = (iv al).length := by rw [iv_len, iv_len, hlc]
    have ha1 := sameT z1 hA.1
    have hc1 : SqT K H1 pc (iv (LM.cnts al.length as)) := .inl (.inl e1)
    -- leaving = [max(0, before - behind) ..]
    refine ⟨_, rfl, _, rfl, pc, a, _, _, rfl, .inr ⟨hc1, ha1, fun D1 hD1 => ?_⟩⟩
    refine lc_zipT (K := K) (t1 := pc) (t2 := a) (us := iv (LM.cnts al.length as)) (ws := iv al) hzip (fun j H' => Same H1 H' ∧ H' D1 = some (.lst (iv (List.zipWith (fun x y => x - y) ((LM.cnts al.length as).take j) (al.take j))))) ⟨same_new hD1 _, upd_same⟩ (fun j H' _ z => ⟨sameT z.1 hc1, sameT z.1 ha1⟩) ?_ ?_
    · rintro j x y T' H' hx hy ⟨z, zD⟩ hT
      obtain ⟨n, hn, rfl⟩ := iv_get hx
      obtain ⟨n', hn', rfl⟩ := iv_get hy
      have hj : j < al.length := (List.getElem?_eq_some_iff.mp hn').1
      have nDT : D1 ≠ T' := ne_of_none zD hT
      refine ⟨T', _, rfl, .inl (.inl upd_same), rfl, _, _, rfl, _, _, rfl, rfl, rfl, tyes (iteT ?_)⟩
      refine ⟨_, rfl, _, rfl, _, _, rfl, rfl, _, _, rfl, ?_⟩
      refine ⟨_, by rw [upd_ne nDT]; exact zD, ?_, same_set hD1 (z.trans (same_new hT _)), ?_⟩
      · rw [iv_len, List.length_zipWith, List.length_take, List.length_take]
        exact small1000 (by omega)
      · have ev : V.int (if (n : Int) - (n' : Int) > 0 then (n : Int) - (n' : Int) else 0) = V.int ((n - n' : Nat) : Int) := by
          congr 1
          split <;> omega
        show upd _ D1 (.lst (_ ++ [V.int (if (n : Int) - (n' : Int) > 0 then (n : Int) - (n' : Int) else 0)])) D1 = _
        rw [upd_same, ev, iv_one, iv_append, zip_step hn hn']
    · rintro H2 ⟨z2, hD1'⟩
      rw [iv_len, hlc, List.take_of_length_le (by omega), List.take_of_length_le (Nat.le_refl _)] at hD1'
      have ha2 := sameT z2 ha1
      have hc2 := sameT z2 hc1
      -- Moves(assignment, counts, leaving, [..])
      refine ⟨_, rfl, _, rfl, _, rfl, _, rfl, _, rfl, pc, a, _, _, rfl, .inr ⟨hc2, ha2, fun D2 hD2 => ?_⟩⟩
      refine lc_zipT (K := K) (t1 := pc) (t2 := a) (us := iv (LM.cnts al.length as)) (ws := iv al) hzip (fun j H' => Same H2 H' ∧ H' D2 = some (.lst (iv (List.zipWith (fun x y => y - x) ((LM.cnts al.length as).take j) (al.take j))))) ⟨same_new hD2 _, upd_same⟩ (fun j H' _ z => ⟨sameT z.1 hc2, sameT z.1 ha2⟩) ?_ ?_
      · rintro j x y T' H' hx hy ⟨z, zD⟩ hT
        obtain ⟨n, hn, rfl⟩ := iv_get hx
        obtain ⟨n', hn', rfl⟩ := iv_get hy
        have hj : j < al.length := (List.getElem?_eq_some_iff.mp hn').1
        have nDT : D2 ≠ T' := ne_of_none zD hT
        refine ⟨T', _, rfl, .inl (.inl upd_same), rfl, _, _, rfl, _, _, rfl, rfl, rfl, tyes (iteT ?_)⟩
        refine ⟨_, rfl, _, rfl, _, _, rfl, rfl, _, _, rfl, ?_⟩
        refine ⟨_, by rw [upd_ne nDT]; exact zD, ?_, same_set hD2 (z.trans (same_new hT _)), ?_⟩
        · rw [iv_len, List.length_zipWith, List.length_take, List.length_take]
          exact small1000 (by omega)
        · have ev : V.int (if (n' : Int) - (n : Int) > 0 then (n' : Int) - (n : Int) else 0) = V.int ((n' - n : Nat) : Int) := by
            congr 1
            split <;> omega
          show upd _ D2 (.lst (_ ++ [V.int (if (n' : Int) - (n : Int) > 0 then (n' : Int) - (n : Int) else 0)])) D2 = _
          rw [upd_same, ev, iv_one, iv_append, zip_step hn hn']
      · rintro H3 ⟨z3, hD2'⟩
        rw [iv_len, hlc, List.take_of_length_le (by omega), List.take_of_length_le (Nat.le_refl _)] at hD2'
        intro x dx nx ndx nex
        have z4 : Same H3 (upd (upd H3 dx (.own x)) x (.ins C dx [])) := (same_new ndx _).trans (same_new (by rw [upd_ne nex.symm]; exact nx) _)
        have e3 : H3 pc = some (.tup (iv (LM.cnts al.length as))) := z3 _ _ (z2 _ _ e1)
        have d1 := z3 _ _ hD1'
        refine ⟨x, dx, b, pc, D1, D2, LM.m0 al as, rfl, upd_same, .inr (.inl (.inl (z4 _ _ e3))), .inl (SqL.of (z4 _ _ d1)), .inl (SqL.of (z4 _ _ hD2')), fun e => ?_, fun e => ?_, fun e => ?_, fun lw ll le H5 M5 k5 h1 h2 h3 => ⟨rfl, ?_⟩⟩
        · rw [e, e3] at nx
          cases nx
        · rw [e, d1] at nx
          cases nx
        · rw [e, hD2'] at nx
          cases nx
        · have zz := (z1.trans z2).trans z3
          refine q x lw ll le H5 M5 (fun b' o' e' => ?_) (zz.free nx) (zz.free (z4.free h1)) (zz.free (z4.free h2)) (zz.free (z4.free h3))
          exact k5 _ _ (z4 _ _ (zz _ _ e')) (ne_of_none (zz _ _ e') nx)
end
end LX

/-! LD6: the number of ways. -/
namespace LX
open PySem L2 LR
/-! ### factorials and binomials of the library -/
theorem fact_eq : ∀ n : Nat, Builtin.Math.factorialNat n = LM.fct n
  | 0 => rfl
  | n + 1 => by rw [PySem.W.mc_fac_succ, fact_eq n]; rfl
theorem fp_fct {n : Nat} : ∀ k : Nat, k ≤ n → Builtin.Math.fallingProduct (n : Int) k * (LM.fct (n - k) : Int) = (LM.fct n : Int)
  | 0, _ => by
    rw [PySem.W.mc_fp_zero, Int.one_mul]; rfl
  | k + 1, h => by
    have ih := fp_fct (n := n) k (by omega)
    rw [PySem.W.mc_fp_succ]
    have e : n - k = (n - (k + 1)) + 1 := by omega
    have e2 : LM.fct (n - k) = LM.fct (n - (k + 1)) * (n - k) := by
      rw [e]
      show LM.fct (n - (k + 1)) * (n - (k + 1) + 1) = _
      congr 1
    rw [e2] at ih
    have e3 : ((n : Int) - (k : Int)) = ((n - k : Nat) : Int) := by omega
    rw [e3, Int.mul_assoc, Int.mul_comm ((n - k : Nat) : Int), ← Int.natCast_mul]
    exact ih
theorem fp_ch {n k : Nat} (h : k ≤ n) : Builtin.Math.fallingProduct (n : Int) k = ((LM.ch n k * LM.fct k : Nat) : Int) := by
  have h1 := fp_fct (n := n) k h
  have h2 := LM.ch_fct k (n - k)
  have e : k + (n - k) = n := by omega
  rw [e] at h2
  have hp : (0 : Int) < (LM.fct (n - k) : Int) := by
    have := LM.fct_pos (n - k)
    omega
  apply Int.eq_of_mul_eq_mul_right (Int.ne_of_gt hp)
  rw [h1, ← h2]
  rw [← Int.natCast_mul, Nat.mul_assoc]
theorem fp_self (m : Nat) : Builtin.Math.fallingProduct (m : Int) m = (LM.fct m : Int) := by
  rw [fp_ch (Nat.le_refl m), LM.ch_self, Nat.one_mul]
theorem comb_eq {n k : Nat} (h : k ≤ n) : PySem.W.mcComb (n : Int) (k : Int) = (LM.ch n k : Int) := by
  rw [PySem.W.mcComb_at (by omega) (by omega) (m := ((min k (n - k) : Nat) : Int)) (by omega)]
  have hm : min k (n - k) ≤ n := by omega
  rw [show (((min k (n - k) : Nat) : Int)).toNat = min k (n - k) from by omega, fp_ch hm, fp_self, ← Int.natCast_ediv, Nat.mul_div_cancel _ (LM.fct_pos _)]
  rcases Nat.le_total k (n - k) with q | q
  · rw [Nat.min_eq_left q]
  · rw [Nat.min_eq_right q, ← LM.ch_sym h]
/-! ### promises -/
def spWays (C : Addr) : Sp := fun vs H Q _ => ∃ (p a lw ll le : Addr) (m : LM.M) (as : List Nat) (k : Nat), vs = [.ref p] ∧ MvAt C H p a lw ll le m ∧ LM.WF k m as ∧ as.length ≤ 20 ∧ k ≤ 5 ∧ ∀ H', Same H H' → Q (.int (LM.wy m : Nat)) H'
def spWaysWith (K : PySem.W.Frag) (C : Addr) : Sp := fun vs H Q _ => ∃ (p a lw ll le : Addr) (m : LM.M) (as rest : List Nat) (i v c k : Nat), vs = [.ref p, .int (i : Nat), .int (c : Nat)] ∧ MvAt C H p a lw ll le m ∧ SqT K H a (iv as) ∧ as[i]? = some v ∧ LM.WF k m (v :: rest) ∧ (v :: rest).length ≤ 20 ∧ k ≤ 5 ∧ c ∈ LM.opts m v ∧
  ∀ H', Same H H' → Q (.int (LM.wo m v c : Nat)) H'
def spCount (K : PySem.W.Frag) : Sp := fun vs H Q _ => ∃ (a b : Addr) (al as : List Nat), vs = [.ref a, .ref b] ∧ AlAt K H a al ∧ AsAt K H b al as ∧ FT H b (iv as) ∧ ∀ H', Same H H' → Q (.int (LM.wy (LM.m0 al as) : Nat)) H'
section
variable {P : Program} {w : World} {K : PySem.W.Frag} {mg : Str → Option Value} {base : Heap}
theorem scWays : FnScope ["moves", "total", "many", "waiting", "leaving"] ["moves"] (defScope sWays) := ⟨rfl, rfl, rfl, by decide +kernel, rfl, by decide +kernel, by decide +kernel⟩
theorem ok_ways {f C : Addr} {fd : FuncData} (F : Fun K "ways" "ways" sWays f fd) (T : Txt K mg) (c : ClM K mg C) : FnOk P w K mg base CX0 1 f fd ["moves"] (spWays C) := by
  refine F.ok scWays (fun vs H Q E h => ?_) (fun cdv A outer s H vs Q E hr h => ?_)
  · obtain ⟨p, a, lw, ll, le, m, as, k, rfl, _⟩ := h
    rfl
  · obtain ⟨p, a, lw, ll, le, m, as, k, rfl, M, W, h20, hk, q⟩ := h
    obtain ⟨dx, ho⟩ := M.ob
    have nd := scWays.nd
    refine ⟨_, pss_cons (ps_set (i := 1) nd rfl (Or.inl rfl) (pe_callBfun cr_fact (by rfl) T.fact (pa_cons (pe_callB (cr_sum rfl) (by rfl) T.sum (by decide +kernel) (pa_cons (pe_fld (pv 0) rfl) pa_nil)) pa_nil)))
      (pss_cons (ps_for PassesOwn.never rfl (pi_list (pe_fld (pv 0) rfl)) (pg_name (i := 2) nd rfl (Or.inl rfl))
        (pss_one (ps_set (i := 1) nd rfl (Or.inl rfl) (pe_op op_fdivW (pv 1) (pe_callBfun cr_fact (by rfl) T.fact (pa_cons (pv 2) pa_nil))))))
      (pss_cons (ps_for PassesOwn.never rfl (RZ.pi_zipA (by rfl) T.zip (pa_cons (pe_fld (pv 0) rfl) (pa_cons (pe_fld (pv 0) rfl) pa_nil))) (pg_tup rfl (pgs_cons (pg_name (i := 3) nd rfl (Or.inl rfl)) (pgs_cons (pg_name (i := 4) nd rfl (Or.inl rfl)) pgs_nil)))
        (pss_one (ps_set (i := 1) nd rfl (Or.inl rfl) (pe_op op_mul (pv 1) (pe_callBfun cr_comb (by rfl) T.comb (pa_cons (pv 3) (pa_cons (pv 4) pa_nil)))))))
      (pss_one (ps_ret (pv 1))))), ?_⟩
    have hes : m.e.sum ≤ 20 := Nat.le_trans W.esum h20
    have big : LM.fct 20 < 2 ^ 62 := by decide +kernel
    have fi : ∀ n : Nat, ((n : Int)).toNat = n := fun n => by omega
    -- total = factorial(sum(moves.entering))
    refine ⟨_, rfl, p, C, dx, _, _, rfl, ho, c.cl, c.nE, mf_e _ _ _ _, le, up m.e, rfl, SqL.of M.he, _, rfl, by rw [up_sum]; omega, by rw [up_sum]; omega, ?_⟩
    rw [up_sum, fi, fact_eq]
    -- for many in moves.entering: total = total // factorial(many)
    refine ⟨_, rfl, p, C, dx, _, _, rfl, ho, c.cl, c.nE, mf_e _ _ _ _, le, rfl, ⟨_, SqL.of M.he⟩, for_list (K := K) (a := le) (xs := iv m.e)
      (fun j σ H' => ∃ x : Option V, σ = [some (.ref p), some (.int ((LM.fct m.e.sum / LM.pr ((m.e.take j).map LM.fct) : Nat) : Int)), x, none, none] ∧ H = H') ⟨none, ?_, rfl⟩ (fun j σ H' _ ⟨_, _, e⟩ => by rw [← e]; exact SqL.of M.he) ?_ ?_⟩
    · show [some (V.ref p), some (V.int (LM.fct m.e.sum : Int)), none, none, none] = _
      rw [List.take_zero]
      show _ = [some (V.ref p), some (V.int ((LM.fct m.e.sum / 1 : Nat) : Int)), none, none, none]
      rw [Nat.div_one]
    · rintro j x σ H' hx ⟨_, rfl, rfl⟩
      obtain ⟨n, hn, rfl⟩ := iv_get hx
      have en : LM.g m.e j = n := by
        have := LM.g_at (List.getElem?_eq_some_iff.mp hn).1
        rw [hn] at this
        exact (Option.some.inj this).symm
      have hn20 : n ≤ 20 := by rw [← en]; exact Nat.le_trans (W.ge j) h20
      have hf : LM.fct n < 2 ^ 62 := Nat.lt_of_le_of_lt (LM.fct_le hn20) big
      have hf0 := LM.fct_pos n
      refine ⟨_, rfl, _, rfl, _, rfl, by omega, by omega, ?_⟩
      rw [fi, fact_eq]
      refine ⟨_, _, rfl, rfl, wide_div (b := 62) (by omega) (by omega) (by decide) (by decide), ⟨some (V.int (n : Int)), ?_, rfl⟩⟩
      show [some (V.ref p), some (V.int (((LM.fct m.e.sum / LM.pr ((m.e.take j).map LM.fct) : Nat) : Int) / (LM.fct n : Int))), _, none, none] = _
      rw [← Int.natCast_ediv, Nat.div_div_eq_div_mul, List.take_add_one, hn, Option.toList_some, List.map_append]
      show _ = [some (V.ref p), some (V.int ((LM.fct m.e.sum / LM.pr ((m.e.take j).map LM.fct ++ [LM.fct n]) : Nat) : Int)), _, none, none]
      rw [LM.pr_snoc]
    · rintro σ H' ⟨x, rfl, rfl⟩
      rw [iv_len, List.take_of_length_le (Nat.le_refl _)]
      show tSeq _ _ _ [some (V.ref p), some (V.int (LM.mlt m.e : Int)), x, none, none] _
      -- for waiting, leaving in zip(moves.waiting, moves.leaving): total = total * comb(waiting, leaving)
      have hwl : (iv m.w).length = (iv m.l).length := by rw [iv_len, iv_len, W.lw, W.ll]
      refine ⟨_, rfl, p, C, dx, _, _, rfl, ho, c.cl, c.nW, mf_w _ _ _ _, _, rfl, p, C, dx, _, _, rfl, ho, c.cl, c.nL, mf_l _ _ _ _, lw, ll, _, _, rfl, .inl ⟨SqL.of M.hw, SqL.of M.hl, RZ.for_zipL (K := K) (a := lw) (b := ll) (xs := iv m.w) (ys := iv m.l) hwl
        (fun j σ H' => ∃ y z : Option V, σ = [some (.ref p), some (.int ((LM.mlt m.e * LM.pr (List.zipWith LM.ch (m.w.take j) (m.l.take j)) : Nat) : Int)), x, y, z] ∧ Same H H') ⟨none, none, ?_, Same.refl _⟩ (fun j σ H' ⟨_, _, _, z⟩ => ⟨SqL.of (z _ _ M.hw), SqL.of (z _ _ M.hl)⟩) ?_ ?_⟩⟩
      · show [some (V.ref p), some (V.int (LM.mlt m.e : Int)), x, none, none] = [some (V.ref p), some (V.int ((LM.mlt m.e * 1 : Nat) : Int)), x, none, none]
        rw [Nat.mul_one]
      · rintro j u v T' σ H' hu hv ⟨_, _, rfl, z⟩ hT
        obtain ⟨n, hn, rfl⟩ := iv_get hu
        obtain ⟨n', hn', rfl⟩ := iv_get hv
        have en : LM.g m.w j = n := by
          have := LM.g_at (List.getElem?_eq_some_iff.mp hn).1
          rw [hn] at this
          exact (Option.some.inj this).symm
        have en' : LM.g m.l j = n' := by
          have := LM.g_at (List.getElem?_eq_some_iff.mp hn').1
          rw [hn'] at this
          exact (Option.some.inj this).symm
        have hn20 : n ≤ 20 := by rw [← en]; exact Nat.le_trans (W.gw j) h20
        have hle : n' ≤ n := by rw [← en, ← en']; exact W.lle j
        have hb : LM.ch n n' ≤ 2 ^ 20 := Nat.le_trans (LM.ch_le n n') (Nat.pow_le_pow_right (by decide) hn20)
        refine ⟨T', _, rfl, .inl (.inl upd_same), rfl, _, _, rfl, _, _, rfl, rfl, ?_⟩
        refine ⟨_, rfl, _, rfl, _, rfl, _, _, rfl, by omega, by omega, by omega, ?_⟩
        rw [comb_eq hle]
        refine ⟨_, _, rfl, rfl, .inr ⟨by omega, by omega⟩, ⟨some (V.int (n : Int)), some (V.int (n' : Int)), ?_, z.trans (same_new hT _)⟩⟩
        show [some (V.ref p), some (V.int (((LM.mlt m.e * LM.pr (List.zipWith LM.ch (m.w.take j) (m.l.take j)) : Nat) : Int) * (LM.ch n n' : Int))), x, _, _] = _
        rw [← Int.natCast_mul, zip_step hn hn', LM.pr_snoc, Nat.mul_assoc]
      · rintro σ H' ⟨y, z', rfl, z⟩
        rw [iv_len, List.take_of_length_le (Nat.le_refl _), List.take_of_length_le (by rw [W.lw, W.ll]; exact Nat.le_refl _)]
        exact ⟨_, rfl, q _ z⟩
theorem scWaysWith : FnScope ["moves", "bucket", "chosen", "other"] ["moves", "bucket", "chosen"] (defScope sWaysWith) := ⟨rfl, rfl, rfl, by decide +kernel, rfl, by decide +kernel, by decide +kernel⟩
/-- a method of the class -/
structure MthM (P : Program) (w : World) (K : PySem.W.Frag) (mg : Str → Option Value) (base : Heap) (C : Addr) (k : Nat) (x : Str) (ps : List Str) (sp : Sp) : Prop where
  ex : ∃ (f : Addr) (fd : FuncData), FnOk P w K mg base CX0 k f fd ps sp ∧ Binds K fd ps [] ∧ Meth K C x f
theorem pe_mm {X : Cx} {pl : Sem Bool} {j k : Nat} {C : Addr} {x : Str} {ps : List Str} {sp : Sp} {o e : Expr} {es : List Expr} {apos pos : Pos} {to : TE} {t : TA} (c : ClM X.K X.mg C) (D : MthM X.prog X.w X.K X.mg X.base C k x ps sp) (hr : Room j X.A) (hk : k ≤ j) (ho : PE X o to) (ha : PA X (e :: es) t)
    (hst : starEach (e :: es) X.env = (false, eval e X.env) :: starEach es X.env := by rfl) (hpl : (backTo pos (starEach es X.env)).any (·.1) = false := by rfl)
    (ht : eval (.Call (.Attribute o x apos) (e :: es) [] pos) X.env = (do
      let ov ← eval o X.env
      standAt apos.atName
      let (f, first) ← holding [ov] (getMethod ov x pl)
      callWith pos f first (backTo pos (starEach (e :: es) X.env)) (backToKw pos (keywordEach [] X.env))) := by rfl) :
    PE X (.Call (.Attribute o x apos) (e :: es) [] pos) (tMeth C x sp [] E0 to t) := by
  obtain ⟨f, fd, F, b, m⟩ := D.ex
  exact pe_meth ho c.cl m F (hr.mono hk) b .nil pass0 ha hst hpl ht
theorem ok_waysWith {f C : Addr} {fd : FuncData} (F : Fun K "ways_with" "ways_with" sWaysWith f fd) (c : ClM K mg C) (M : MkM P w K mg base C) (DT : MthM P w K mg base C 1 "take" ["self", "bucket", "chosen"] (spTake K C)) (DW : Dfn P w K mg base 1 "ways" ["moves"] (spWays C)) :
    FnOk P w K mg base CX0 3 f fd ["moves", "bucket", "chosen"] (spWaysWith K C) := by
  refine F.ok scWaysWith (fun vs H Q E h => ?_) (fun cdv A outer s H vs Q E hr h => ?_)
  · obtain ⟨p, a, lw, ll, le, m, as, rest, i, v, ch, k, rfl, _⟩ := h
    rfl
  · obtain ⟨p, a, lw, ll, le, m, as, rest, i, v, ch, k, rfl, Mv, ha, hv, W, h20, hk, hc, q⟩ := h
    obtain ⟨dx, ho⟩ := Mv.ob
    have nd := scWaysWith.nd
    refine ⟨_, pss_cons (ps_set (i := 3) nd rfl (Or.inl rfl) (pe_mk M hr (by decide) (by rfl) (pa_cons (pe_fld (pv 0) rfl) (pa_cons (pe_fld (pv 0) rfl) (pa_cons (pe_fld (pv 0) rfl) (pa_cons (pe_fld (pv 0) rfl) pa_nil))))))
      (pss_cons (ps_expr (pe_mm c DT hr (by decide) (pv 3) (pa_cons (pv 1) (pa_cons (pv 2) pa_nil))))
      (pss_one (ps_ret (pe_d DW hr (by decide) (by rfl) (pa_cons (pv 3) pa_nil))))), ?_⟩
    -- other = Moves(moves.assignment, moves.waiting, moves.leaving, moves.entering)
    refine ⟨_, rfl, p, C, dx, _, _, rfl, ho, c.cl, c.nA, mf_a _ _ _ _, _, rfl, p, C, dx, _, _, rfl, ho, c.cl, c.nW, mf_w _ _ _ _, _, rfl, p, C, dx, _, _, rfl, ho, c.cl, c.nL, mf_l _ _ _ _, _, rfl, p, C, dx, _, _, rfl, ho, c.cl, c.nE, mf_e _ _ _ _, ?_⟩
    intro x dx2 nx ndx nex
    have z1 : Same H (upd (upd H dx2 (.own x)) x (.ins C dx2 [])) := (same_new ndx _).trans (same_new (by rw [upd_ne nex.symm]; exact nx) _)
    refine ⟨x, dx2, a, lw, ll, le, m, rfl, upd_same, .inl (SqL.of (z1 _ _ Mv.hw)), .inl (SqL.of (z1 _ _ Mv.hl)), .inl (SqL.of (z1 _ _ Mv.he)), (ne_of_none Mv.hw nx).symm, (ne_of_none Mv.hl nx).symm, (ne_of_none Mv.he nx).symm, fun lw' ll' le' H2 M2 k2 h1 h2 h3 => ⟨rfl, ?_⟩⟩
    have z2 : Same H H2 := fun b o e => k2 _ _ (z1 _ _ e) (ne_of_none e nx)
    -- other.take(bucket, chosen)
    obtain ⟨t1, t2, t3, t4, t5⟩ := LM.take_ok W hc
    obtain ⟨dx3, ho2⟩ := M2.ob
    refine ⟨_, rfl, x, dx3, _, rfl, ho2, mf_no _ _ _ _ (by decide +kernel) (by decide +kernel) (by decide +kernel) (by decide +kernel), _, rfl, _, rfl, x, a, lw', ll', le', m, as, i, v, ch, rfl, M2, sameT z2 ha, hv, t1, t2, t3, t4, t5, fun H3 M3 b3 => ?_⟩
    have z3 : Same H H3 := fun b o e => b3 _ _ (z2 _ _ e) (ne_of_none e (z1.free h1)) (ne_of_none e (z1.free h2)) (ne_of_none e (z1.free h3))
    -- return ways(other)
    refine ⟨_, rfl, x, a, lw', ll', le', _, rest, k, rfl, M3, W.tk hc, by simp only [List.length_cons] at h20; omega, hk, fun H4 z4 => ?_⟩
    exact q _ (z3.trans z4)
theorem scCount : FnScope ["allocation", "assignment"] ["allocation", "assignment"] (defScope sCount) := ⟨rfl, rfl, rfl, by decide +kernel, rfl, by decide +kernel, by decide +kernel⟩
theorem ok_count {f C : Addr} {fd : FuncData} (F : Fun K "count_changes" "count_changes" sCount f fd) (D1 : Dfn P w K mg base 4 "check_allocation" ["value"] (spChkAlloc K)) (D2 : Dfn P w K mg base 4 "check_assignment" ["allocation", "value", "name"] (spChkAssign K))
    (D3 : Dfn P w K mg base 3 "moves_of" ["allocation", "assignment"] (spMovesOf K C)) (D4 : Dfn P w K mg base 1 "ways" ["moves"] (spWays C)) : FnOk P w K mg base CX0 5 f fd ["allocation", "assignment"] (spCount K) := by
  refine F.ok scCount (fun vs H Q E h => ?_) (fun cdv A outer s H vs Q E hr h => ?_)
  · obtain ⟨a, b, al, as, rfl, _⟩ := h
    rfl
  · obtain ⟨a, b, al, as, rfl, hA, hS, hF, q⟩ := h
    refine ⟨_, pss_cons (ps_expr (pe_d D1 hr (by decide) (by rfl) (pa_cons (pv 0) pa_nil))) (pss_cons (ps_expr (pe_d D2 hr (by decide) (by rfl) (pa_cons (pv 0) (pa_cons (pv 1) (pa_cons pe_str pa_nil)))))
      (pss_one (ps_ret (pe_d D4 hr (by decide) (by rfl) (pa_cons (pe_d D3 hr (by decide) (by rfl) (pa_cons (pv 0) (pa_cons (pv 1) pa_nil))) pa_nil))))), ?_⟩
    refine ⟨_, rfl, a, al, rfl, hA, fun H1 z1 => ?_⟩
    refine ⟨_, rfl, _, rfl, a, b, al, as, _, rfl, hA.same z1, hS.same z1, fun H2 z2 => ?_⟩
    have z12 := z1.trans z2
    refine ⟨_, rfl, _, rfl, a, b, al, as, rfl, hA.same z12, hF.same z12, fun p lw ll le H3 M3 z3 _ _ _ _ => ?_⟩
    have hlen := hS.2.1
    have h20 := hA.2.2.2
    refine ⟨p, b, lw, ll, le, _, as, al.length, rfl, M3, LM.wf0 hS.2.2 hlen.symm, by omega, hA.2.2.1, fun H4 z4 => ?_⟩
    exact q _ ((z12.trans z3).trans z4)
end
end LX

/-! LD7: completed, first_change, nth_change. -/
namespace LX
open PySem L2 LR
def spCompleted (K : PySem.W.Frag) : Sp := fun vs H Q _ => ∃ (a b o : Addr) (al as bg : List Nat), vs = [.ref a, .ref b, .ref o] ∧ AlAt K H a al ∧ AsAt K H b al as ∧ FT H b (iv as) ∧ SqT K H o (iv bg) ∧ bg.length ≤ 1000 ∧ LM.Path as (LM.m0 al as) (LM.cmpl bg as (LM.m0 al as)) ∧
  ∀ (r : Addr) (H' : Hp), Same H H' → FT H' r (iv (LM.cmpl bg as (LM.m0 al as))) → Q (.ref r) H'
def spFirst (K : PySem.W.Frag) : Sp := fun vs H Q _ => ∃ (a b : Addr) (al as : List Nat), vs = [.ref a, .ref b] ∧ AlAt K H a al ∧ AsAt K H b al as ∧ FT H b (iv as) ∧ ∀ (r : Addr) (H' : Hp), Same H H' → FT H' r (iv (LM.cmpl [] as (LM.m0 al as))) → Q (.ref r) H'
def spNth (K : PySem.W.Frag) : Sp := fun vs H Q _ => ∃ (a b : Addr) (al as : List Nat) (i : Nat), vs = [.ref a, .ref b, .int (i : Nat)] ∧ AlAt K H a al ∧ AsAt K H b al as ∧ FT H b (iv as) ∧ i < LM.wy (LM.m0 al as) ∧ ∀ (r : Addr) (H' : Hp), Same H H' → FT H' r (iv (LM.nth as (LM.m0 al as) i)) → Q (.ref r) H'
theorem same_but {H H1 H' : Hp} {lw ll le : Addr} (s : Same H H1) (b : But3 lw ll le H1 H') (h1 : H lw = none) (h2 : H ll = none) (h3 : H le = none) : Same H H' := fun x o e =>
  b x o (s _ _ e) (ne_of_none e h1) (ne_of_none e h2) (ne_of_none e h3)
section
variable {P : Program} {w : World} {K : PySem.W.Frag} {mg : Str → Option Value} {base : Heap}
theorem scCompleted : FnScope ["allocation", "assignment", "begun", "moves", "found", "bucket", "chosen"] ["allocation", "assignment", "begun"] (defScope sCompleted) := ⟨rfl, rfl, rfl, by decide +kernel, rfl, by decide +kernel, by decide +kernel⟩
theorem ok_completed {f C : Addr} {fd : FuncData} (F : Fun K "completed" "completed" sCompleted f fd) (T : Txt K mg) (c : ClM K mg C) (DM : Dfn P w K mg base 3 "moves_of" ["allocation", "assignment"] (spMovesOf K C))
    (DO : MthM P w K mg base C 1 "options" ["self", "bucket"] (spOptions K C)) (DT : MthM P w K mg base C 1 "take" ["self", "bucket", "chosen"] (spTake K C)) : FnOk P w K mg base CX0 4 f fd ["allocation", "assignment", "begun"] (spCompleted K) := by
  refine F.ok scCompleted (fun vs H Q E h => ?_) (fun cdv A outer s H vs Q E hr h => ?_)
  · obtain ⟨a, b, o, al, as, bg, rfl, _⟩ := h
    rfl
  · obtain ⟨a, b, o, al, as, bg, rfl, hA, hS, hF, hg, hbl, hP, q⟩ := h
    have nd := scCompleted.nd
    refine ⟨_, pss_cons (ps_set (i := 3) nd rfl (Or.inl rfl) (pe_d DM hr (by decide) (by rfl) (pa_cons (pv 0) (pa_cons (pv 1) pa_nil))))
      (pss_cons (ps_set (i := 4) nd rfl (Or.inl rfl) (pe_lst pa_nil))
      (pss_cons (ps_for PassesOwn.never rfl (pi_range1 (by rfl) T.range (pa_cons (pe_callB call_len_seq (by rfl) T.len PySem.boot_len (pa_cons (pv 1) pa_nil)) pa_nil)) (pg_name (i := 5) nd rfl (Or.inl rfl))
        (Evl.pss_cut (ps_set (i := 6) nd rfl (Or.inl rfl) (pe_ifExp (pt_cmpR op_lt (pv 5) (pe_callB call_len_seq (by rfl) T.len PySem.boot_len (pa_cons (pv 2) pa_nil)) (nomark _)) (pe_ix ix_tup (pv 2) (pv 5) (fun _ _ => rfl))
            (pe_ix ix_list (pe_mm c DO hr (by decide) (pv 3) (pa_cons (pv 5) pa_nil)) pe_int (fun _ _ => rfl))))
        (pss_cons (ps_expr (pe_mm c DT hr (by decide) (pv 3) (pa_cons (pv 5) (pa_cons (pv 6) pa_nil))))
        (pss_one (ps_expr (pe_bm PySem.F.plainAttrs_list PySem.F.slot_list_append PySem.F.type_list_append mt_append (pv 4) (pa_cons (pv 6) pa_nil)))))))
      (pss_one (ps_ret (pe_callTy call_tuple_frz (by rfl) T.tuple (by decide +kernel) (pa_cons (pv 4) pa_nil)))))), ?_⟩
    have hlen := hS.2.1
    have h20 := hA.2.2.2
    have hk5 := hA.2.2.1
    have W0 := LM.wf0 hS.2.2 hlen.symm
    refine ⟨_, rfl, _, rfl, a, b, al, as, rfl, hA, hF, fun p lw ll le H1 M1 z1 np nw nl ne => ?_⟩
    refine ⟨Nat.zero_le _, fun fo hfo => ?_⟩
    have nfw : fo ≠ lw := (ne_of_none M1.hw hfo).symm
    have nfl : fo ≠ ll := (ne_of_none M1.hl hfo).symm
    have nfe : fo ≠ le := (ne_of_none M1.he hfo).symm
    have z2 : Same H (upd H1 fo (.lst [])) := z1.trans (same_new hfo _)
    have hf0 : H fo = none := z1.free hfo
    refine ⟨_, rfl, b, _, rfl, .inr (sameT z2 hS.1), _, rfl, by rw [iv_len]; omega, by rw [iv_len]; omega, for_range (lo := 0) (n := (iv as).length)
      (fun j σ H' => ∃ (m : LM.M) (pre : List Nat) (x y : Option V), σ = [some (.ref a), some (.ref b), some (.ref o), some (.ref p), some (.ref fo), x, y] ∧ Same H H' ∧ MvAt C H' p b lw ll le m ∧ LM.WF al.length m (as.drop j) ∧
        LM.Path (as.drop j) m (LM.cmpl (bg.drop j) (as.drop j) m) ∧ H' fo = some (.lst (iv pre)) ∧ pre.length = j ∧ pre ++ LM.cmpl (bg.drop j) (as.drop j) m = LM.cmpl bg as (LM.m0 al as))
      ⟨LM.m0 al as, [], none, none, rfl, z2, M1.same (same_new hfo _), W0, hP, upd_same, rfl, rfl⟩ ?_ ?_⟩
    · rintro j σ H' hj ⟨m, pre, x, y, rfl, z, M, W, hp, hfo', hpl, he⟩
      rw [iv_len] at hj
      rw [Int.zero_add]
      have hv := LM.g_at hj
      rw [LM.drop_cons hv] at W
      rw [LM.cmpl_turn hv] at he hp
      rw [LM.drop_cons hv] at hp
      obtain ⟨hc, hp'⟩ := hp.drop_one
      obtain ⟨t1, t2, t3, t4, t5⟩ := LM.take_ok W hc
      obtain ⟨dx, ho⟩ := M.ob
      refine ⟨fun σ' H2 => σ' = [some (.ref a), some (.ref b), some (.ref o), some (.ref p), some (.ref fo), some (.int (j : Int)), some (.int (LM.hd bg m j (LM.g as j) : Int))] ∧ Same H' H2, ?_, ?_⟩
      · refine ⟨_, rfl, _, rfl, o, _, rfl, .inr (sameT z hg), _, _, rfl, rfl, _, rfl, ?_⟩
        refine ite2 (fun h1 => ?_) (fun h1 => ?_)
        · have h1' : j < bg.length := by
            have := of_decide_eq_true h1
            rw [iv_len] at this
            omega
          refine ⟨_, rfl, _, rfl, o, _, _, _, rfl, rfl, sameT z hg, iv_g h1', ?_, Same.refl _⟩
          unfold LM.hd
          rw [if_pos h1']
          rfl
        · have h1' : ¬ j < bg.length := fun q => h1 (decide_eq_true (by rw [iv_len]; omega))
          refine ⟨_, rfl, p, dx, _, rfl, ho, mf_no _ _ _ _ (by decide +kernel) (by decide +kernel) (by decide +kernel) (by decide +kernel), _, rfl, p, b, lw, ll, le, m, as, j, _, rfl, M, sameT z hS.1, hv, t1, by rw [W.ll, W.lw], by rw [W.le, W.lw], by rw [W.lw]; exact hk5, W.dj _, fun q' H2 z3 _ hq => ?_⟩
          obtain ⟨c0, r0, e0⟩ := LM.opts_ne W
          rw [e0] at hq
          refine ⟨q', _, (0 : Int), V.int (c0 : Int), rfl, rfl, SqL.of hq, iv_i (i := 0) rfl, ?_, z3⟩
          unfold LM.hd
          rw [if_neg h1', e0]
          rfl
      · rintro σ' H2 ⟨rfl, z3⟩
        refine ⟨_, rfl, p, dx, _, rfl, z3 _ _ ho, mf_no _ _ _ _ (by decide +kernel) (by decide +kernel) (by decide +kernel) (by decide +kernel), _, rfl, _, rfl, p, b, lw, ll, le, m, as, j, _, _, rfl, M.same z3, sameT (z.trans z3) hS.1, hv, t1, t2, t3, t4, t5, fun H3 M3 b3 => ?_⟩
        have hfo3 : H3 fo = some (.lst (iv pre)) := b3 _ _ (z3 _ _ hfo') nfw nfl nfe
        have z4 : Same H H3 := same_but (z.trans z3) b3 nw nl ne
        refine ⟨_, rfl, .inl ⟨rfl, _, SqL.of hfo3⟩, _, rfl, fo, _, _, rfl, rfl, hfo3, by rw [iv_len]; exact small1000 (by omega), ?_⟩
        refine ⟨_, pre ++ [LM.hd bg m j (LM.g as j)], some (.int (j : Int)), some (.int (LM.hd bg m j (LM.g as j) : Int)), rfl, same_set hf0 z4, ?_, W.tk hc, hp', ?_, by rw [List.length_append, hpl]; rfl, ?_⟩
        · exact ⟨let ⟨dx', e⟩ := M3.ob; ⟨dx', by rw [upd_ne (ne_of e hfo3 (by intro z; cases z))]; exact e⟩, by rw [upd_ne nfw.symm]; exact M3.hw, by rw [upd_ne nfl.symm]; exact M3.hl, by rw [upd_ne nfe.symm]; exact M3.he, M3.nwl, M3.nwe, M3.nle⟩
        · rw [upd_same, iv_one, iv_append]
        · rw [List.append_assoc]
          exact he
    · rintro σ H' ⟨m, pre, x, y, rfl, z, M, W, hp, hfo', hpl, he⟩
      rw [iv_len, List.drop_length] at he
      have e2 : pre = LM.cmpl bg as (LM.m0 al as) := by
        have : LM.cmpl (bg.drop as.length) [] m = [] := by cases bg.drop as.length <;> rfl
        rw [this, List.append_nil] at he
        exact he
      refine ⟨_, rfl, fo, _, rfl, SqL.of hfo', fun l ob hl hd => ?_⟩
      rw [e2]
      exact q l _ (z.trans (same_new hl _)) (FT.new hd)
theorem scFirst : FnScope ["allocation", "assignment"] ["allocation", "assignment"] (defScope sFirst) := ⟨rfl, rfl, rfl, by decide +kernel, rfl, by decide +kernel, by decide +kernel⟩
theorem ok_first {f : Addr} {fd : FuncData} (F : Fun K "first_change" "first_change" sFirst f fd) (D1 : Dfn P w K mg base 4 "check_allocation" ["value"] (spChkAlloc K)) (D2 : Dfn P w K mg base 4 "check_assignment" ["allocation", "value", "name"] (spChkAssign K))
    (D3 : Dfn P w K mg base 4 "completed" ["allocation", "assignment", "begun"] (spCompleted K)) : FnOk P w K mg base CX0 5 f fd ["allocation", "assignment"] (spFirst K) := by
  refine F.ok scFirst (fun vs H Q E h => ?_) (fun cdv A outer s H vs Q E hr h => ?_)
  · obtain ⟨a, b, al, as, rfl, _⟩ := h
    rfl
  · obtain ⟨a, b, al, as, rfl, hA, hS, hF, q⟩ := h
    refine ⟨_, pss_cons (ps_expr (pe_d D1 hr (by decide) (by rfl) (pa_cons (pv 0) pa_nil))) (pss_cons (ps_expr (pe_d D2 hr (by decide) (by rfl) (pa_cons (pv 0) (pa_cons (pv 1) (pa_cons pe_str pa_nil)))))
      (pss_one (ps_ret (pe_d D3 hr (by decide) (by rfl) (pa_cons (pv 0) (pa_cons (pv 1) (pa_cons (pe_tup pa_nil) pa_nil))))))), ?_⟩
    refine ⟨_, rfl, a, al, rfl, hA, fun H1 z1 => ?_⟩
    refine ⟨_, rfl, _, rfl, a, b, al, as, _, rfl, hA.same z1, hS.same z1, fun H2 z2 => ?_⟩
    refine ⟨_, rfl, _, rfl, Nat.zero_le _, fun t ht => ?_⟩
    have zz := (z1.trans z2).trans (same_new ht (.tup []))
    exact ⟨a, b, t, al, as, [], rfl, hA.same zz, hS.same zz, hF.same zz, .inl (.inl upd_same), Nat.zero_le _, (LM.first_ok (LM.wf0 hS.2.2 hS.2.1.symm)).1, fun r H3 z3 hr3 => q r _ (zz.trans z3) hr3⟩
end
end LX

/-! LD8: nth_change. -/
namespace LX
open PySem L2 LR
section
variable {P : Program} {w : World} {K : PySem.W.Frag} {mg : Str → Option Value} {base : Heap}
theorem MvAt.app {C : Addr} {H : Hp} {p a lw ll le fo : Addr} {m : LM.M} {xs ys : List V} (M : MvAt C H p a lw ll le m) (hf : H fo = some (.lst xs)) (n1 : fo ≠ lw) (n2 : fo ≠ ll) (n3 : fo ≠ le) : MvAt C (upd H fo (.lst ys)) p a lw ll le m :=
  ⟨let ⟨dx, e⟩ := M.ob; ⟨dx, by rw [upd_ne (ne_of e hf (by intro z; cases z))]; exact e⟩, by rw [upd_ne n1.symm]; exact M.hw, by rw [upd_ne n2.symm]; exact M.hl, by rw [upd_ne n3.symm]; exact M.he, M.nwl, M.nwe, M.nle⟩
theorem scNth : FnScope ["allocation", "assignment", "index", "many", "moves", "found", "bucket", "chosen", "here"] ["allocation", "assignment", "index"] (defScope sNth) := ⟨rfl, rfl, rfl, by decide +kernel, rfl, by decide +kernel, by decide +kernel⟩
theorem ok_nth {f C : Addr} {fd : FuncData} (F : Fun K "nth_change" "nth_change" sNth f fd) (T : Txt K mg) (c : ClM K mg C) (DC : Dfn P w K mg base 5 "count_changes" ["allocation", "assignment"] (spCount K)) (DI : Dfn P w K mg base 1 "is_integer" ["value"] spWhole)
    (DM : Dfn P w K mg base 3 "moves_of" ["allocation", "assignment"] (spMovesOf K C)) (DW : Dfn P w K mg base 3 "ways_with" ["moves", "bucket", "chosen"] (spWaysWith K C))
    (DO : MthM P w K mg base C 1 "options" ["self", "bucket"] (spOptions K C)) (DT : MthM P w K mg base C 1 "take" ["self", "bucket", "chosen"] (spTake K C)) : FnOk P w K mg base CX0 6 f fd ["allocation", "assignment", "index"] (spNth K) := by
  refine F.ok scNth (fun vs H Q E h => ?_) (fun cdv A outer s H vs Q E hr h => ?_)
  · obtain ⟨a, b, al, as, i, rfl, _⟩ := h
    rfl
  · obtain ⟨a, b, al, as, i0, rfl, hA, hS, hF, hi0, q⟩ := h
    have nd := scNth.nd
    refine ⟨_, pss_cons (ps_set (i := 3) nd rfl (Or.inl rfl) (pe_d DC hr (by decide) (by rfl) (pa_cons (pv 0) (pa_cons (pv 1) pa_nil))))
      (pss_cons (ps_if (PW.pt (pw_or (pt_not (pt_val (pe_d DI hr (by decide) (by rfl) (pa_cons (pv 2) pa_nil)))) (pw_or1 (pt_not (pt_chain op_le op_lt pe_int (pv 2) (pv 3)))))) pss_never pss_nil)
      (pss_cons (ps_set (i := 4) nd rfl (Or.inl rfl) (pe_d DM hr (by decide) (by rfl) (pa_cons (pv 0) (pa_cons (pv 1) pa_nil))))
      (pss_cons (ps_set (i := 5) nd rfl (Or.inl rfl) (pe_lst pa_nil))
      (pss_cons (ps_for PassesOwn.never rfl (pi_range1 (by rfl) T.range (pa_cons (pe_callB call_len_seq (by rfl) T.len PySem.boot_len (pa_cons (pv 1) pa_nil)) pa_nil)) (pg_name (i := 6) nd rfl (Or.inl rfl))
        (Evl.pss_cut (ps_for PassesOwn.never rfl (pi_list (pe_mm c DO hr (by decide) (pv 4) (pa_cons (pv 6) pa_nil))) (pg_name (i := 7) nd rfl (Or.inl rfl))
          (pss_cons (ps_set (i := 8) nd rfl (Or.inl rfl) (pe_d DW hr (by decide) (by rfl) (pa_cons (pv 4) (pa_cons (pv 6) (pa_cons (pv 7) pa_nil)))))
          (pss_cons (ps_if (pt_cmpR op_lt (pv 2) (pv 8) (nomark _)) (pss_one ps_break) pss_nil)
          (pss_one (ps_set (i := 2) nd rfl (Or.inl rfl) (pe_op op_sub (pv 2) (pv 8)))))))
        (pss_cons (ps_expr (pe_mm c DT hr (by decide) (pv 4) (pa_cons (pv 6) (pa_cons (pv 7) pa_nil))))
        (pss_one (ps_expr (pe_bm PySem.F.plainAttrs_list PySem.F.slot_list_append PySem.F.type_list_append mt_append (pv 5) (pa_cons (pv 7) pa_nil)))))))
      (pss_one (ps_ret (pe_callTy call_tuple_frz (by rfl) T.tuple (by decide +kernel) (pa_cons (pv 5) pa_nil)))))))), ?_⟩
    have hlen := hS.2.1
    have h20 := hA.2.2.2
    have hk5 := hA.2.2.1
    have W0 := LM.wf0 hS.2.2 hlen.symm
    -- many, the check of the index
    refine ⟨_, rfl, _, rfl, a, b, al, as, rfl, hA, hS, hF, fun H0 z0 => ?_⟩
    refine ⟨_, rfl, _, rfl, true, rfl, iteF ?_⟩
    refine ⟨_, rfl, _, _, rfl, rfl, _, bl_t (by omega), iteT ⟨_, rfl, _, _, rfl, rfl, _, bl_t (by omega), iteF ?_⟩⟩
    -- moves, found
    refine ⟨_, rfl, _, rfl, a, b, al, as, rfl, hA.same z0, hF.same z0, fun p lw ll le H1 M1 z1 np nw nl ne => ?_⟩
    have nw := z0.free nw
    have nl := z0.free nl
    have ne := z0.free ne
    have z01 := z0.trans z1
    refine ⟨Nat.zero_le _, fun fo hfo => ?_⟩
    have nfw : fo ≠ lw := (ne_of_none M1.hw hfo).symm
    have nfl : fo ≠ ll := (ne_of_none M1.hl hfo).symm
    have nfe : fo ≠ le := (ne_of_none M1.he hfo).symm
    have z2 : Same H (upd H1 fo (.lst [])) := z01.trans (same_new hfo _)
    have hf0 : H fo = none := z01.free hfo
    refine ⟨_, rfl, b, _, rfl, .inr (sameT z2 hS.1), _, rfl, by rw [iv_len]; omega, by rw [iv_len]; omega, for_range (lo := 0) (n := (iv as).length)
      (fun j σ H' => ∃ (m : LM.M) (pre : List Nat) (i : Nat) (x y u : Option V), σ = [some (.ref a), some (.ref b), some (.int (i : Int)), some (.int (LM.wy (LM.m0 al as) : Int)), some (.ref p), some (.ref fo), x, y, u] ∧ Same H H' ∧ MvAt C H' p b lw ll le m ∧ LM.WF al.length m (as.drop j) ∧
        i < LM.wy m ∧ H' fo = some (.lst (iv pre)) ∧ pre.length = j ∧ pre ++ LM.nth (as.drop j) m i = LM.nth as (LM.m0 al as) i0)
      ⟨LM.m0 al as, [], i0, none, none, none, rfl, z2, M1.same (same_new hfo _), W0, hi0, upd_same, rfl, rfl⟩ ?_ ?_⟩
    · rintro j σ H' hj ⟨m, pre, i, x, y, u, rfl, z, M, W, hi, hfo', hpl, he⟩
      rw [iv_len] at hj
      rw [Int.zero_add]
      have hv := LM.g_at hj
      rw [LM.drop_cons hv] at W
      rw [LM.nth_turn hv] at he
      have hsm : LM.sm (LM.wo m (LM.g as j)) (LM.opts m (LM.g as j)) = LM.wy m := LM.wy_split W
      obtain ⟨k1, k2, _⟩ := LM.pk_ok (f := LM.wo m (LM.g as j)) (LM.asc_opts m (LM.g as j)) (by rw [hsm]; exact hi)
      obtain ⟨t1, t2, t3, t4, t5⟩ := LM.take_ok W k1
      obtain ⟨dx, ho⟩ := M.ob
      have hdl : (LM.g as j :: as.drop (j + 1)).length ≤ 20 := by
        rw [List.length_cons, List.length_drop]; omega
      refine ⟨fun σ' H2 => ∃ u' : Option V, σ' = [some (.ref a), some (.ref b), some (.int ((LM.pk (LM.wo m (LM.g as j)) (LM.opts m (LM.g as j)) i).2 : Int)), some (.int (LM.wy (LM.m0 al as) : Int)), some (.ref p), some (.ref fo), some (.int (j : Int)),
        some (.int ((LM.pk (LM.wo m (LM.g as j)) (LM.opts m (LM.g as j)) i).1 : Int)), u'] ∧ Same H' H2, ?_, ?_⟩
      · -- for chosen in moves.options(bucket)
        refine ⟨_, rfl, p, dx, _, rfl, ho, mf_no _ _ _ _ (by decide +kernel) (by decide +kernel) (by decide +kernel) (by decide +kernel), _, rfl, p, b, lw, ll, le, m, as, j, _, rfl, M, sameT z hS.1, hv, t1, by rw [W.ll, W.lw], by rw [W.le, W.lw], by rw [W.lw]; exact hk5, W.dj _, fun q' H2 z3 _ hq => ?_⟩
        refine ⟨q', rfl, ⟨_, SqL.of hq⟩, for_list (K := K) (a := q') (xs := iv (LM.opts m (LM.g as j)))
          (fun t σ' H3 => ∃ (i' : Nat) (y' u' : Option V), σ' = [some (.ref a), some (.ref b), some (.int (i' : Int)), some (.int (LM.wy (LM.m0 al as) : Int)), some (.ref p), some (.ref fo), some (.int (j : Int)), y', u'] ∧ Same H2 H3 ∧
            i' < LM.sm (LM.wo m (LM.g as j)) ((LM.opts m (LM.g as j)).drop t) ∧ LM.pk (LM.wo m (LM.g as j)) ((LM.opts m (LM.g as j)).drop t) i' = LM.pk (LM.wo m (LM.g as j)) (LM.opts m (LM.g as j)) i)
          ⟨i, y, u, rfl, Same.refl _, by rw [List.drop_zero, hsm]; exact hi, by rw [List.drop_zero]⟩ (fun t σ' H3 _ ⟨_, _, _, _, z4, _⟩ => SqL.of (z4 _ _ hq)) ?_ ?_⟩
        · rintro t x' σ' H3 hx' ⟨i', y', u', rfl, z4, hi', hpk⟩
          obtain ⟨ch, hch, rfl⟩ := iv_get hx'
          have hm : ch ∈ LM.opts m (LM.g as j) := List.mem_of_getElem? hch
          -- here = ways_with(moves, bucket, chosen)
          refine ⟨_, rfl, _, rfl, _, rfl, p, b, lw, ll, le, m, as, as.drop (j + 1), j, _, ch, al.length, rfl, M.same (z3.trans z4), sameT (z.trans (z3.trans z4)) hS.1, hv, W, hdl, hk5, hm, fun H4 z5 => ?_⟩
          refine ⟨_, rfl, _, rfl, _, _, rfl, rfl, _, rfl, ?_⟩
          refine ite2 (fun h1 => ?_) (fun h1 => ?_)
          · have h1' : i' < LM.wo m (LM.g as j) ch := by
              have := of_decide_eq_true h1
              omega
            rw [LM.pk_hit hch h1'] at hpk
            refine ⟨some (.int (LM.wo m (LM.g as j) ch : Int)), ?_, (z3.trans z4).trans z5⟩
            rw [← hpk]
            rfl
          · have h1' : ¬ i' < LM.wo m (LM.g as j) ch := fun q => h1 (decide_eq_true (by omega))
            rw [LM.pk_miss hch h1'] at hpk
            rw [LM.sm_drop hch] at hi'
            refine ⟨_, rfl, _, rfl, _, _, rfl, rfl, ⟨i' - LM.wo m (LM.g as j) ch, some (.int (ch : Int)), some (.int (LM.wo m (LM.g as j) ch : Int)), ?_, z4.trans z5, by omega, hpk⟩⟩
            have e : ((i' - LM.wo m (LM.g as j) ch : Nat) : Int) = (i' : Int) - (LM.wo m (LM.g as j) ch : Int) := by omega
            rw [e]
            rfl
        · rintro σ' H3 ⟨i', y', u', rfl, z4, hi', hpk⟩
          rw [iv_len, List.drop_length] at hi'
          exact absurd hi' (Nat.not_lt_zero _)
      · rintro σ' H2 ⟨u', rfl, z3⟩
        -- moves.take(bucket, chosen); found.append(chosen)
        refine ⟨_, rfl, p, dx, _, rfl, z3 _ _ ho, mf_no _ _ _ _ (by decide +kernel) (by decide +kernel) (by decide +kernel) (by decide +kernel), _, rfl, _, rfl, p, b, lw, ll, le, m, as, j, _, _, rfl, M.same z3, sameT (z.trans z3) hS.1, hv, t1, t2, t3, t4, t5, fun H3 M3 b3 => ?_⟩
        have hfo3 : H3 fo = some (.lst (iv pre)) := b3 _ _ (z3 _ _ hfo') nfw nfl nfe
        have z4 : Same H H3 := same_but (z.trans z3) b3 nw nl ne
        refine ⟨_, rfl, .inl ⟨rfl, _, SqL.of hfo3⟩, _, rfl, fo, _, _, rfl, rfl, hfo3, by rw [iv_len]; exact small1000 (by omega), ?_⟩
        refine ⟨_, pre ++ [(LM.pk (LM.wo m (LM.g as j)) (LM.opts m (LM.g as j)) i).1], _, _, _, _, rfl, same_set hf0 z4, M3.app hfo3 nfw nfl nfe, W.tk k1, k2, ?_, by rw [List.length_append, hpl]; rfl, ?_⟩
        · rw [upd_same, iv_one, iv_append]
        · rw [List.append_assoc]
          exact he
    · rintro σ H' ⟨m, pre, i, x, y, u, rfl, z, M, W, hi, hfo', hpl, he⟩
      rw [iv_len, List.drop_length] at he
      have e2 : pre = LM.nth as (LM.m0 al as) i0 := by
        have : LM.nth [] m i = [] := rfl
        rw [this, List.append_nil] at he
        exact he
      refine ⟨_, rfl, fo, _, rfl, SqL.of hfo', fun l ob hl hd => ?_⟩
      rw [e2]
      exact q l _ (z.trans (same_new hl _)) (FT.new hd)
end
end LX

/-! LD9: index_of, next_change. -/
namespace LX
open PySem L2 LR
def spIndex (K : PySem.W.Frag) : Sp := fun vs H Q _ => ∃ (a b o : Addr) (al as cs : List Nat), vs = [.ref a, .ref b, .ref o] ∧ AlAt K H a al ∧ AsAt K H b al as ∧ FT H b (iv as) ∧ FT H o (iv cs) ∧ LM.Path as (LM.m0 al as) cs ∧ ∀ H', Same H H' → Q (.int (LM.idx as (LM.m0 al as) cs : Nat)) H'
/-- what is answered: None, or a tuple -/
def Opt (H : Hp) (v : V) : Option (List Nat) → Prop
  | none => v = .non
  | some l => ∃ r, v = .ref r ∧ FT H r (iv l)
def spNext (K : PySem.W.Frag) : Sp := fun vs H Q _ => ∃ (a b o : Addr) (al as cs : List Nat) (k : Nat), vs = [.ref a, .ref b, .ref o, .int (k : Nat)] ∧ AlAt K H a al ∧ AsAt K H b al as ∧ FT H b (iv as) ∧ FT H o (iv cs) ∧ LM.Path as (LM.m0 al as) cs ∧ k + 1 = as.length ∧
  ∀ (v : V) (H' : Hp), Same H H' → Opt H' v ((LM.nx as (LM.m0 al as) cs).map fun p => LM.cmpl p as (LM.m0 al as)) → Q v H'
section
variable {P : Program} {w : World} {K : PySem.W.Frag} {mg : Str → Option Value} {base : Heap}
theorem path_asAt {H : Hp} {o : Addr} {al as cs : List Nat} (h1 : ∀ n ∈ as, n < al.length) (h2 : as.length = al.sum) (hp : LM.Path as (LM.m0 al as) cs) (ho : SqT K H o (iv cs)) : AsAt K H o al cs :=
  ⟨ho, by rw [hp.len, h2], hp.lt (LM.wf0 h1 h2.symm)⟩
theorem path_noNeed {al as cs : List Nat} (h1 : ∀ n ∈ as, n < al.length) (h2 : as.length = al.sum) (hp : LM.Path as (LM.m0 al as) cs) : NoNeed as cs := fun i v c hv hc n => by
  have e := LM.path_alloc h1 h2.symm hp
  have hl := hp.lt (LM.wf0 h1 h2.symm)
  obtain ⟨q1, q2⟩ := LM.path_moves h1 h2.symm hp hv hc n
  have kv := h1 v (List.mem_of_getElem? hv)
  have kc := hl c (List.mem_of_getElem? hc)
  have e1 : LM.g al v = cs.count v := by rw [← LM.g_cnts (vs := cs) kv, e]
  have e2 : LM.g al c = cs.count c := by rw [← LM.g_cnts (vs := cs) kc, e]
  omega
theorem scIndex : FnScope ["allocation", "assignment", "other", "moves", "index", "bucket", "variant", "chosen"] ["allocation", "assignment", "other"] (defScope sIndex) := ⟨rfl, rfl, rfl, by decide +kernel, rfl, by decide +kernel, by decide +kernel⟩
theorem ok_index {f C : Addr} {fd : FuncData} (F : Fun K "index_of" "index_of" sIndex f fd) (T : Txt K mg) (c : ClM K mg C) (D1 : Dfn P w K mg base 4 "check_allocation" ["value"] (spChkAlloc K)) (D2 : Dfn P w K mg base 4 "check_assignment" ["allocation", "value", "name"] (spChkAssign K))
    (DL : Dfn P w K mg base 2 "is_least" ["allocation", "assignment", "other"] (spIsLeast K)) (DM : Dfn P w K mg base 3 "moves_of" ["allocation", "assignment"] (spMovesOf K C)) (DW : Dfn P w K mg base 3 "ways_with" ["moves", "bucket", "chosen"] (spWaysWith K C))
    (DO : MthM P w K mg base C 1 "options" ["self", "bucket"] (spOptions K C)) (DT : MthM P w K mg base C 1 "take" ["self", "bucket", "chosen"] (spTake K C)) : FnOk P w K mg base CX0 5 f fd ["allocation", "assignment", "other"] (spIndex K) := by
  refine F.ok scIndex (fun vs H Q E h => ?_) (fun cdv A outer s H vs Q E hr h => ?_)
  · obtain ⟨a, b, o, al, as, cs, rfl, _⟩ := h
    rfl
  · obtain ⟨a, b, o, al, as, cs, rfl, hA, hS, hF, hO, hP, q⟩ := h
    have nd := scIndex.nd
    refine ⟨_, pss_cons (ps_expr (pe_d D1 hr (by decide) (by rfl) (pa_cons (pv 0) pa_nil)))
      (pss_cons (ps_expr (pe_d D2 hr (by decide) (by rfl) (pa_cons (pv 0) (pa_cons (pv 1) (pa_cons pe_str pa_nil)))))
      (pss_cons (ps_expr (pe_d D2 hr (by decide) (by rfl) (pa_cons (pv 0) (pa_cons (pv 2) (pa_cons pe_str pa_nil)))))
      (pss_cons (ps_if (pt_not (pt_val (pe_d DL hr (by decide) (by rfl) (pa_cons (pv 0) (pa_cons (pv 1) (pa_cons (pv 2) pa_nil)))))) (pss_one (ps_ret pe_non)) pss_nil)
      (pss_cons (ps_set (i := 3) nd rfl (Or.inl rfl) (pe_d DM hr (by decide) (by rfl) (pa_cons (pv 0) (pa_cons (pv 1) pa_nil))))
      (pss_cons (ps_set (i := 4) nd rfl (Or.inl rfl) pe_int)
      (pss_cons (ps_for PassesOwn.never rfl (pi_enumT (by rfl) T.enum (pa_cons (pv 2) pa_nil)) (pg_tup rfl (pgs_cons (pg_name (i := 5) nd rfl (Or.inl rfl)) (pgs_cons (pg_name (i := 6) nd rfl (Or.inl rfl)) pgs_nil)))
        (pss_cons (ps_for PassesOwn.never rfl (pi_list (pe_mm c DO hr (by decide) (pv 3) (pa_cons (pv 5) pa_nil))) (pg_name (i := 7) nd rfl (Or.inl rfl))
          (pss_one (ps_if (pt_cmpR op_lt (pv 7) (pv 6) (nomark _)) (pss_one (ps_set (i := 4) nd rfl (Or.inl rfl) (pe_op op_add (pv 4) (pe_d DW hr (by decide) (by rfl) (pa_cons (pv 3) (pa_cons (pv 5) (pa_cons (pv 7) pa_nil))))))) pss_nil)))
        (pss_one (ps_expr (pe_mm c DT hr (by decide) (pv 3) (pa_cons (pv 5) (pa_cons (pv 6) pa_nil)))))))
      (pss_one (ps_ret (pv 4))))))))), ?_⟩
    have hlen := hS.2.1
    have h20 := hA.2.2.2
    have hk5 := hA.2.2.1
    have W0 := LM.wf0 hS.2.2 hlen.symm
    have hcl := hP.len
    have hlt := hP.lt W0
    -- the checks
    refine ⟨_, rfl, a, al, rfl, hA, fun H1 z1 => ?_⟩
    refine ⟨_, rfl, _, rfl, a, b, al, as, _, rfl, hA.same z1, hS.same z1, fun H2 y2 => ?_⟩
    have z2 := z1.trans y2
    refine ⟨_, rfl, _, rfl, a, o, al, cs, _, rfl, hA.same z2, path_asAt hS.2.2 hlen hP (hO.same z2).seq, fun H3 y3 => ?_⟩
    have z3 := z2.trans y3
    refine ⟨_, rfl, _, rfl, _, rfl, a, b, o, al, as, cs, rfl, hA.same z3, hF.same z3, hO.same z3, hcl.symm, hS.2.2, hlt, LM.path_alloc hS.2.2 hlen.symm hP, path_noNeed hS.2.2 hlen hP, fun H4 y4 => ⟨true, rfl, iteF ?_⟩⟩
    have z4 := z3.trans y4
    -- moves, index
    refine ⟨_, rfl, _, rfl, a, b, al, as, rfl, hA.same z4, hF.same z4, fun p lw ll le H5 M5 y5 np nw nl ne => ?_⟩
    have nw := z4.free nw
    have nl := z4.free nl
    have ne := z4.free ne
    have z5 := z4.trans y5
    refine ⟨_, rfl, o, _, rfl, (hO.same z5).seq, for_enumT (K := K) (t := o) (us := iv cs)
      (fun j σ H' => ∃ (m : LM.M) (i : Nat) (x y u : Option V), σ = [some (.ref a), some (.ref b), some (.ref o), some (.ref p), some (.int (i : Int)), x, y, u] ∧ Same H H' ∧ MvAt C H' p b lw ll le m ∧ LM.WF al.length m (as.drop j) ∧
        LM.Path (as.drop j) m (cs.drop j) ∧ i + LM.idx (as.drop j) m (cs.drop j) = LM.idx as (LM.m0 al as) cs)
      ⟨LM.m0 al as, 0, none, none, none, rfl, z5, M5, W0, hP, by rw [Nat.zero_add]; rfl⟩ (fun j σ H' _ ⟨_, _, _, _, _, _, z, _⟩ => (hO.same z).seq) ?_ ?_⟩
    · rintro j x' T' σ H' hx ⟨m, i, x, y, u, rfl, z, M, W, hp, he⟩ hT
      obtain ⟨cc, hc, rfl⟩ := iv_get hx
      have hj : j < as.length := by
        have := (List.getElem?_eq_some_iff.mp hc).1
        omega
      have hv := LM.g_at hj
      rw [LM.idx_turn hv hc] at he
      rw [LM.drop_cons hv] at W
      rw [LM.drop_cons hv, LM.drop_cons hc] at hp
      obtain ⟨hm, hp'⟩ := hp.drop_one
      obtain ⟨t1, t2, t3, t4, t5⟩ := LM.take_ok W hm
      have hdl : (LM.g as j :: as.drop (j + 1)).length ≤ 20 := by
        rw [List.length_cons, List.length_drop]; omega
      have y1 : Same H' (upd H' T' (.tup [.int (j : Nat), V.int (cc : Int)])) := same_new hT _
      have z1 := z.trans y1
      have M1 := M.same y1
      obtain ⟨dx, ho⟩ := M1.ob
      refine ⟨T', _, rfl, .inl (.inl upd_same), rfl, _, _, rfl, _, _, rfl, rfl, ?_⟩
      -- for chosen in moves.options(bucket)
      refine ⟨_, rfl, p, dx, _, rfl, ho, mf_no _ _ _ _ (by decide +kernel) (by decide +kernel) (by decide +kernel) (by decide +kernel), _, rfl, p, b, lw, ll, le, m, as, j, _, rfl, M1, sameT z1 hS.1, hv, t1, by rw [W.ll, W.lw], by rw [W.le, W.lw], by rw [W.lw]; exact hk5, W.dj _, fun q' H2 y2 _ hq => ?_⟩
      refine ⟨q', rfl, ⟨_, SqL.of hq⟩, for_list (K := K) (a := q') (xs := iv (LM.opts m (LM.g as j)))
        (fun t σ' H3 => ∃ (u' : Option V), σ' = [some (.ref a), some (.ref b), some (.ref o), some (.ref p), some (.int ((i + LM.sm (LM.wo m (LM.g as j)) (((LM.opts m (LM.g as j)).take t).filter (fun z => decide (z < cc))) : Nat) : Int)), some (.int (j : Int)), some (.int (cc : Int)), u'] ∧ Same H2 H3)
        ⟨u, rfl, Same.refl _⟩ (fun t σ' H3 _ ⟨_, _, z4⟩ => SqL.of (z4 _ _ hq)) ?_ ?_⟩
      · rintro t x'' σ' H3 hx' ⟨u', rfl, z4⟩
        obtain ⟨ch, hch, rfl⟩ := iv_get hx'
        have hmm : ch ∈ LM.opts m (LM.g as j) := List.mem_of_getElem? hch
        refine ⟨_, rfl, _, rfl, _, _, rfl, rfl, _, rfl, ?_⟩
        refine ite2 (fun h1 => ?_) (fun h1 => ?_)
        · have h1' : ch < cc := by
            have := of_decide_eq_true h1
            omega
          refine ⟨_, rfl, _, rfl, _, rfl, _, rfl, p, b, lw, ll, le, m, as, as.drop (j + 1), j, _, ch, al.length, rfl, M1.same (y2.trans z4), sameT (z1.trans (y2.trans z4)) hS.1, hv, W, hdl, hk5, hmm, fun H4 z5 => ?_⟩
          refine ⟨_, _, rfl, rfl, some (.int (ch : Int)), ?_, z4.trans z5⟩
          rw [LM.filter_take_succ hch, if_pos (decide_eq_true h1'), LM.sm_append]
          have e : ((i + (LM.sm (LM.wo m (LM.g as j)) (((LM.opts m (LM.g as j)).take t).filter (fun z => decide (z < cc))) + LM.sm (LM.wo m (LM.g as j)) [ch]) : Nat) : Int) =
              ((i + LM.sm (LM.wo m (LM.g as j)) (((LM.opts m (LM.g as j)).take t).filter (fun z => decide (z < cc))) : Nat) : Int) + (LM.wo m (LM.g as j) ch : Int) := by
            have e2 : LM.sm (LM.wo m (LM.g as j)) [ch] = LM.wo m (LM.g as j) ch := by simp [LM.sm]
            rw [e2]
            omega
          rw [e]
          rfl
        · have h1' : ¬ ch < cc := fun q => h1 (decide_eq_true (by omega))
          refine ⟨some (.int (ch : Int)), ?_, z4⟩
          rw [LM.filter_take_succ hch, if_neg (by simpa using h1'), List.append_nil]
          rfl
      · rintro σ' H3 ⟨u', rfl, z4⟩
        rw [iv_len, List.take_of_length_le (Nat.le_refl _)]
        -- moves.take(bucket, variant)
        have y3 := y2.trans z4
        refine ⟨_, rfl, p, dx, _, rfl, y3 _ _ ho, mf_no _ _ _ _ (by decide +kernel) (by decide +kernel) (by decide +kernel) (by decide +kernel), _, rfl, _, rfl, p, b, lw, ll, le, m, as, j, _, cc, rfl, M1.same y3, sameT (z1.trans y3) hS.1, hv, t1, t2, t3, t4, t5, fun H4 M4 b4 => ?_⟩
        exact ⟨_, _, _, _, _, rfl, same_but (z1.trans y3) b4 nw nl ne, M4, W.tk hm, hp', by rw [Nat.add_assoc]; exact he⟩
    · rintro σ H' ⟨m, i, x, y, u, rfl, z, M, W, hp, he⟩
      rw [iv_len, List.drop_length] at he
      have e2 : i = LM.idx as (LM.m0 al as) cs := by
        have : LM.idx (as.drop cs.length) m [] = 0 := by cases as.drop cs.length <;> rfl
        rw [this] at he
        exact he
      subst e2
      exact ⟨_, rfl, q _ z⟩
end
end LX

/-! LDa: next_change. -/
namespace LX
open PySem L2 LR
/-- the best so far: None, or a tuple -/
def Bst (K : PySem.W.Frag) (H : Hp) (v : V) : Option (List Nat) → Prop
  | none => v = .non
  | some l => ∃ r, v = .ref r ∧ SqT K H r (iv l)
theorem Bst.same {K : PySem.W.Frag} {H H' : Hp} {v : V} {b : Option (List Nat)} (s : Same H H') (h : Bst K H v b) : Bst K H' v b := by
  cases b with
  | none => exact h
  | some l => exact let ⟨r, e, z⟩ := h; ⟨r, e, sameT s z⟩
theorem sqT_but {K : PySem.W.Frag} {H H' : Hp} {r lw ll le : Addr} {xs w l e : List V} (h : SqT K H r xs) (hw : H lw = some (.lst w)) (hl : H ll = some (.lst l)) (he : H le = some (.lst e)) (k : But3 lw ll le H H') : SqT K H' r xs := by
  rcases h with (h | ⟨o, h⟩) | h
  · exact .inl (.inl (k _ _ h (ne_of h hw (by intro z; cases z)) (ne_of h hl (by intro z; cases z)) (ne_of h he (by intro z; cases z))))
  · exact .inl (.inr ⟨o, k _ _ h (ne_of h hw (by intro z; cases z)) (ne_of h hl (by intro z; cases z)) (ne_of h he (by intro z; cases z))⟩)
  · exact .inr h
theorem Bst.but {K : PySem.W.Frag} {C : Addr} {H H' : Hp} {v : V} {b : Option (List Nat)} {p a lw ll le : Addr} {m : LM.M} (h : Bst K H v b) (M : MvAt C H p a lw ll le m) (k : But3 lw ll le H H') : Bst K H' v b := by
  cases b with
  | none => exact h
  | some l => exact let ⟨r, e, z⟩ := h; ⟨r, e, sqT_but z M.hw M.hl M.he k⟩
theorem cut_iv {cs : List Nat} {j : Nat} (h : j ≤ cs.length) : cutV (iv cs) none (some (j : Int)) = iv (cs.take j) := by
  unfold cutV
  rw [HT.sIx_none, HT.sIx_nat, iv_len, Nat.min_eq_left h, List.drop_zero, Nat.sub_zero]
  simp [iv, up, List.map_take]
section
variable {P : Program} {w : World} {K : PySem.W.Frag} {mg : Str → Option Value} {base : Heap}
theorem scNext : FnScope ["allocation", "assignment", "other", "bucket", "moves", "best", "at", "later", "chosen"] ["allocation", "assignment", "other", "bucket"] (defScope sNext) := ⟨rfl, rfl, rfl, by decide +kernel, rfl, by decide +kernel, by decide +kernel⟩
theorem ok_next {f C : Addr} {fd : FuncData} (F : Fun K "next_change" "next_change" sNext f fd) (T : Txt K mg) (c : ClM K mg C) (D1 : Dfn P w K mg base 4 "check_allocation" ["value"] (spChkAlloc K)) (D2 : Dfn P w K mg base 4 "check_assignment" ["allocation", "value", "name"] (spChkAssign K))
    (DL : Dfn P w K mg base 2 "is_least" ["allocation", "assignment", "other"] (spIsLeast K)) (DB : Dfn P w K mg base 2 "check_bucket" ["allocation", "bucket"] (spChkBucket K)) (DM : Dfn P w K mg base 3 "moves_of" ["allocation", "assignment"] (spMovesOf K C))
    (DC : Dfn P w K mg base 4 "completed" ["allocation", "assignment", "begun"] (spCompleted K))
    (DO : MthM P w K mg base C 1 "options" ["self", "bucket"] (spOptions K C)) (DT : MthM P w K mg base C 1 "take" ["self", "bucket", "chosen"] (spTake K C)) : FnOk P w K mg base CX0 5 f fd ["allocation", "assignment", "other", "bucket"] (spNext K) := by
  refine F.ok scNext (fun vs H Q E h => ?_) (fun cdv A outer s H vs Q E hr h => ?_)
  · obtain ⟨a, b, o, al, as, cs, k, rfl, _⟩ := h
    rfl
  · obtain ⟨a, b, o, al, as, cs, k, rfl, hA, hS, hF, hO, hP, hk, q⟩ := h
    have nd := scNext.nd
    refine ⟨_, pss_cons (ps_expr (pe_d D1 hr (by decide) (by rfl) (pa_cons (pv 0) pa_nil)))
      (pss_cons (ps_expr (pe_d D2 hr (by decide) (by rfl) (pa_cons (pv 0) (pa_cons (pv 1) (pa_cons pe_str pa_nil)))))
      (pss_cons (ps_expr (pe_d D2 hr (by decide) (by rfl) (pa_cons (pv 0) (pa_cons (pv 2) (pa_cons pe_str pa_nil)))))
      (pss_cons (ps_if (pt_not (pt_val (pe_d DL hr (by decide) (by rfl) (pa_cons (pv 0) (pa_cons (pv 1) (pa_cons (pv 2) pa_nil)))))) pss_never pss_nil)
      (pss_cons (ps_expr (pe_d DB hr (by decide) (by rfl) (pa_cons (pv 0) (pa_cons (pv 3) pa_nil))))
      (pss_cons (ps_set (i := 4) nd rfl (Or.inl rfl) (pe_d DM hr (by decide) (by rfl) (pa_cons (pv 0) (pa_cons (pv 1) pa_nil))))
      (pss_cons (ps_set (i := 5) nd rfl (Or.inl rfl) pe_non)
      (pss_cons (ps_for PassesOwn.never rfl (pi_range1 (by rfl) T.range (pa_cons (pe_op op_add (pv 3) pe_int) pa_nil)) (pg_name (i := 6) nd rfl (Or.inr rfl))
        (pss_cons (ps_setLc (i := 7) (own := [("chosen", 8)]) (g := gName 8) (by rfl) nd rfl rfl (sw_true rfl rfl rfl (by decide +kernel)) (pi_list (pe_mm c DO hr (by decide) (pv 4) (pa_cons (pv 6) pa_nil)))
          (blkOk_by (own := [("chosen", 8)]) (N := ["allocation", "assignment", "other", "bucket", "moves", "best", "at", "later", "chosen"]) (sc := defScope sNext) (by decide +kernel))
          (fun _ _ _ _ _ => pg_name (i := 8) nd rfl (Or.inl rfl)) (fun _ _ _ _ _ => pts_one (pt_cmpR op_gt (pv 8) (pe_ix (r := rIxT K) ix_tup (pv 2) (pv 6) (fun _ _ => rfl)) (nomark _))) (fun _ _ _ _ _ => pv 8))
        (Evl.pss_cut (ps_if (pt_truth (pv 7) (by intro _; rfl))
          (pss_one (ps_set (i := 5) nd rfl (Or.inl rfl) (pe_op op_catA (pe_slice sl_tup (pv 2) po_none (po_some (pv 6))) (pe_tup (pa_cons (pe_ix ix_list (pv 7) pe_int (fun _ _ => rfl)) pa_nil))))) pss_nil)
        (pss_one (ps_expr (pe_mm c DT hr (by decide) (pv 4) (pa_cons (pv 6) (pa_cons (pe_ix ix_tup (pv 2) (pv 6) (fun _ _ => rfl)) pa_nil))))))))
      (pss_one (ps_ret (pe_ifExp (pt_cmpR op_isN (pv 5) pe_non (nomark _)) pe_non (pe_d DC hr (by decide) (by rfl) (pa_cons (pv 0) (pa_cons (pv 1) (pa_cons (pv 5) pa_nil)))))))))))))), ?_⟩
    have hlen := hS.2.1
    have h20 := hA.2.2.2
    have hk5 := hA.2.2.1
    have W0 := LM.wf0 hS.2.2 hlen.symm
    have hcl := hP.len
    have hlt := hP.lt W0
    -- the checks
    refine ⟨_, rfl, a, al, rfl, hA, fun H1 z1 => ?_⟩
    refine ⟨_, rfl, _, rfl, a, b, al, as, _, rfl, hA.same z1, hS.same z1, fun H2 y2 => ?_⟩
    have z2 := z1.trans y2
    refine ⟨_, rfl, _, rfl, a, o, al, cs, _, rfl, hA.same z2, path_asAt hS.2.2 hlen hP (hO.same z2).seq, fun H3 y3 => ?_⟩
    have z3 := z2.trans y3
    refine ⟨_, rfl, _, rfl, _, rfl, a, b, o, al, as, cs, rfl, hA.same z3, hF.same z3, hO.same z3, hcl.symm, hS.2.2, hlt, LM.path_alloc hS.2.2 hlen.symm hP, path_noNeed hS.2.2 hlen hP, fun H4 y4 => ⟨true, rfl, iteF ?_⟩⟩
    have z4 := z3.trans y4
    refine ⟨_, rfl, _, rfl, a, al, k, rfl, hA.same z4, by omega, ?_⟩
    -- moves, best
    refine ⟨_, rfl, _, rfl, a, b, al, as, rfl, hA.same z4, hF.same z4, fun p lw ll le H5 M5 y5 np nw nl ne => ?_⟩
    have nw := z4.free nw
    have nl := z4.free nl
    have ne := z4.free ne
    have z5 := z4.trans y5
    refine ⟨_, rfl, _, _, rfl, rfl, _, rfl, by omega, by omega, for_range (lo := 0) (n := k + 1)
      (fun j σ H' => ∃ (m : LM.M) (best : Option (List Nat)) (bv : V) (x y u : Option V), σ = [some (.ref a), some (.ref b), some (.ref o), some (.int (k : Int)), some (.ref p), some bv, x, y, u] ∧ Same H H' ∧ MvAt C H' p b lw ll le m ∧ LM.WF al.length m (as.drop j) ∧
        LM.Path (as.drop j) m (cs.drop j) ∧ Bst K H' bv best ∧ LM.fin (cs.take j) best (LM.nx (as.drop j) m (cs.drop j)) = LM.nx as (LM.m0 al as) cs)
      ⟨LM.m0 al as, none, .non, none, none, none, rfl, z5, M5, W0, hP, rfl, ?_⟩ ?_ ?_⟩
    · show LM.fin (cs.take 0) none (LM.nx as (LM.m0 al as) cs) = LM.nx as (LM.m0 al as) cs
      cases LM.nx as (LM.m0 al as) cs with
      | none => rfl
      | some p => rfl
    · rintro j σ H' hj ⟨m, best, bv, x, y, u, rfl, z, M, W, hp, hB, he⟩
      rw [Int.zero_add]
      have hj' : j < as.length := by omega
      have hv := LM.g_at hj'
      have hc := LM.g_at (xs := cs) (i := j) (by omega)
      rw [LM.nx_turn hv hc] at he
      rw [LM.drop_cons hv] at W
      rw [LM.drop_cons hv, LM.drop_cons hc] at hp
      obtain ⟨hm, hp'⟩ := hp.drop_one
      obtain ⟨t1, t2, t3, t4, t5⟩ := LM.take_ok W hm
      obtain ⟨dx, ho⟩ := M.ob
      -- later = [chosen for chosen in moves.options(at) if chosen > other[at]]
      refine ⟨_, rfl, p, dx, _, rfl, ho, mf_no _ _ _ _ (by decide +kernel) (by decide +kernel) (by decide +kernel) (by decide +kernel), _, rfl, p, b, lw, ll, le, m, as, j, _, rfl, M, sameT z hS.1, hv, t1, by rw [W.ll, W.lw], by rw [W.le, W.lw], by rw [W.lw]; exact hk5, W.dj _, fun q' H2 y2 _ hq => ?_⟩
      refine ⟨q', rfl, ⟨_, SqL.of hq⟩, fun D hD => lc_list (K := K) (a := q') (xs := iv (LM.opts m (LM.g as j))) (fun t H3 => Same H2 H3 ∧ H3 D = some (.lst (iv (((LM.opts m (LM.g as j)).take t).filter (fun z => decide (LM.g cs j < z)))))) ⟨same_new hD _, upd_same⟩ (fun t H3 _ z4 => SqL.of (z4.1 _ _ hq)) ?_ ?_⟩
      · rintro t x'' H3 hx' ⟨z4, zD⟩
        obtain ⟨ch, hch, rfl⟩ := iv_get hx'
        have hol : (LM.opts m (LM.g as j)).length ≤ 5 := by
          have h5 : (LM.opts m (LM.g as j)).length ≤ m.w.length := filter_len
          rw [W.lw] at h5
          omega
        refine ⟨rfl, ?_⟩
        refine ⟨_, rfl, _, rfl, _, rfl, o, _, _, _, rfl, rfl, (hO.same (z.trans (y2.trans z4))).seq, iv_i hc, _, _, rfl, rfl, _, rfl, ?_⟩
        refine ite2 (fun h1 => ?_) (fun h1 => ?_)
        · have h1' : LM.g cs j < ch := by
            have := of_decide_eq_true h1
            omega
          refine ⟨_, rfl, _, zD, ?_, same_set hD z4, ?_⟩
          · rw [iv_len]
            have h6 : (((LM.opts m (LM.g as j)).take t).filter (fun z => decide (LM.g cs j < z))).length ≤ 5 := Nat.le_trans (List.length_filter_le _ _) (by rw [List.length_take]; omega)
            exact small1000 (by omega)
          · rw [upd_same, LM.filter_take_succ hch, if_pos (decide_eq_true h1'), iv_one, iv_append]
        · have h1' : ¬ LM.g cs j < ch := fun q => h1 (decide_eq_true (by omega))
          refine ⟨z4, ?_⟩
          rw [zD, LM.filter_take_succ hch, if_neg (by simpa using h1'), List.append_nil]
      · rintro H3 ⟨z4, zD⟩
        rw [iv_len, List.take_of_length_le (Nat.le_refl _)] at zD
        have y4 := y2.trans z4
        have z6 := z.trans y4
        -- if later: best = other[:at] + (later[0],)
        refine ⟨fun σ' H4 => ∃ bv' : V, σ' = [some (.ref a), some (.ref b), some (.ref o), some (.int (k : Int)), some (.ref p), some bv', some (.int (j : Int)), some (.ref D), u] ∧ Same H3 H4 ∧
          Bst K H4 bv' (LM.nb (cs.take j) best ((LM.opts m (LM.g as j)).filter (fun z => decide (LM.g cs j < z)))), ?_, ?_⟩
        · refine ⟨_, rfl, _, .inl ⟨_, SqL.of zD, rfl⟩, ?_⟩
          cases e : (LM.opts m (LM.g as j)).filter (fun z => decide (LM.g cs j < z)) with
          | nil => exact iteF ⟨bv, rfl, Same.refl _, hB.same y4⟩
          | cons d r =>
            rw [e] at zD
            refine iteT ?_
            refine ⟨_, rfl, _, rfl, (j : Int), rfl, o, _, rfl, (hO.same z6).seq, fun hw => ?_, fun r1 hr1 => ?_⟩
            · have h2 := hw.2
              rw [HT.sIx_nat, iv_len] at h2
              omega
            · rw [cut_iv (by omega)]
              have zD1 := same_new hr1 (.tup (iv (cs.take j))) _ _ zD
              refine ⟨_, rfl, D, _, (0 : Int), V.int (d : Int), rfl, rfl, SqL.of zD1, iv_i (i := 0) rfl, (by show 1 ≤ sizeLine; decide), fun t ht => ?_⟩
              have y5 : Same H3 (upd (upd H3 r1 (.tup (iv (cs.take j)))) t (.tup [V.int (d : Int)])) := (same_new hr1 _).trans (same_new ht _)
              have hr1t : r1 ≠ t := fun e => by
                rw [← e, upd_same] at ht
                cases ht
              refine ⟨r1, t, _, _, rfl, rfl, .inl (.inl (by rw [upd_ne hr1t, upd_same])), .inl (.inl upd_same), ?_, fun hx => ?_, fun _ hy => (by cases hy), fun hx hy p' hp' => ?_⟩
              · rw [iv_len, List.length_take]
                exact Nat.le_of_lt (small1000 (by show min j cs.length + 1 ≤ 1000; omega))
              · refine ⟨.ref t, rfl, y5, t, rfl, .inl (.inl ?_)⟩
                have hnil : cs.take j = [] := by
                  have h3 := iv_len (ns := cs.take j)
                  rw [hx] at h3
                  exact List.eq_nil_of_length_eq_zero h3.symm
                rw [upd_same, hnil]
                rfl
              · refine ⟨.ref p', rfl, y5.trans (same_new hp' _), p', rfl, .inl (.inl ?_)⟩
                rw [upd_same, iv_one, iv_append]
        · rintro σ' H4 ⟨bv', rfl, z7, hB'⟩
          have y7 := y4.trans z7
          -- moves.take(at, other[at])
          refine ⟨_, rfl, p, dx, _, rfl, y7 _ _ ho, mf_no _ _ _ _ (by decide +kernel) (by decide +kernel) (by decide +kernel) (by decide +kernel), _, rfl, _, rfl, _, rfl, o, _, _, _, rfl, rfl, (hO.same (z.trans y7)).seq, iv_i hc, p, b, lw, ll, le, m, as, j, _, _, rfl, M.same y7, sameT (z.trans y7) hS.1, hv, t1, t2, t3, t4, t5, fun H5 M5 b5 => ?_⟩
          have z8 : Same H H5 := same_but (z.trans y7) b5 nw nl ne
          exact ⟨_, _, bv', _, _, _, rfl, z8, M5, W.tk hm, hp', hB'.but (M.same y7) b5, he⟩
    · rintro σ H' ⟨m, best, bv, x, y, u, rfl, z, M, W, hp, hB, he⟩
      rw [hk, List.drop_length] at he
      have e2 : best = LM.nx as (LM.m0 al as) cs := by
        have : LM.nx [] m (cs.drop as.length) = none := by
          unfold LM.nx
          rfl
        rw [this] at he
        exact he
      rw [e2] at hB
      refine ⟨_, rfl, rfl, _, rfl, ?_⟩
      cases e : LM.nx as (LM.m0 al as) cs with
      | none =>
        rw [e] at hB q
        have eb : bv = .non := hB
        subst eb
        exact iteT (q _ _ z rfl)
      | some l =>
        rw [e] at hB q
        obtain ⟨r, eb, hr⟩ := hB
        subst eb
        have nf : ¬ decide (V.ref r = V.non) = true := by simp
        rw [if_neg nf]
        have hn := LM.nx_some W0 hP e
        have hpl := LM.nx_pre e
        refine ⟨_, rfl, _, rfl, _, rfl, a, b, r, al, as, l, rfl, hA.same z, hS.same z, hF.same z, hr, by omega, hn.1, fun r2 H2 z2 h2 => ?_⟩
        exact q _ _ (z.trans z2) ⟨r2, rfl, h2⟩
end
end LX

/-! LDb: the law's own stream. -/
namespace LX
open PySem L2 LR
/-- a stream stands at p: its script's list at l, a cell, a place -/
def StAt (H : Hp) (p l : Addr) (ns : List Int) : Prop := H l = some (.lst (ns.map V.int)) ∧ ∃ c k : Nat, H p = some (.lst [.ref l, .int (c : Int), .int (k : Int)])
/-- all is kept but at p -/
def But1 (p : Addr) (H H' : Hp) : Prop := ∀ b o, H b = some o → b ≠ p → H' b = some o
theorem But1.trans {p : Addr} {H H1 H2 : Hp} (a : But1 p H H1) (b : But1 p H1 H2) : But1 p H H2 := fun x o e n => b x o (a x o e n) n
theorem But1.of {p : Addr} {H H1 : Hp} (a : Same H H1) : But1 p H H1 := fun x o e _ => a x o e
theorem StAt.ne {H : Hp} {p l : Addr} {ns : List Int} (h : StAt H p l ns) : l ≠ p := by
  obtain ⟨h1, c, k, h2⟩ := h
  intro e
  rw [e, h2] at h1
  cases ns with
  | nil => cases h1
  | cons n ns => cases h1
theorem StAt.same {H H' : Hp} {p l : Addr} {ns : List Int} (h : StAt H p l ns) (s : Same H H') : StAt H' p l ns := ⟨s _ _ h.1, let ⟨c, k, e⟩ := h.2; ⟨c, k, s _ _ e⟩⟩
def spStream (K : PySem.W.Frag) : Sp := fun vs H Q _ => ∃ (a : Addr) (ns : List Int), vs = [.ref a] ∧ SqL K H a (ns.map V.int) ∧ ∀ (p l : Addr) (H' : Hp), Same H H' → H p = none → H l = none → StAt H' p l ns → Q (.ref p) H'
def spLNext : Sp := fun vs H Q _ => ∃ (p l : Addr) (ns : List Int) (n : Nat), vs = [.ref p, .int (n : Int)] ∧ StAt H p l ns ∧ 0 < n ∧ n < 2 ^ 100 ∧ ∀ (d : Nat) (H' : Hp), d < n → StAt H' p l ns → But1 p H H' → Q (.int (d : Int)) H'
section
variable {P : Program} {w : World} {K : PySem.W.Frag} {mg : Str → Option Value} {base : Heap}
theorem scStream : FnScope ["_law_script"] ["_law_script"] (defScope sStream) := ⟨rfl, rfl, rfl, by decide +kernel, rfl, by decide +kernel, by decide +kernel⟩
theorem ok_stream {f : Addr} {fd : FuncData} (F : Fun K "_law_stream" "_law_stream" sStream f fd) (T : Txt K mg) : FnOk P w K mg base CX0 1 f fd ["_law_script"] (spStream K) := by
  refine F.ok scStream (fun vs H Q E h => ?_) (fun cdv A outer s H vs Q E hr h => ?_)
  · obtain ⟨a, ns, rfl, _⟩ := h
    rfl
  · obtain ⟨a, ns, rfl, ha, q⟩ := h
    refine ⟨_, pss_one (ps_ret (pe_lst (pa_cons (pe_callTy call_list_of (by rfl) T.list (by decide +kernel) (pa_cons (pv 0) pa_nil)) (pa_cons pe_int (pa_cons pe_int pa_nil))))), ?_⟩
    refine ⟨_, rfl, a, _, rfl, .inl ha, fun l hl => ⟨(by show 3 ≤ sizeLine; decide), fun p hp => ?_⟩⟩
    have nlp : l ≠ p := fun e => by
      rw [← e, upd_same] at hp
      cases hp
    exact q p l _ ((same_new hl _).trans (same_new hp _)) ((same_new hl _).free hp) hl ⟨by rw [upd_ne nlp, upd_same], 0, 0, upd_same⟩
theorem scLNext : FnScope ["_law_stream_here", "_law_many", "_law_k", "_law_cell", "_law_digit"] ["_law_stream_here", "_law_many"] (defScope sLNext) := ⟨rfl, rfl, rfl, by decide +kernel, rfl, by decide +kernel, by decide +kernel⟩
theorem ok_lnext {f : Addr} {fd : FuncData} (F : Fun K "_law_next" "_law_next" sLNext f fd) (T : Txt K mg) : FnOk P w K mg base CX0 1 f fd ["_law_stream_here", "_law_many"] spLNext := by
  refine F.ok scLNext (fun vs H Q E h => ?_) (fun cdv A outer s H vs Q E hr h => ?_)
  · obtain ⟨p, l, ns, n, rfl, _⟩ := h
    rfl
  · obtain ⟨p, l, ns, n, rfl, S, n0, n1, q⟩ := h
    have nd := scLNext.nd
    refine ⟨_, Evl.pss_cut (ps_if (pt_cmpR op_eq (pe_ix ix_list (pv 0) pe_int (fun _ _ => rfl)) pe_int (nomark _))
        (pss_cons (ps_set (i := 2) nd rfl (Or.inl rfl) (pe_ix ix_list (pv 0) pe_int (fun _ _ => rfl)))
        (pss_cons (ps_set (i := 3) nd rfl (Or.inl rfl) (pe_op op_add pe_int (pv 2)))
        (Evl.pss_cut (ps_if (pt_cmpR op_lt (pv 2) (pe_callB call_len_seq (by rfl) T.len PySem.boot_len (pa_cons (pe_ix ix_list (pv 0) pe_int (fun _ _ => rfl)) pa_nil)) (nomark _))
          (pss_one (ps_set (i := 3) nd rfl (Or.inl rfl) (pe_callB call_abs (by rfl) T.abs (by decide +kernel) (pa_cons (pe_ix ix_list (pe_ix ix_list (pv 0) pe_int (fun _ _ => rfl)) (pv 2) (fun _ _ => rfl)) pa_nil)))) pss_nil)
        (Evl.pss_cut (ps_if (pt_cmpR op_lt (pv 3) (pe_op op_pow pe_int pe_int) (nomark _))
          (pss_cons (ps_set (i := 3) nd rfl (Or.inl rfl) (pe_op op_mod (pe_callTy call_int1 (by rfl) T.int (by decide +kernel) (pa_cons (pe_op op_add (pe_op op_add (pe_op op_mul (pv 3) pe_int) (pe_op op_mul (pv 2) pe_int)) pe_int) pa_nil)) pe_int))
          (pss_one (ps_set (i := 3) nd rfl (Or.inl rfl) (pe_op op_add (pe_op op_mul (pe_op op_mod (pe_callTy call_int1 (by rfl) T.int (by decide +kernel) (pa_cons (pe_op op_add (pe_op op_mul (pv 3) pe_int) pe_int) pa_nil)) pe_int) pe_int) (pv 3))))) pss_nil)
        (pss_cons (ps_asg (pv 3) (pg_sub (pv 0) pe_int set_list))
        (pss_one (ps_asg (pe_op op_add (pv 2) pe_int) (pg_sub (pv 0) pe_int set_list)))))))) pss_nil)
      (pss_cons (ps_set (i := 4) nd rfl (Or.inl rfl) (pe_op op_mod (pe_callTy call_int1 (by rfl) T.int (by decide +kernel) (pa_cons (pe_ix ix_list (pv 0) pe_int (fun _ _ => rfl)) pa_nil)) (pv 1)))
      (pss_cons (ps_asg (pe_op op_fdivW (pe_ix ix_list (pv 0) pe_int (fun _ _ => rfl)) (pv 1)) (pg_sub (pv 0) pe_int set_list))
      (pss_one (ps_ret (pv 4))))), ?_⟩
    obtain ⟨hl, c, k, hp⟩ := id S
    have nlp := S.ne
    refine ⟨fun σ' H' => ∃ x y : Option V, σ' = [some (.ref p), some (.int (n : Int)), x, y, none] ∧ StAt H' p l ns ∧ But1 p H H', ?_, ?_⟩
    · refine ⟨_, rfl, p, _, (1 : Int), V.int (c : Int), rfl, rfl, SqL.of hp, atI_nat (j := 1) rfl, rfl, _, rfl, ?_⟩
      refine ite2 (fun _ => ?_) (fun _ => ?_)
      · refine ⟨_, rfl, p, _, (2 : Int), V.int (k : Int), rfl, rfl, SqL.of hp, atI_nat (j := 2) rfl, ?_⟩
        refine ⟨_, rfl, _, _, rfl, rfl, ?_⟩
        -- the script's own cell
        refine ⟨fun σ' H' => ∃ c2 : Nat, σ' = [some (.ref p), some (.int (n : Int)), some (.int (k : Int)), some (.int (c2 : Int)), none] ∧ H = H', ?_, ?_⟩
        · refine ⟨_, rfl, _, rfl, p, _, (0 : Int), V.ref l, rfl, rfl, SqL.of hp, atI_nat (j := 0) rfl, l, _, rfl, .inl (SqL.of hl), _, _, rfl, rfl, _, rfl, ?_⟩
          refine ite2 (fun h1 => ?_) (fun h1 => ?_)
          · have h1' : k < ns.length := by
              have := of_decide_eq_true h1
              rw [List.length_map] at this
              omega
            have hz : (ns.map V.int)[k]? = some (V.int ns[k]) := by rw [List.getElem?_map, List.getElem?_eq_getElem h1']; rfl
            refine ⟨_, rfl, p, _, (0 : Int), V.ref l, rfl, rfl, SqL.of hp, atI_nat (j := 0) rfl, _, rfl, l, _, _, V.int ns[k], rfl, rfl, SqL.of hl, atI_nat hz, _, rfl, ns[k].natAbs, ?_, rfl⟩
            have e : (if ns[k] < 0 then -ns[k] else ns[k]) = ((ns[k].natAbs : Nat) : Int) := by split <;> omega
            show [some (V.ref p), some (V.int (n : Int)), some (V.int (k : Int)), some (V.int (if ns[k] < 0 then -ns[k] else ns[k])), none] = _
            rw [e]
          · refine ⟨7 + k, ?_, rfl⟩
            have e : (7 : Int) + (k : Int) = ((7 + k : Nat) : Int) := by omega
            show [some (V.ref p), some (V.int (n : Int)), some (V.int (k : Int)), some (V.int ((7 : Int) + (k : Int))), none] = _
            rw [e]
        · rintro σ' H' ⟨c2, rfl, rfl⟩
          -- mixed, where it is small
          refine ⟨fun σ' H' => ∃ c3 : Nat, σ' = [some (.ref p), some (.int (n : Int)), some (.int (k : Int)), some (.int (c3 : Int)), none] ∧ H = H', ?_, ?_⟩
          · obtain ⟨big, hbig⟩ : ∃ big : Int, (10 : Int) ^ ((18 : Int).toNat) = big := ⟨_, rfl⟩
            refine ⟨_, rfl, _, _, rfl, rfl, ⟨by decide, by decide, by decide⟩, _, big, rfl, congrArg V.int hbig, _, rfl, ?_⟩
            refine ite2 (fun _ => ?_) (fun _ => ?_)
            · refine ⟨_, rfl, _, _, rfl, rfl, .inr ⟨by decide, by decide⟩, _, rfl, _, _, rfl, rfl, .inr ⟨by decide, by decide⟩, _, _, rfl, rfl, _, _, rfl, rfl, .inl ⟨_, rfl, _, _, rfl, rfl, (by show (0 : Int) < 2147483647; decide), ?_⟩⟩
              obtain ⟨v1, hv1⟩ : ∃ v1 : Nat, ((c2 : Int) * 48271 + (k : Int) * 69621 + 11) % 2147483647 = (v1 : Int) := Int.eq_ofNat_of_zero_le (Int.emod_nonneg _ (by decide))
              refine ⟨_, rfl, _, _, rfl, rfl, .inr ⟨by decide, by decide⟩, _, _, rfl, rfl, .inl ⟨_, rfl, _, _, rfl, rfl, (by show (0 : Int) < 2147483647; decide), _, _, rfl, rfl, .inr ⟨by decide, by decide⟩, _, rfl, _, _, rfl, rfl, ?_⟩⟩
              obtain ⟨v2, hv2⟩ : ∃ v2 : Nat, ((v1 : Int) * 16807 + 13) % 2147483647 = (v2 : Int) := Int.eq_ofNat_of_zero_le (Int.emod_nonneg _ (by decide))
              refine ⟨v2 * 65537 + v1, ?_, rfl⟩
              show [some (V.ref p), some (V.int (n : Int)), some (V.int (k : Int)), some (V.int (((((c2 : Int) * 48271 + (k : Int) * 69621 + 11) % 2147483647) * 16807 + 13) % 2147483647 * 65537 + (((c2 : Int) * 48271 + (k : Int) * 69621 + 11) % 2147483647))), none] = _
              rw [hv1, hv2]
              have e : (v2 : Int) * 65537 + (v1 : Int) = ((v2 * 65537 + v1 : Nat) : Int) := by omega
              rw [e]
            · exact ⟨c2, rfl, rfl⟩
          · rintro σ' H' ⟨c3, rfl, rfl⟩
            refine ⟨_, rfl, _, rfl, p, _, (1 : Int), 1, rfl, rfl, hp, rfl, ?_⟩
            refine ⟨_, rfl, _, _, rfl, rfl, _, rfl, p, _, (2 : Int), 2, rfl, rfl, upd_same, rfl, ?_⟩
            refine ⟨_, _, rfl, ⟨by rw [upd_ne nlp, upd_ne nlp]; exact hl, c3, k + 1, ?_⟩, fun b o e nb => by rw [upd_ne nb, upd_ne nb]; exact e⟩
            rw [upd_same]
            have e : (k : Int) + 1 = ((k + 1 : Nat) : Int) := by omega
            show some (HO.lst [V.ref l, V.int (c3 : Int), V.int ((k : Int) + 1)]) = _
            rw [e]
      · exact ⟨_, _, rfl, S, fun b o e _ => e⟩
    · rintro σ' H1 ⟨x, y, rfl, S1, b1⟩
      obtain ⟨hl1, c1, k1, hp1⟩ := id S1
      refine ⟨_, rfl, p, _, (1 : Int), V.int (c1 : Int), rfl, rfl, SqL.of hp1, atI_nat (j := 1) rfl, .inl ⟨_, rfl, _, rfl, _, _, rfl, rfl, by omega, ?_⟩⟩
      refine ⟨_, rfl, p, _, (1 : Int), V.int (c1 : Int), rfl, rfl, SqL.of hp1, atI_nat (j := 1) rfl, _, rfl, _, _, rfl, rfl, wide_div (b := 100) (by omega) (by omega) (by decide) (by decide), _, rfl, p, _, (1 : Int), 1, rfl, rfl, hp1, rfl, ?_⟩
      refine ⟨_, rfl, ?_⟩
      show Q (V.int ((c1 : Int) % (n : Int))) _
      rw [← Int.natCast_emod]
      refine q _ _ (Nat.mod_lt _ n0) ⟨by rw [upd_ne nlp]; exact hl1, c1 / n, k1, ?_⟩ fun b o e nb => by rw [upd_ne nb]; exact b1 _ _ e nb
      rw [upd_same]
      show some (HO.lst [V.ref l, V.int ((c1 : Int) / (n : Int)), V.int (k1 : Int)]) = _
      rw [← Int.natCast_ediv]
end
end LX

/-! LDc: the law's own counts, assignments, shares. -/
namespace LX
open PySem L2 LR
def spLCounts (K : PySem.W.Frag) : Sp := fun vs H Q _ => ∃ (a : Addr) (ns : List Nat) (k : Nat), vs = [.ref a, .int (k : Nat)] ∧ SqT K H a (iv ns) ∧ k ≤ 1000 ∧ ns.length ≤ 1000 ∧ ∀ p H', Same H H' → H' p = some (.tup (iv (LM.cnts k ns))) → Q (.ref p) H'
def spLAssign : Sp := fun vs H Q _ => ∃ (p l : Addr) (ns : List Int) (v n : Nat), vs = [.ref p, .int (v : Nat), .int (n : Nat)] ∧ StAt H p l ns ∧ 0 < v ∧ v ≤ 5 ∧ n ≤ 20 ∧
  ∀ (as : List Nat) (r : Addr) (H' : Hp), as.length = n → (∀ x ∈ as, x < v) → StAt H' p l ns → But1 p H H' → FT H' r (iv as) → H r = none → Q (.ref r) H'
def spLShares : Sp := fun vs H Q _ => ∃ (p l : Addr) (ns : List Int) (v n : Nat), vs = [.ref p, .int (v : Nat), .int (n : Nat)] ∧ StAt H p l ns ∧ 0 < v ∧ v ≤ 5 ∧ n ≤ 20 ∧
  ∀ (al : List Nat) (r : Addr) (H' : Hp), al.length = v → al.sum = n → StAt H' p l ns → But1 p H H' → H' r = some (.tup (iv al)) → Q (.ref r) H'
section
variable {P : Program} {w : World} {K : PySem.W.Frag} {mg : Str → Option Value} {base : Heap}
theorem scLCounts : FnScope ["_law_assignment_here", "_law_variants", "_law_variant", "_law_one"] ["_law_assignment_here", "_law_variants"] (defScope sLCounts) := ⟨rfl, rfl, rfl, by decide +kernel, rfl, by decide +kernel, by decide +kernel⟩
/-- the scope of the outer comprehension, as it stands within it -/
def scC : Scope := { kind := .function, names := [(PySem.Str.ofString ".0", .local), (PySem.Str.ofString "_law_variant", .cell), (PySem.Str.ofString "len", .globalImplicit), (PySem.Str.ofString "_law_assignment_here", .cell)], isGenerator := false, isCoroutine := false }
theorem ok_lcounts {f : Addr} {fd : FuncData} (F : Fun K "_law_counts" "_law_counts" sLCounts f fd) (T : Txt K mg) : FnOk P w K mg base CX0 1 f fd ["_law_assignment_here", "_law_variants"] (spLCounts K) := by
  refine F.ok scLCounts (fun vs H Q E h => ?_) (fun cdv A outer s H vs Q E hr h => ?_)
  · obtain ⟨a, ns, k, rfl, _⟩ := h
    rfl
  · obtain ⟨a, ns, k, rfl, ha, hk, hl, q⟩ := h
    have nd := scLCounts.nd
    refine ⟨_, pss_one (ps_ret (pe_callTy call_tuple_of (by rfl) T.tuple (by decide +kernel) (pa_cons (pe_lc (own := [("_law_variant", 2)]) (g := gName 2) (tt := tYes) rfl nd (pi_range1 (by rfl) T.range (pa_cons (pv 1) pa_nil))
      (blkOk_by (own := [("_law_variant", 2)]) (N := ["_law_assignment_here", "_law_variants", "_law_variant", "_law_one"]) (sc := defScope sLCounts) (by decide +kernel))
      (fun _ _ _ _ _ => pg_name (i := 2) nd rfl (Or.inr rfl)) (fun _ _ _ _ _ => pts_nil)
      (fun _ _ _ _ _ => pe_callB (r := fun xs H Q => ∃ p ys, xs = [.ref p] ∧ (SqL K H p ys ∨ SqT K H p ys) ∧ Q (.int ys.length) H) call_len_seq (by rfl) T.len PySem.boot_len (pa_cons (pe_lc (own := [("_law_one", 3)]) (g := gName 3) (wi := iTup K (tVar 0)) rfl nd (pi_tup (pv 0))
        (blkOk_by (own := [("_law_one", 3)]) (N := ["_law_assignment_here", "_law_variants", "_law_variant", "_law_one"]) (sc := scC) (by decide +kernel))
        (fun _ _ _ _ _ => pg_name (i := 3) nd rfl (Or.inl rfl)) (fun _ _ _ _ _ => pts_one (pt_cmpR op_eq (pv 3) (pv 2) (nomark _))) (fun _ _ _ _ _ => pv 3)) pa_nil))) pa_nil))), ?_⟩
    refine ⟨_, rfl, _, rfl, by omega, by omega, fun D hD => lc_range (lo := 0) (n := k) (fun i H' => Same H H' ∧ H' D = some (.lst (iv (LM.cnts i ns)))) ⟨same_new hD _, upd_same⟩ ?_ ?_⟩
    · rintro i H' hi ⟨z, zD⟩
      rw [Int.zero_add]
      refine ⟨rfl, tyes (iteT ?_)⟩
      refine ⟨_, rfl, a, rfl, ⟨_, sameT z ha⟩, fun D2 hD2 => lc_tup (K := K) (a := a) (xs := iv ns) (fun t H3 => Same H' H3 ∧ H3 D2 = some (.lst (iv ((ns.take t).filter (fun y => decide (y = i)))))) ⟨same_new hD2 _, upd_same⟩ (fun t H3 _ z3 => sameT (z.trans z3.1) ha) ?_ ?_⟩
      · rintro t x H3 hx ⟨z3, zD3⟩
        obtain ⟨n, hn, rfl⟩ := iv_get hx
        refine ⟨rfl, ?_⟩
        refine ⟨_, rfl, _, rfl, rfl, _, rfl, ?_⟩
        refine ite2 (fun h1 => ?_) (fun h1 => ?_)
        · have h1' : n = i := by
            have := V.int.inj (of_decide_eq_true h1)
            omega
          refine ⟨_, rfl, _, zD3, ?_, same_set hD2 z3, ?_⟩
          · rw [iv_len]
            exact small1000 (Nat.le_trans (List.length_filter_le _ _) (by rw [List.length_take]; omega))
          · rw [upd_same, LM.filter_take_succ hn, if_pos (decide_eq_true h1'), iv_one, iv_append]
        · have h1' : ¬ n = i := fun q => h1 (decide_eq_true (by rw [q]))
          refine ⟨z3, ?_⟩
          rw [zD3, LM.filter_take_succ hn, if_neg (by simpa using h1'), List.append_nil]
      · rintro H3 ⟨z3, zD3⟩
        rw [iv_len, List.take_of_length_le (Nat.le_refl _)] at zD3
        refine ⟨D2, _, rfl, .inl (SqL.of zD3), _, z3 _ _ zD, by rw [iv_len, LM.cnts_len]; exact small1000 (by omega), same_set hD (z.trans z3), ?_⟩
        have e1 : (iv (ns.filter (fun y => decide (y = i)))).length = ns.count i := by
          rw [iv_len, List.count, List.countP_eq_length_filter]
          congr 1
        rw [e1, upd_same, iv_one, iv_append]
        have e : LM.cnts i ns ++ [ns.count i] = LM.cnts (i + 1) ns := by
          unfold LM.cnts; rw [List.range_succ, List.map_append]; rfl
        rw [e]
    · rintro H' ⟨z, zD⟩
      refine ⟨D, _, rfl, .inl ⟨.inl (.inl zD), fun l hl' => ?_⟩⟩
      exact q l _ (z.trans (same_new hl' _)) upd_same
theorem scLAssign : FnScope ["_law_stream_here", "_law_variants", "_law_buckets", "_law_k"] ["_law_stream_here", "_law_variants", "_law_buckets"] (defScope sLAssign) := ⟨rfl, rfl, rfl, by decide +kernel, rfl, by decide +kernel, by decide +kernel⟩
theorem ok_lassign {f : Addr} {fd : FuncData} (F : Fun K "_law_assignment" "_law_assignment" sLAssign f fd) (T : Txt K mg) (DN : Dfn P w K mg base 1 "_law_next" ["_law_stream_here", "_law_many"] spLNext) : FnOk P w K mg base CX0 2 f fd ["_law_stream_here", "_law_variants", "_law_buckets"] spLAssign := by
  refine F.ok scLAssign (fun vs H Q E h => ?_) (fun cdv A outer s H vs Q E hr h => ?_)
  · obtain ⟨p, l, ns, v, n, rfl, _⟩ := h
    rfl
  · obtain ⟨p, l, ns, v, n, rfl, S, v0, v5, n20, q⟩ := h
    have nd := scLAssign.nd
    refine ⟨_, pss_one (ps_ret (pe_callTy call_tuple_frz (by rfl) T.tuple (by decide +kernel) (pa_cons (pe_lc (own := [("_law_k", 3)]) (g := gName 3) (tt := tYes) rfl nd (pi_range1 (by rfl) T.range (pa_cons (pv 2) pa_nil))
      (blkOk_by (own := [("_law_k", 3)]) (N := ["_law_stream_here", "_law_variants", "_law_buckets", "_law_k"]) (sc := defScope sLAssign) (by decide +kernel))
      (fun _ _ _ _ _ => pg_name (i := 3) nd rfl (Or.inl rfl)) (fun _ _ _ _ _ => pts_nil) (fun _ _ _ _ _ => pe_d DN hr (by decide) (by rfl) (pa_cons (pv 0) (pa_cons (pv 1) pa_nil)))) pa_nil))), ?_⟩
    obtain ⟨hl, c, k, hp⟩ := id S
    refine ⟨_, rfl, _, rfl, by omega, by omega, fun D hD => lc_range (lo := 0) (n := n) (fun i H' => But1 p H H' ∧ StAt H' p l ns ∧ ∃ as : List Nat, as.length = i ∧ (∀ x ∈ as, x < v) ∧ H' D = some (.lst (iv as))) ⟨.of (same_new hD _), S.same (same_new hD _), [], rfl, (fun x hx => nomatch hx), upd_same⟩ ?_ ?_⟩
    · rintro i H' hi ⟨b, S', as, hal, hav, zD⟩
      have nDp : D ≠ p := (ne_of_none hp hD).symm
      have nDl : D ≠ l := (ne_of_none hl hD).symm
      refine ⟨rfl, tyes (iteT ?_)⟩
      refine ⟨_, rfl, _, rfl, p, l, ns, v, rfl, S', v0, Nat.lt_of_le_of_lt v5 (by decide), fun d H2 hd S2 b2 => ?_⟩
      refine ⟨_, b2 _ _ zD nDp, by rw [iv_len]; exact small1000 (by omega), fun x o e nx => ?_, ⟨by rw [upd_ne nDl.symm]; exact S2.1, let ⟨c', k', e'⟩ := S2.2; ⟨c', k', by rw [upd_ne nDp.symm]; exact e'⟩⟩, as ++ [d], by rw [List.length_append, hal]; rfl, fun x hx => ?_, ?_⟩
      · rw [upd_ne (ne_of_none e hD)]
        exact b.trans b2 _ _ e nx
      · rcases List.mem_append.mp hx with h | h
        · exact hav x h
        · rw [List.mem_singleton.mp h]
          exact hd
      · rw [upd_same, iv_one, iv_append]
    · rintro H' ⟨b, S', as, hal, hav, zD⟩
      refine ⟨D, _, rfl, SqL.of zD, fun r o hr' ho => ?_⟩
      refine q as r _ hal hav (S'.same (same_new hr' _)) (b.trans (.of (same_new hr' _))) (FT.new ho) ?_
      cases e : H r with
      | none => rfl
      | some u =>
        by_cases hrp : r = p
        · obtain ⟨_, c', k', e'⟩ := S'
          rw [hrp, e'] at hr'
          cases hr'
        · have := b _ _ e hrp
          rw [this] at hr'
          cases hr'
theorem scLShares : FnScope ["_law_stream_here", "_law_variants", "_law_buckets"] ["_law_stream_here", "_law_variants", "_law_buckets"] (defScope sLShares) := ⟨rfl, rfl, rfl, by decide +kernel, rfl, by decide +kernel, by decide +kernel⟩
theorem ok_lshares {f : Addr} {fd : FuncData} (F : Fun K "_law_shares" "_law_shares" sLShares f fd) (DC : Dfn P w K mg base 1 "_law_counts" ["_law_assignment_here", "_law_variants"] (spLCounts K)) (DA : Dfn P w K mg base 2 "_law_assignment" ["_law_stream_here", "_law_variants", "_law_buckets"] spLAssign) :
    FnOk P w K mg base CX0 3 f fd ["_law_stream_here", "_law_variants", "_law_buckets"] spLShares := by
  refine F.ok scLShares (fun vs H Q E h => ?_) (fun cdv A outer s H vs Q E hr h => ?_)
  · obtain ⟨p, l, ns, v, n, rfl, _⟩ := h
    rfl
  · obtain ⟨p, l, ns, v, n, rfl, S, v0, v5, n20, q⟩ := h
    refine ⟨_, pss_one (ps_ret (pe_d DC hr (by decide) (by rfl) (pa_cons (pe_d DA hr (by decide) (by rfl) (pa_cons (pv 0) (pa_cons (pv 1) (pa_cons (pv 2) pa_nil)))) (pa_cons (pv 1) pa_nil)))), ?_⟩
    refine ⟨_, rfl, _, rfl, _, rfl, p, l, ns, v, n, rfl, S, v0, v5, n20, fun as r H1 hal hav S1 b1 hr1 _ => ?_⟩
    refine ⟨_, rfl, r, as, v, rfl, hr1.seq, by omega, by omega, fun t H2 z2 ht => ?_⟩
    refine q (LM.cnts v as) t H2 LM.cnts_len (by rw [LM.cnts_sum hav, hal]) (S1.same z2) (b1.trans (.of z2)) ht
end
end LX

/-! LDd: the law's own equality. -/
namespace LX
open PySem L2 LR
theorem iteN {c A B : Prop} [Decidable c] (h : ¬ c) (hb : B) : if c then A else B := by
  rw [if_neg h]
  exact hb
def spEqI : Sp := fun vs H Q _ => ∃ i : Int, vs = [.int i, .int i] ∧ Q (.bl true) H
def spEqV (K : PySem.W.Frag) : Sp := fun vs H Q _ => ∃ x y : V, vs = [x, y] ∧ ((x = .non ∧ y = .non) ∨ (∃ (a b : Addr) (ns : List Nat), x = .ref a ∧ y = .ref b ∧ SqT K H a (iv ns) ∧ SqT K H b (iv ns) ∧ ns.length ≤ 1000) ∨
  (∃ (a b : Addr) (ns : List Nat), x = .ref a ∧ y = .ref b ∧ H a = some (.lst (iv ns)) ∧ H b = some (.lst (iv ns)) ∧ ns.length ≤ 1000)) ∧ ∀ H', Same H H' → Q (.bl true) H'
section
variable {P : Program} {w : World} {K : PySem.W.Frag} {mg : Str → Option Value} {base : Heap}
theorem scLEqual : FnScope ["_law_actual", "_law_due", "_law_at"] ["_law_actual", "_law_due"] (defScope sLEqual) := ⟨rfl, rfl, rfl, by decide +kernel, rfl, by decide +kernel, by decide +kernel⟩
theorem ok_equalI {f : Addr} {fd : FuncData} (F : Fun K "_law_equal" "_law_equal" sLEqual f fd) (T : Txt K mg) (DI : Dfn P w K mg base 1 "_law_is_integer" ["_law_actual"] spWhole) : FnOk P w K mg base CX0 2 f fd ["_law_actual", "_law_due"] spEqI := by
  refine F.ok scLEqual (fun vs H Q E h => ?_) (fun cdv A outer s H vs Q E hr h => ?_)
  · obtain ⟨i, rfl, _⟩ := h
    rfl
  · obtain ⟨i, rfl, q⟩ := h
    refine ⟨_, pss_cons (ps_if (pt_cmpR op_isN (pv 1) pe_non (nomark _)) pss_never pss_nil)
      (pss_cons (ps_if (pt_val (pe_callB call_isi (by rfl) T.isi (by decide +kernel) (pa_cons (pv 1) (pa_cons (pe_bltn (v := .ty "bool") (by rfl) T.bool (by decide +kernel) rfl) pa_nil)))) pss_never pss_nil)
      (pss_cons (ps_if (pt_val (pe_callB call_isi (by rfl) T.isi (by decide +kernel) (pa_cons (pv 1) (pa_cons (pe_bltn (v := .ty "int") (by rfl) T.int (by decide +kernel) rfl) pa_nil))))
        (pss_one (ps_ret (pe_and (pe_d DI hr (by decide) (by rfl) (pa_cons (pv 0) pa_nil)) (pe_one (pe_cmpR op_eq (pv 0) (pv 1) (nomark _)))))) pss_nil) pss_never)), ?_⟩
    refine ⟨_, rfl, rfl, _, rfl, iteN (by simp) ?_⟩
    refine ⟨_, rfl, _, _, _, _, false, rfl, .ty "bool", tyI, kit_ty (by decide +kernel), false, rfl, iteF ?_⟩
    refine ⟨_, rfl, _, _, _, _, true, rfl, .ty "int", tyI, kit_ty (by decide +kernel), true, rfl, iteT ?_⟩
    refine ⟨_, rfl, _, rfl, true, rfl, iteT ⟨_, rfl, _, rfl, rfl, ?_⟩⟩
    rw [decide_eq_true rfl]
    exact q
theorem ok_equalV {f : Addr} {fd : FuncData} (F : Fun K "_law_equal" "_law_equal" sLEqual f fd) (T : Txt K mg) (DE : Dfn P w K mg base 2 "_law_equal" ["_law_actual", "_law_due"] spEqI) : FnOk P w K mg base CX0 3 f fd ["_law_actual", "_law_due"] (spEqV K) := by
  refine F.ok scLEqual (fun vs H Q E h => ?_) (fun cdv A outer s H vs Q E hr h => ?_)
  · obtain ⟨x, y, rfl, _⟩ := h
    rfl
  · obtain ⟨x, y, rfl, h, q⟩ := h
    have nd := scLEqual.nd
    rcases h with ⟨rfl, rfl⟩ | ⟨a, b, ns, rfl, rfl, ha, hb, hl⟩ | ⟨a, b, ns, rfl, rfl, ha, hb, hl⟩
    · refine ⟨_, pss_cons (ps_if (pt_cmpR op_isN (pv 1) pe_non (nomark _)) (pss_one (ps_ret (pe_cmpR op_isN (pv 0) pe_non (nomark _)))) pss_nil) pss_never, ?_⟩
      refine ⟨_, rfl, rfl, _, rfl, iteT ⟨_, rfl, rfl, ?_⟩⟩
      exact q _ (Same.refl _)
    · refine ⟨_, pss_cons (ps_if (pt_cmpR op_isN (pv 1) pe_non (nomark _)) pss_never pss_nil)
        (pss_cons (ps_if (pt_val (pe_callB call_isi (by rfl) T.isi (by decide +kernel) (pa_cons (pv 1) (pa_cons (pe_bltn (v := .ty "bool") (by rfl) T.bool (by decide +kernel) rfl) pa_nil)))) pss_never pss_nil)
        (pss_cons (ps_if (pt_val (pe_callB call_isi (by rfl) T.isi (by decide +kernel) (pa_cons (pv 1) (pa_cons (pe_bltn (v := .ty "int") (by rfl) T.int (by decide +kernel) rfl) pa_nil)))) pss_never pss_nil)
        (pss_cons (ps_if (pt_val (pe_callB call_isi (by rfl) T.isi (by decide +kernel) (pa_cons (pv 1) (pa_cons (pe_bltn (v := .ty "str") (by rfl) T.str (by decide +kernel) rfl) pa_nil)))) pss_never pss_nil)
        (pss_cons (ps_if (PW.pt (pw_and (pt_val (pe_callB call_isi (by rfl) T.isi (by decide +kernel) (pa_cons (pv 1) (pa_cons (pe_bltn (v := .ty "tuple") (by rfl) T.tuple (by decide +kernel) rfl) pa_nil))))
          (pw_and1 (pt_not (pt_val (pe_callB call_isi (by rfl) T.isi (by decide +kernel) (pa_cons (pv 0) (pa_cons (pe_bltn (v := .ty "tuple") (by rfl) T.tuple (by decide +kernel) rfl) pa_nil)))))))) pss_never pss_nil)
        (pss_cons (ps_if (PW.pt (pw_and (pt_val (pe_callB call_isi (by rfl) T.isi (by decide +kernel) (pa_cons (pv 1) (pa_cons (pe_bltn (v := .ty "list") (by rfl) T.list (by decide +kernel) rfl) pa_nil))))
          (pw_and1 (pt_not (pt_val (pe_callB call_isi (by rfl) T.isi (by decide +kernel) (pa_cons (pv 0) (pa_cons (pe_bltn (v := .ty "list") (by rfl) T.list (by decide +kernel) rfl) pa_nil)))))))) pss_never pss_nil)
        (pss_cons (ps_if (pt_cmpR op_ne (pe_callB call_len_seq (by rfl) T.len PySem.boot_len (pa_cons (pv 0) pa_nil)) (pe_callB call_len_seq (by rfl) T.len PySem.boot_len (pa_cons (pv 1) pa_nil)) (nomark _)) pss_never pss_nil)
        (pss_one (ps_ret (pe_callB (cr_all rfl) (by rfl) T.all (by decide +kernel) (pa_cons (pe_lc (own := [("_law_at", 2)]) (g := gName 2) (tt := tYes) rfl nd (pi_range1 (by rfl) T.range (pa_cons (pe_callB call_len_seq (by rfl) T.len PySem.boot_len (pa_cons (pv 1) pa_nil)) pa_nil))
          (blkOk_by (own := [("_law_at", 2)]) (N := ["_law_actual", "_law_due", "_law_at"]) (sc := defScope sLEqual) (by decide +kernel))
          (fun _ _ _ _ _ => pg_name (i := 2) nd rfl (Or.inl rfl)) (fun _ _ _ _ _ => pts_nil)
          (fun _ _ _ _ _ => pe_d DE hr (by decide) (by rfl) (pa_cons (pe_ix (r := rIxT K) ix_tup (pv 0) (pv 2) (fun _ _ => rfl)) (pa_cons (pe_ix (r := rIxT K) ix_tup (pv 1) (pv 2) (fun _ _ => rfl)) pa_nil)))) pa_nil)))))))))), ?_⟩
      refine ⟨_, rfl, rfl, _, rfl, iteN (by simp) ?_⟩
      refine ⟨_, rfl, _, _, _, _, false, rfl, .ty "bool", tyT hb, kit_ty (by decide +kernel), false, rfl, iteF ?_⟩
      refine ⟨_, rfl, _, _, _, _, false, rfl, .ty "int", tyT hb, kit_ty (by decide +kernel), false, rfl, iteF ?_⟩
      refine ⟨_, rfl, _, _, _, _, false, rfl, .ty "str", tyT hb, kit_ty (by decide +kernel), false, rfl, iteF ?_⟩
      refine ⟨_, rfl, _, _, _, _, true, rfl, .ty "tuple", tyT hb, kit_ty (by decide +kernel), true, rfl, iteT ?_⟩
      refine ⟨_, rfl, _, _, _, _, true, rfl, .ty "tuple", tyT ha, kit_ty (by decide +kernel), true, rfl, iteF ?_⟩
      refine ⟨_, rfl, _, _, _, _, false, rfl, .ty "list", tyT hb, kit_ty (by decide +kernel), false, rfl, iteF (iteF ?_)⟩
      refine ⟨_, rfl, a, _, rfl, .inr ha, _, rfl, b, _, rfl, .inr hb, rfl, _, rfl, iteNS rfl ?_⟩
      refine ⟨_, rfl, b, _, rfl, .inr hb, _, rfl, by rw [iv_len]; omega, by rw [iv_len]; omega, fun D hD => lc_range (lo := 0) (n := (iv ns).length) (fun i H' => Same H H' ∧ H' D = some (.lst ((List.replicate i true).map V.bl))) ⟨same_new hD _, upd_same⟩ ?_ ?_⟩
      · rintro i H' hi ⟨z, zD⟩
        rw [iv_len] at hi
        rw [Int.zero_add]
        refine ⟨rfl, tyes (iteT ?_)⟩
        refine ⟨_, rfl, _, rfl, a, _, _, _, rfl, rfl, sameT z ha, iv_g hi, _, rfl, _, rfl, b, _, _, _, rfl, rfl, sameT z hb, iv_g hi, _, rfl, ?_⟩
        exact ⟨_, zD, rep_small hi hl, same_set hD z, rep_step rfl⟩
      · rintro H' ⟨z, zD⟩
        refine ⟨D, _, rfl, .inl (.inl zD), ?_⟩
        have e : (List.replicate (iv ns).length true).all id = true := by simp
        rw [e]
        exact q _ z
    · have tyl : ∀ {a : Addr} {xs : List V}, H a = some (.lst xs) → TyX K H (.ref a) (.type "list") := fun h => .base (.lst h)
      refine ⟨_, pss_cons (ps_if (pt_cmpR op_isN (pv 1) pe_non (nomark _)) pss_never pss_nil)
        (pss_cons (ps_if (pt_val (pe_callB call_isi (by rfl) T.isi (by decide +kernel) (pa_cons (pv 1) (pa_cons (pe_bltn (v := .ty "bool") (by rfl) T.bool (by decide +kernel) rfl) pa_nil)))) pss_never pss_nil)
        (pss_cons (ps_if (pt_val (pe_callB call_isi (by rfl) T.isi (by decide +kernel) (pa_cons (pv 1) (pa_cons (pe_bltn (v := .ty "int") (by rfl) T.int (by decide +kernel) rfl) pa_nil)))) pss_never pss_nil)
        (pss_cons (ps_if (pt_val (pe_callB call_isi (by rfl) T.isi (by decide +kernel) (pa_cons (pv 1) (pa_cons (pe_bltn (v := .ty "str") (by rfl) T.str (by decide +kernel) rfl) pa_nil)))) pss_never pss_nil)
        (pss_cons (ps_if (PW.pt (pw_and (pt_val (pe_callB call_isi (by rfl) T.isi (by decide +kernel) (pa_cons (pv 1) (pa_cons (pe_bltn (v := .ty "tuple") (by rfl) T.tuple (by decide +kernel) rfl) pa_nil))))
          (pw_and1 (pt_not (pt_val (pe_callB call_isi (by rfl) T.isi (by decide +kernel) (pa_cons (pv 0) (pa_cons (pe_bltn (v := .ty "tuple") (by rfl) T.tuple (by decide +kernel) rfl) pa_nil)))))))) pss_never pss_nil)
        (pss_cons (ps_if (PW.pt (pw_and (pt_val (pe_callB call_isi (by rfl) T.isi (by decide +kernel) (pa_cons (pv 1) (pa_cons (pe_bltn (v := .ty "list") (by rfl) T.list (by decide +kernel) rfl) pa_nil))))
          (pw_and1 (pt_not (pt_val (pe_callB call_isi (by rfl) T.isi (by decide +kernel) (pa_cons (pv 0) (pa_cons (pe_bltn (v := .ty "list") (by rfl) T.list (by decide +kernel) rfl) pa_nil)))))))) pss_never pss_nil)
        (pss_cons (ps_if (pt_cmpR op_ne (pe_callB call_len_seq (by rfl) T.len PySem.boot_len (pa_cons (pv 0) pa_nil)) (pe_callB call_len_seq (by rfl) T.len PySem.boot_len (pa_cons (pv 1) pa_nil)) (nomark _)) pss_never pss_nil)
        (pss_one (ps_ret (pe_callB (cr_all rfl) (by rfl) T.all (by decide +kernel) (pa_cons (pe_lc (own := [("_law_at", 2)]) (g := gName 2) (tt := tYes) rfl nd (pi_range1 (by rfl) T.range (pa_cons (pe_callB call_len_seq (by rfl) T.len PySem.boot_len (pa_cons (pv 1) pa_nil)) pa_nil))
          (blkOk_by (own := [("_law_at", 2)]) (N := ["_law_actual", "_law_due", "_law_at"]) (sc := defScope sLEqual) (by decide +kernel))
          (fun _ _ _ _ _ => pg_name (i := 2) nd rfl (Or.inl rfl)) (fun _ _ _ _ _ => pts_nil)
          (fun _ _ _ _ _ => pe_d DE hr (by decide) (by rfl) (pa_cons (pe_ix (r := rIxL K) ix_list (pv 0) (pv 2) (fun _ _ => rfl)) (pa_cons (pe_ix (r := rIxL K) ix_list (pv 1) (pv 2) (fun _ _ => rfl)) pa_nil)))) pa_nil)))))))))), ?_⟩
      refine ⟨_, rfl, rfl, _, rfl, iteN (by simp) ?_⟩
      refine ⟨_, rfl, _, _, _, _, false, rfl, .ty "bool", tyl hb, kit_ty (by decide +kernel), false, rfl, iteF ?_⟩
      refine ⟨_, rfl, _, _, _, _, false, rfl, .ty "int", tyl hb, kit_ty (by decide +kernel), false, rfl, iteF ?_⟩
      refine ⟨_, rfl, _, _, _, _, false, rfl, .ty "str", tyl hb, kit_ty (by decide +kernel), false, rfl, iteF ?_⟩
      refine ⟨_, rfl, _, _, _, _, false, rfl, .ty "tuple", tyl hb, kit_ty (by decide +kernel), false, rfl, iteF (iteF ?_)⟩
      refine ⟨_, rfl, _, _, _, _, true, rfl, .ty "list", tyl hb, kit_ty (by decide +kernel), true, rfl, iteT ?_⟩
      refine ⟨_, rfl, _, _, _, _, true, rfl, .ty "list", tyl ha, kit_ty (by decide +kernel), true, rfl, iteF ?_⟩
      refine ⟨_, rfl, a, _, rfl, .inl (SqL.of ha), _, rfl, b, _, rfl, .inl (SqL.of hb), rfl, _, rfl, iteNS rfl ?_⟩
      refine ⟨_, rfl, b, _, rfl, .inl (SqL.of hb), _, rfl, by rw [iv_len]; omega, by rw [iv_len]; omega, fun D hD => lc_range (lo := 0) (n := (iv ns).length) (fun i H' => Same H H' ∧ H' D = some (.lst ((List.replicate i true).map V.bl))) ⟨same_new hD _, upd_same⟩ ?_ ?_⟩
      · rintro i H' hi ⟨z, zD⟩
        rw [iv_len] at hi
        rw [Int.zero_add]
        refine ⟨rfl, tyes (iteT ?_)⟩
        refine ⟨_, rfl, _, rfl, a, _, _, _, rfl, rfl, SqL.of (z _ _ ha), iv_g hi, _, rfl, _, rfl, b, _, _, _, rfl, rfl, SqL.of (z _ _ hb), iv_g hi, _, rfl, ?_⟩
        exact ⟨_, zD, rep_small hi hl, same_set hD z, rep_step rfl⟩
      · rintro H' ⟨z, zD⟩
        refine ⟨D, _, rfl, .inl (.inl zD), ?_⟩
        have e : (List.replicate (iv ns).length true).all id = true := by simp
        rw [e]
        exact q _ z
end
end LX

/-! LDe: the law. -/
namespace LX
open PySem L2 LR
def spLaw (K : PySem.W.Frag) : Sp := fun vs H Q _ => ∃ (a : Addr) (ns : List Int), vs = [.ref a] ∧ SqL K H a (ns.map V.int) ∧ ns.length ≤ 63 ∧ ∀ H', Q (.bl true) H'
theorem sqT_but1 {K : PySem.W.Frag} {H H' : Hp} {r p : Addr} {xs w : List V} (h : SqT K H r xs) (hp : H p = some (.lst w)) (k : But1 p H H') : SqT K H' r xs := by
  rcases h with (h | ⟨o, h⟩) | h
  · exact .inl (.inl (k _ _ h (ne_of h hp (by intro z; cases z))))
  · exact .inl (.inr ⟨o, k _ _ h (ne_of h hp (by intro z; cases z))⟩)
  · exact .inr h
theorem ft_but1 {H H' : Hp} {r p : Addr} {xs w : List V} (h : FT H r xs) (hp : H p = some (.lst w)) (k : But1 p H H') : FT H' r xs := let ⟨o, e, d⟩ := h; ⟨o, k _ _ e (ne_of e hp (by intro z; cases z)), d⟩
theorem ft_upd {H : Hp} {r D : Addr} {xs w : List V} {ob : HO} (h : FT H r xs) (hD : H D = some (.lst w)) : FT (upd H D ob) r xs := let ⟨o, e, d⟩ := h; ⟨o, by rw [upd_ne (ne_of e hD (by intro z; cases z))]; exact e, d⟩
/-- the assignment at b, the allocation at o -/
structure LawAt (K : PySem.W.Frag) (H : Hp) (b o : Addr) (al as : List Nat) : Prop where
  A : AlAt K H o al
  F : FT H b (iv as)
  len : as.length = al.sum
  lt : ∀ x ∈ as, x < al.length
theorem LawAt.same {K : PySem.W.Frag} {H H' : Hp} {b o : Addr} {al as : List Nat} (h : LawAt K H b o al as) (s : Same H H') : LawAt K H' b o al as := ⟨h.A.same s, h.F.same s, h.len, h.lt⟩
theorem LawAt.but1 {K : PySem.W.Frag} {H H' : Hp} {p b o : Addr} {w : List V} {al as : List Nat} (h : LawAt K H b o al as) (hp : H p = some (.lst w)) (k : But1 p H H') : LawAt K H' b o al as := ⟨⟨sqT_but1 h.A.1 hp k, h.A.2⟩, ft_but1 h.F hp k, h.len, h.lt⟩
theorem LawAt.S {K : PySem.W.Frag} {H : Hp} {b o : Addr} {al as : List Nat} (h : LawAt K H b o al as) : AsAt K H b al as := ⟨h.F.seq, h.len, h.lt⟩
theorem lexLt_up : ∀ xs ys : List Nat, HT.lexLt (up xs) (up ys) = LM.lexL xs ys
  | [], [] => rfl
  | [], _ :: _ => rfl
  | _ :: _, [] => rfl
  | x :: xs, y :: ys => by
    have ih := lexLt_up xs ys
    show (if (x : Int) = (y : Int) then HT.lexLt (up xs) (up ys) else decide ((x : Int) < (y : Int))) = (if x = y then LM.lexL xs ys else decide (x < y))
    rw [ih]
    by_cases e : x = y
    · subst e
      rw [if_pos rfl, if_pos rfl]
    · have e2 : ¬ (x : Int) = (y : Int) := by omega
      rw [if_neg e, if_neg e2]
      by_cases q : x < y
      · rw [decide_eq_true q, decide_eq_true (by omega)]
      · rw [decide_eq_false q, decide_eq_false (by omega)]
section
variable {P : Program} {w : World} {K : PySem.W.Frag} {mg : Str → Option Value} {base : Heap}
theorem scLaw : FnScope ["_law_script", "_law_stream_here", "_law_variants", "_law_buckets", "_law_assignment_here", "_law_allocation", "_law_many", "_law_first", "_law_second", "_law_rows", "_law_row", "_law_due", "_law_index"] ["_law_script"] (defScope sLaw) := ⟨rfl, rfl, rfl, by decide +kernel, rfl, by decide +kernel, by decide +kernel⟩
theorem ok_law {f : Addr} {fd : FuncData} (F : Fun K "law" "law" sLaw f fd) (T : Txt K mg) (DS : Dfn P w K mg base 1 "_law_stream" ["_law_script"] (spStream K)) (DN : Dfn P w K mg base 1 "_law_next" ["_law_stream_here", "_law_many"] spLNext)
    (DA : Dfn P w K mg base 2 "_law_assignment" ["_law_stream_here", "_law_variants", "_law_buckets"] spLAssign) (DSh : Dfn P w K mg base 3 "_law_shares" ["_law_stream_here", "_law_variants", "_law_buckets"] spLShares)
    (DC : Dfn P w K mg base 5 "count_changes" ["allocation", "assignment"] (spCount K)) (DNth : Dfn P w K mg base 6 "nth_change" ["allocation", "assignment", "index"] (spNth K)) (DLC : Dfn P w K mg base 1 "_law_counts" ["_law_assignment_here", "_law_variants"] (spLCounts K))
    (DMin : Dfn P w K mg base 5 "is_minimal" ["variants", "assignment", "other"] (spMinimal (.bl true))) (DE : Dfn P w K mg base 3 "_law_equal" ["_law_actual", "_law_due"] (spEqV K)) (DIdx : Dfn P w K mg base 5 "index_of" ["allocation", "assignment", "other"] (spIndex K))
    (DNext : Dfn P w K mg base 5 "next_change" ["allocation", "assignment", "other", "bucket"] (spNext K)) (DFirst : Dfn P w K mg base 5 "first_change" ["allocation", "assignment"] (spFirst K)) : FnOk P w K mg base CX0 7 f fd ["_law_script"] (spLaw K) := by
  refine F.ok scLaw (fun vs H Q E h => ?_) (fun cdv A outer s H vs Q E hr h => ?_)
  · obtain ⟨a, ns, rfl, _⟩ := h
    rfl
  · obtain ⟨a, ns, rfl, ha, hn63, q⟩ := h
    have nd := scLaw.nd
    have hu : (cxOf CX0 P w K mg base ["_law_script", "_law_stream_here", "_law_variants", "_law_buckets", "_law_assignment_here", "_law_allocation", "_law_many", "_law_first", "_law_second", "_law_rows", "_law_row", "_law_due", "_law_index"] "law" (defScope sLaw) f cdv A outer s H E).nox.A.units + 64 < cLine := hr.units
    have hu0 : (cxOf CX0 P w K mg base ["_law_script", "_law_stream_here", "_law_variants", "_law_buckets", "_law_assignment_here", "_law_allocation", "_law_many", "_law_first", "_law_second", "_law_rows", "_law_row", "_law_due", "_law_index"] "law" (defScope sLaw) f cdv A outer s H E).nox.A.units < cLine := hr.units0
    refine ⟨_, pss_cons (ps_set (i := 1) nd rfl (Or.inl rfl) (pe_d DS hr (by decide) (by rfl) (pa_cons (pv 0) pa_nil)))
      (pss_cons (ps_set (i := 2) nd rfl (Or.inl rfl) (pe_op op_add pe_int (pe_d DN hr (by decide) (by rfl) (pa_cons (pv 1) (pa_cons pe_int pa_nil)))))
      (pss_cons (ps_set (i := 3) nd rfl (Or.inl rfl) (pe_op op_add pe_int (pe_d DN hr (by decide) (by rfl) (pa_cons (pv 1) (pa_cons pe_int pa_nil)))))
      (pss_cons (ps_set (i := 4) nd rfl (Or.inr rfl) (pe_d DA hr (by decide) (by rfl) (pa_cons (pv 1) (pa_cons (pv 2) (pa_cons (pv 3) pa_nil)))))
      (pss_cons (ps_set (i := 5) nd rfl (Or.inr rfl) (pe_d DSh hr (by decide) (by rfl) (pa_cons (pv 1) (pa_cons (pv 2) (pa_cons (pv 3) pa_nil)))))
      (pss_cons (ps_set (i := 6) nd rfl (Or.inl rfl) (pe_d DC hr (by decide) (by rfl) (pa_cons (pv 5) (pa_cons (pv 4) pa_nil))))
      (pss_cons (ps_set (i := 7) nd rfl (Or.inl rfl) (pe_d DN hr (by decide) (by rfl) (pa_cons (pv 1) (pa_cons (pv 6) pa_nil))))
      (Evl.pss_cut (ps_set (i := 8) nd rfl (Or.inl rfl) (pe_ix ix_list (pe_lst (pa_cons pe_int (pa_cons (pe_op op_sub (pv 6) pe_int) (pa_cons (pe_d DN hr (by decide) (by rfl) (pa_cons (pv 1) (pa_cons (pv 6) pa_nil))) pa_nil)))) (pe_d DN hr (by decide) (by rfl) (pa_cons (pv 1) (pa_cons pe_int pa_nil))) (fun _ _ => rfl)))
      (pss_cons (ps_setLc (i := 9) (own := [("_law_index", 12)]) (g := gName 12) (tt := tYes) (by rfl) nd rfl rfl (sw_true rfl rfl rfl (by decide +kernel)) (pi_list (pe_lst (pa_cons (pv 7) (pa_cons (pv 8) pa_nil))))
        (blkOk_by (own := [("_law_index", 12)]) (N := ["_law_script", "_law_stream_here", "_law_variants", "_law_buckets", "_law_assignment_here", "_law_allocation", "_law_many", "_law_first", "_law_second", "_law_rows", "_law_row", "_law_due", "_law_index"]) (sc := defScope sLaw) (by decide +kernel))
        (fun _ _ _ _ _ => pg_name (i := 12) nd rfl (Or.inl rfl)) (fun _ _ _ _ _ => pts_nil) (fun _ _ _ _ _ => pe_d DNth hr (by decide) (by rfl) (pa_cons (pv 5) (pa_cons (pv 4) (pa_cons (pv 12) pa_nil)))))
      (pss_cons (ps_for PassesOwn.never rfl (pi_list (pv 9)) (pg_name (i := 10) nd rfl (Or.inl rfl))
        (pss_one (ps_if (PW.pt (pw_or (pt_cmpR (op_neD hu) (pe_d DLC hr (by decide) (by rfl) (pa_cons (pv 10) (pa_cons (pv 2) pa_nil))) (pv 5) (nomark _))
          (pw_or1 (pt_cmpR op_notBl (pe_d DMin hr (by decide) (by rfl) (pa_cons (pv 2) (pa_cons (pv 4) (pa_cons (pv 10) pa_nil)))) pe_bl (nomark _))))) (pss_one (ps_ret pe_bl)) pss_nil)))
      (pss_cons (ps_if (pt_not (pt_val (pe_d DE hr (by decide) (by rfl) (pa_cons (pe_lc (own := [("_law_row", 10)]) (g := gName 10) (tt := tYes) rfl nd (pi_list (pv 9))
          (blkOk_by (own := [("_law_row", 10)]) (N := ["_law_script", "_law_stream_here", "_law_variants", "_law_buckets", "_law_assignment_here", "_law_allocation", "_law_many", "_law_first", "_law_second", "_law_rows", "_law_row", "_law_due", "_law_index"]) (sc := defScope sLaw) (by decide +kernel))
          (fun _ _ _ _ _ => pg_name (i := 10) nd rfl (Or.inl rfl)) (fun _ _ _ _ _ => pts_nil) (fun _ _ _ _ _ => pe_d DIdx hr (by decide) (by rfl) (pa_cons (pv 5) (pa_cons (pv 4) (pa_cons (pv 10) pa_nil)))))
          (pa_cons (pe_lst (pa_cons (pv 7) (pa_cons (pv 8) pa_nil))) pa_nil))))) (pss_one (ps_ret pe_bl)) pss_nil)
      (pss_cons (ps_if (PW.pt (pw_or (pt_cmpR op_ne (pe_cmpR op_lt (pv 7) (pv 8) (nomark _)) (pe_cmpR (op_ltT hu0) (pe_ix ix_list (pv 9) pe_int (fun _ _ => rfl)) (pe_ix ix_list (pv 9) pe_int (fun _ _ => rfl)) (nomark _)) (nomark _))
          (pw_or1 (pt_cmpR op_ne (pe_cmpR op_eq (pv 7) (pv 8) (nomark _)) (pe_cmpR (op_eqD hu) (pe_ix ix_list (pv 9) pe_int (fun _ _ => rfl)) (pe_ix ix_list (pv 9) pe_int (fun _ _ => rfl)) (nomark _)) (nomark _))))) (pss_one (ps_ret pe_bl)) pss_nil)
      (pss_cons (ps_set (i := 11) nd rfl (Or.inl rfl) pe_non)
      (Evl.pss_cut (ps_if (pt_cmpR op_lt (pe_op op_add (pv 7) pe_int) (pv 6) (nomark _)) (pss_one (ps_set (i := 11) nd rfl (Or.inl rfl) (pe_d DNth hr (by decide) (by rfl) (pa_cons (pv 5) (pa_cons (pv 4) (pa_cons (pe_op op_add (pv 7) pe_int) pa_nil)))))) pss_nil)
      (pss_cons (ps_if (pt_not (pt_val (pe_d DE hr (by decide) (by rfl) (pa_cons (pe_d DNext hr (by decide) (by rfl) (pa_cons (pv 5) (pa_cons (pv 4) (pa_cons (pe_ix ix_list (pv 9) pe_int (fun _ _ => rfl)) (pa_cons (pe_op op_sub (pv 3) pe_int) pa_nil))))) (pa_cons (pv 11) pa_nil))))) (pss_one (ps_ret pe_bl)) pss_nil)
      (pss_one (ps_ret (pe_d DE hr (by decide) (by rfl) (pa_cons (pe_d DFirst hr (by decide) (by rfl) (pa_cons (pv 5) (pa_cons (pv 4) pa_nil))) (pa_cons (pe_d DNth hr (by decide) (by rfl) (pa_cons (pv 5) (pa_cons (pv 4) (pa_cons pe_int pa_nil)))) pa_nil))))))))))))))))))), ?_⟩
    -- the stream, the numbers of variants and buckets
    refine ⟨_, rfl, a, ns, rfl, ha, fun p l H1 z1 hp0 hl0 S1 => ?_⟩
    refine ⟨_, rfl, p, l, ns, 4, rfl, S1, by decide, by decide, fun d1 H2 hd1 S2 b2 => ⟨_, _, rfl, rfl, ?_⟩⟩
    refine ⟨_, rfl, p, l, ns, 14, rfl, S2, by decide, by decide, fun d2 H3 hd2 S3 b3 => ⟨_, _, rfl, rfl, ?_⟩⟩
    -- an assignment, an allocation
    refine ⟨_, rfl, _, rfl, _, rfl, p, l, ns, 2 + d1, 7 + d2, rfl, S3, by omega, by omega, by omega, fun as b H4 hal hav S4 b4 hb hbn => ?_⟩
    refine ⟨_, rfl, _, rfl, _, rfl, p, l, ns, 2 + d1, 7 + d2, rfl, S4, by omega, by omega, by omega, fun al o H5 hll hls S5 b5 ho => ?_⟩
    obtain ⟨_, c4, k4, hp4⟩ := id S4
    have L5 : LawAt K H5 b o al as := ⟨⟨.inl (.inl ho), by omega, by omega, by omega⟩, ft_but1 hb hp4 b5, by omega, fun x hx => by rw [hll]; exact hav x hx⟩
    have W0 := LM.wf0 L5.lt L5.len.symm
    have wp := LM.wy_pos W0
    have wl := LM.wy_le W0 (by omega)
    -- many, first, second
    refine ⟨_, rfl, _, rfl, o, b, al, as, rfl, L5.A, L5.S, L5.F, fun H6 z6 => ?_⟩
    refine ⟨_, rfl, _, rfl, p, l, ns, LM.wy (LM.m0 al as), rfl, S5.same z6, wp, wl, fun f1 H7 hf1 S7 b7 => ?_⟩
    refine ⟨fun σ' H' => ∃ s1 : Nat, s1 < LM.wy (LM.m0 al as) ∧ σ' = [some (.ref a), some (.ref p), some (.int ((2 + d1 : Nat) : Int)), some (.int ((7 + d2 : Nat) : Int)), some (.ref b), some (.ref o), some (.int (LM.wy (LM.m0 al as) : Int)), some (.int (f1 : Int)), some (.int (s1 : Int)), none, none, none, none] ∧ LawAt K H' b o al as, ?_, ?_⟩
    · refine ⟨_, rfl, _, _, rfl, rfl, _, rfl, _, rfl, p, l, ns, LM.wy (LM.m0 al as), rfl, S7, wp, wl, fun g1 H8 hg1 S8 b8 => ⟨(by show 3 ≤ sizeLine; decide), fun q8 hq8 => ?_⟩⟩
      refine ⟨_, rfl, p, l, ns, 3, rfl, S8.same (same_new hq8 _), by decide, by decide, fun g2 H9 hg2 S9 b9 => ?_⟩
      obtain ⟨_, c5, k5, hp5⟩ := id S5
      obtain ⟨_, c6, k6, hp6⟩ := id (S5.same z6)
      obtain ⟨_, c7, k7, hp7⟩ := id S7
      obtain ⟨_, c8, k8, hp8⟩ := id S8
      have nqp : q8 ≠ p := (ne_of_none hp8 hq8).symm
      have L9 : LawAt K H9 b o al as := (((L5.same z6).but1 hp6 b7).but1 hp7 b8 |>.same (same_new hq8 _)).but1 (by rw [upd_ne nqp.symm]; exact hp8) b9
      have hq9 := b9 _ _ (upd_same (H := H8) (a := q8)) nqp
      have g3 : g2 = 0 ∨ g2 = 1 ∨ g2 = 2 := by omega
      rcases g3 with rfl | rfl | rfl
      · exact ⟨q8, _, ((0 : Nat) : Int), V.int 0, rfl, rfl, SqL.of hq9, atI_nat (j := 0) rfl, 0, wp, rfl, L9⟩
      · refine ⟨q8, _, ((1 : Nat) : Int), V.int ((LM.wy (LM.m0 al as) : Int) - 1), rfl, rfl, SqL.of hq9, atI_nat (j := 1) rfl, LM.wy (LM.m0 al as) - 1, by omega, ?_, L9⟩
        have e : ((LM.wy (LM.m0 al as) - 1 : Nat) : Int) = (LM.wy (LM.m0 al as) : Int) - 1 := by omega
        rw [e]
        rfl
      · exact ⟨q8, _, ((2 : Nat) : Int), V.int (g1 : Int), rfl, rfl, SqL.of hq9, atI_nat (j := 2) rfl, g1, hg1, rfl, L9⟩
    · rintro σ' H10 ⟨s1, hs1, rfl, L⟩
      -- rows
      refine ⟨_, rfl, _, rfl, (by show 2 ≤ sizeLine; decide), fun q1 hq1 => ⟨q1, rfl, ⟨_, SqL.of upd_same⟩, fun D hD => ?_⟩⟩
      have zq := same_new hq1 (.lst (iv [f1, s1]))
      refine lc_list (K := K) (a := q1) (xs := iv [f1, s1]) (fun t H3 => Same (upd H10 q1 (.lst (iv [f1, s1]))) H3 ∧ ∃ rs : List Addr, H3 D = some (.lst (rs.map V.ref)) ∧ rs.length = t ∧ ∀ (i : Nat) (r : Addr), rs[i]? = some r → ∃ k, [f1, s1][i]? = some k ∧ FT H3 r (iv (LM.nth as (LM.m0 al as) k)))
        ⟨same_new hD _, [], upd_same, rfl, fun i r h => by simp at h⟩ (fun t H3 _ z => SqL.of (z.1 _ _ upd_same)) ?_ ?_
      · rintro t x' H3 hx ⟨z, rs, zD, hrl, hrs⟩
        obtain ⟨k, hk, rfl⟩ := iv_get hx
        have hkw : k < LM.wy (LM.m0 al as) := by
          have := List.mem_of_getElem? hk
          simp at this
          rcases this with rfl | rfl
          · exact hf1
          · exact hs1
        have ht : t < 2 := (List.getElem?_eq_some_iff.mp hk).1
        have L3 := L.same (zq.trans z)
        refine ⟨rfl, tyes (iteT ?_)⟩
        refine ⟨_, rfl, _, rfl, _, rfl, o, b, al, as, k, rfl, L3.A, L3.S, L3.F, hkw, fun r H4 z4 hr => ?_⟩
        have zD4 := z4 _ _ zD
        refine ⟨_, zD4, by rw [List.length_map, hrl]; exact small1000 (by omega), same_set hD (z.trans z4), rs ++ [r], by rw [upd_same, List.map_append]; rfl, by rw [List.length_append, hrl]; rfl, fun i r' hi => ?_⟩
        rcases Nat.lt_or_ge i rs.length with hil | hil
        · rw [List.getElem?_append_left hil] at hi
          obtain ⟨k', hk', hft⟩ := hrs i r' hi
          exact ⟨k', hk', ft_upd (hft.same z4) zD4⟩
        · rw [List.getElem?_append_right hil] at hi
          have hi0 : i = rs.length := by
            have := (List.getElem?_eq_some_iff.mp hi).1
            simp at this
            omega
          subst hi0
          simp at hi
          subst hi
          exact ⟨k, by rw [hrl]; exact hk, ft_upd hr zD4⟩
      · rintro H11 ⟨z11, rs, zD, hrl, hrs⟩
        obtain ⟨r0, r1, rfl⟩ : ∃ r0 r1, rs = [r0, r1] := by
          match rs, hrl with
          | [r0, r1], _ => exact ⟨r0, r1, rfl⟩
        obtain ⟨k0, e0, F0⟩ := hrs 0 r0 rfl
        obtain ⟨k1, e1, F1⟩ := hrs 1 r1 rfl
        have e0' : k0 = f1 := (Option.some.inj e0).symm
        have e1' : k1 = s1 := (Option.some.inj e1).symm
        rw [e0'] at F0
        rw [e1'] at F1
        obtain ⟨P0, I0⟩ := LM.nth_ok W0 hf1
        obtain ⟨P1, I1⟩ := LM.nth_ok W0 hs1
        generalize LM.nth as (LM.m0 al as) f1 = c0 at F0 P0 I0
        generalize LM.nth as (LM.m0 al as) s1 = c1 at F1 P1 I1
        have L11 := L.same (zq.trans z11)
        have hrow : ∀ (t : Nat) (x : V), [V.ref r0, V.ref r1][t]? = some x → ∃ (r : Addr) (cs : List Nat) (k : Nat), x = .ref r ∧ FT H11 r (iv cs) ∧ LM.Path as (LM.m0 al as) cs ∧ [f1, s1][t]? = some k ∧ LM.idx as (LM.m0 al as) cs = k := fun t x hx => by
          match t, hx with
          | 0, hx => exact ⟨r0, c0, f1, (Option.some.inj hx).symm, F0, P0, rfl, I0⟩
          | 1, hx => exact ⟨r1, c1, s1, (Option.some.inj hx).symm, F1, P1, rfl, I1⟩
          | t + 2, hx => simp at hx
        have h20 : as.length ≤ 20 := by omega
        -- for row in rows
        refine ⟨_, rfl, D, rfl, ⟨_, SqL.of zD⟩, for_list (K := K) (a := D) (xs := [V.ref r0, V.ref r1]) (fun t σ' H3 => ∃ x10 : Option V, σ' = [some (.ref a), some (.ref p), some (.int ((2 + d1 : Nat) : Int)), some (.int ((7 + d2 : Nat) : Int)), some (.ref b), some (.ref o), some (.int (LM.wy (LM.m0 al as) : Int)), some (.int (f1 : Int)), some (.int (s1 : Int)), some (.ref D), x10, none, none] ∧ Same H11 H3)
          ⟨none, rfl, Same.refl _⟩ (fun t σ' H3 _ ⟨_, _, z⟩ => SqL.of (z _ _ zD)) ?_ ?_⟩
        · rintro t x' σ' H3 hx ⟨x10, rfl, z⟩
          obtain ⟨r, cs, k, rfl, hft, hp, _, _⟩ := hrow t x' hx
          have hcl := hp.len
          have hlt := hp.lt W0
          refine ⟨_, rfl, _, rfl, r, cs, 2 + d1, rfl, (hft.same z).seq, by omega, by omega, fun t1 H4 z4 ht => ⟨_, rfl, _, _, dp_iv (.inl (.inl ht)), dp_iv (sameT (z.trans z4) L11.A.1), shaped_dts _, shaped_dts _, _, rfl, ?_⟩⟩
          rw [eqv_tup, decide_eq_true (by rw [← hll]; exact LM.path_alloc L5.lt L5.len.symm hp)]
          refine iteF ?_
          refine ⟨_, rfl, _, rfl, _, rfl, b, r, as, cs, 2 + d1, rfl, L11.F.same (z.trans z4), hft.same (z.trans z4), hcl.symm, h20, by omega, by omega, fun x hx => by rw [← hll]; exact L5.lt x hx, fun x hx => by rw [← hll]; exact hlt x hx, path_noNeed L5.lt L5.len hp, fun H5 z5 => ⟨true, true, rfl, rfl, _, rfl, iteF ?_⟩⟩
          exact ⟨some (.ref r), rfl, z.trans (z4.trans z5)⟩
        · rintro σ' H12 ⟨x10, rfl, z12⟩
          have zD12 := z12 _ _ zD
          -- the indexes
          refine ⟨_, rfl, D, rfl, ⟨_, SqL.of zD12⟩, fun D2 hD2 => lc_list (K := K) (a := D) (xs := [V.ref r0, V.ref r1]) (fun t H3 => Same H12 H3 ∧ H3 D2 = some (.lst (iv ([f1, s1].take t)))) ⟨same_new hD2 _, upd_same⟩ (fun t H3 _ z => SqL.of (z.1 _ _ zD12)) ?_ ?_⟩
          · rintro t x' H3 hx ⟨z, zD2⟩
            obtain ⟨r, cs, k, rfl, hft, hp, hk, hi⟩ := hrow t x' hx
            have zz := z12.trans z
            have L3 := L11.same zz
            refine ⟨rfl, tyes (iteT ?_)⟩
            refine ⟨_, rfl, _, rfl, _, rfl, o, b, r, al, as, cs, rfl, L3.A, L3.S, L3.F, hft.same zz, hp, fun H4 z4 => ⟨_, z4 _ _ zD2, ?_, same_set hD2 (z.trans z4), ?_⟩⟩
            · rw [iv_len, List.length_take]
              exact small1000 (by show min t 2 ≤ 1000; omega)
            · rw [upd_same, hi, iv_take_succ hk]
          · rintro H13 ⟨z13, zD2⟩
            refine ⟨_, rfl, _, rfl, (by show 2 ≤ sizeLine; decide), fun q2 hq2 => ⟨.ref D2, .ref q2, rfl, .inr (.inr ⟨D2, q2, [f1, s1], rfl, rfl, same_new hq2 _ _ _ zD2, upd_same, by show 2 ≤ 1000; decide⟩), fun H14 z14 => ⟨true, rfl, iteF ?_⟩⟩⟩
            have z1114 := ((z12.trans z13).trans (same_new hq2 (.lst (iv [f1, s1])))).trans z14
            have zD14 := z1114 _ _ zD
            have F014 := F0.same z1114
            have F114 := F1.same z1114
            have L14 := L11.same z1114
            -- the order
            have e12 : V.bl (decide ((f1 : Int) < (s1 : Int))) = V.bl (HT.lexLt (up c0) (up c1)) := by
              rw [lexLt_up, LM.lex_idx W0 P0 P1, I0, I1]
              by_cases h : f1 < s1
              · rw [decide_eq_true h, decide_eq_true (by omega)]
              · rw [decide_eq_false h, decide_eq_false (by omega)]
            have e34 : V.bl (decide (V.int (f1 : Int) = V.int (s1 : Int))) = V.bl (PyData.eqv (.tuple (dts c0)) (.tuple (dts c1))) := by
              rw [eqv_tup]
              by_cases h : f1 = s1
              · have hc : c0 = c1 := LM.idx_inj W0 P0 P1 (by rw [I0, I1, h])
                rw [decide_eq_true hc, decide_eq_true (by rw [h])]
              · have hc : ¬ c0 = c1 := fun e => h (by rw [← I0, ← I1, e])
                have hv : ¬ V.int (f1 : Int) = V.int (s1 : Int) := fun e => h (by have := V.int.inj e; omega)
                rw [decide_eq_false hc, decide_eq_false hv]
            refine ⟨_, rfl, _, rfl, _, _, rfl, rfl, _, rfl, D, _, (0 : Int), V.ref r0, rfl, rfl, SqL.of zD14, atI_nat (j := 0) rfl, _, rfl, D, _, (1 : Int), V.ref r1, rfl, rfl, SqL.of zD14, atI_nat (j := 1) rfl, r0, r1, up c0, up c1, rfl, rfl, F014.seq, F114.seq, rfl, _, rfl, iteNS e12 ?_⟩
            refine ⟨_, rfl, _, rfl, rfl, _, rfl, D, _, (0 : Int), V.ref r0, rfl, rfl, SqL.of zD14, atI_nat (j := 0) rfl, _, rfl, D, _, (1 : Int), V.ref r1, rfl, rfl, SqL.of zD14, atI_nat (j := 1) rfl, _, _, dp_iv F014.seq, dp_iv F114.seq, shaped_dts _, shaped_dts _, rfl, _, rfl, iteNS e34 ?_⟩
            -- due
            refine ⟨fun σ' H' => ∃ dv : V, σ' = [some (.ref a), some (.ref p), some (.int ((2 + d1 : Nat) : Int)), some (.int ((7 + d2 : Nat) : Int)), some (.ref b), some (.ref o), some (.int (LM.wy (LM.m0 al as) : Int)), some (.int (f1 : Int)), some (.int (s1 : Int)), some (.ref D), x10, some dv, none] ∧ Same H14 H' ∧
              (f1 + 1 < LM.wy (LM.m0 al as) → ∃ r, dv = .ref r ∧ FT H' r (iv (LM.nth as (LM.m0 al as) (f1 + 1)))) ∧ (¬ f1 + 1 < LM.wy (LM.m0 al as) → dv = .non), ?_, ?_⟩
            · refine ⟨_, rfl, _, _, rfl, rfl, _, rfl, _, _, rfl, rfl, _, rfl, ?_⟩
              refine ite2 (fun h1 => ?_) (fun h1 => ?_)
              · have h1' : f1 + 1 < LM.wy (LM.m0 al as) := by
                  have := of_decide_eq_true h1
                  omega
                refine ⟨_, rfl, _, rfl, _, rfl, _, _, rfl, rfl, o, b, al, as, f1 + 1, rfl, L14.A, L14.S, L14.F, h1', fun r H3 z3 hr => ?_⟩
                exact ⟨.ref r, rfl, z3, fun _ => ⟨r, rfl, hr⟩, fun h => absurd h1' h⟩
              · have h1' : ¬ f1 + 1 < LM.wy (LM.m0 al as) := fun q => h1 (decide_eq_true (by omega))
                exact ⟨.non, rfl, Same.refl _, fun h => absurd h h1', fun _ => rfl⟩
            · rintro σ' H15 ⟨dv, rfl, z15, hd1', hd2'⟩
              have L15 := L14.same z15
              have e7 : ((7 + d2 : Nat) : Int) - 1 = ((6 + d2 : Nat) : Int) := by omega
              refine ⟨_, rfl, _, rfl, _, rfl, D, _, (0 : Int), V.ref r0, rfl, rfl, SqL.of (z15 _ _ zD14), atI_nat (j := 0) rfl, _, rfl, _, _, rfl, rfl, o, b, r0, al, as, c0, 6 + d2, ?_, L15.A, L15.S, L15.F, F014.same z15, P0, by omega, fun v H16 z16 hv => ⟨_, rfl, v, dv, rfl, ?_, fun H17 z17 => ⟨true, rfl, iteF ?_⟩⟩⟩
              · show [V.ref o, V.ref b, V.ref r0, V.int (((7 + d2 : Nat) : Int) - 1)] = _
                rw [e7]
              · cases e : LM.nx as (LM.m0 al as) c0 with
                | none =>
                  rw [e] at hv
                  have hn := LM.nx_none W0 P0 e
                  exact .inl ⟨hv, hd2' (by omega)⟩
                | some l' =>
                  rw [e] at hv
                  obtain ⟨hn1, hn2⟩ := LM.nx_some W0 P0 e
                  have hw := LM.idx_lt W0 hn1
                  have hf2 : f1 + 1 < LM.wy (LM.m0 al as) := by omega
                  obtain ⟨r, rfl, hr⟩ := hd1' hf2
                  obtain ⟨r', rfl, hr'⟩ := hv
                  obtain ⟨P2, I2⟩ := LM.nth_ok W0 hf2
                  have ee : LM.cmpl l' as (LM.m0 al as) = LM.nth as (LM.m0 al as) (f1 + 1) := LM.idx_inj W0 hn1 P2 (by omega)
                  have hr' : FT H16 r' (iv (LM.cmpl l' as (LM.m0 al as))) := hr'
                  rw [ee] at hr'
                  exact .inr (.inl ⟨r', r, _, rfl, rfl, hr'.seq, (hr.same z16).seq, by rw [P2.len]; omega⟩)
              · -- the first one
                have L17 := L15.same (z16.trans z17)
                obtain ⟨P3, I3⟩ := LM.first_ok W0
                obtain ⟨P4, I4⟩ := LM.nth_ok W0 wp
                have ee : LM.cmpl [] as (LM.m0 al as) = LM.nth as (LM.m0 al as) 0 := LM.idx_inj W0 P3 P4 (by rw [I3, I4])
                refine ⟨_, rfl, _, rfl, o, b, al, as, rfl, L17.A, L17.S, L17.F, fun r H18 z18 hr => ?_⟩
                rw [ee] at hr
                have L18 := L17.same z18
                refine ⟨_, rfl, _, rfl, o, b, al, as, 0, rfl, L18.A, L18.S, L18.F, wp, fun r' H19 z19 hr' => ⟨_, _, rfl, .inr (.inl ⟨r, r', _, rfl, rfl, (hr.same z19).seq, hr'.seq, by rw [P4.len]; omega⟩), fun H20 z20 => ?_⟩⟩
                exact q _
end
end LX

/-! LEnd: what the top has left; the head; the law. -/
namespace LX
open PySem L2 LR
/-- a def of the module stands at f as the text says -/
structure At (K : PySem.W.Frag) (x q : Str) (st : Stmt) (f : Addr) : Prop where
  l : ∃ (oc : Value) (od an : Option Addr) (sl : Array (Option Value)) (kV dc pm cd ct : Value), K.lookup f = some ⟨oc, od, .func (PySem.W.fnOf x q (defArgs st) (defBody st) (defScope st) .none kV dc pm an cd ct), sl⟩ ∧ PySem.W.codeIn K cd q = true
  k : PySem.W.keepIn K (.ref f) = true
theorem At.fn {K : PySem.W.Frag} {x q : Str} {st : Stmt} {f : Addr} (h : At K x q st f) : ∃ fd : FuncData, Fun K x q st f fd ∧ ∃ (kV dc pm : Value) (an : Option Addr) (cd ct : Value), fd = PySem.W.fnOf x q (defArgs st) (defBody st) (defScope st) .none kV dc pm an cd ct := by
  obtain ⟨oc, od, an, sl, kV, dc, pm, cd, ct, l, c⟩ := h.l
  exact ⟨_, fun_mk (st := st) l c h.k, kV, dc, pm, an, cd, ct, rfl⟩
theorem At.mk' {K : PySem.W.Frag} {x q : Str} {st : Stmt} {f : Addr} {oc : Value} {od an : Option Addr} {sl : Array (Option Value)} {kV dc pm cd ct : Value}
    (l : K.lookup f = some ⟨oc, od, .func (PySem.W.fnOf x q (defArgs st) (defBody st) (defScope st) .none kV dc pm an cd ct), sl⟩) (c : PySem.W.codeIn K cd q = true) (k : PySem.W.keepIn K (.ref f) = true) : At K x q st f := ⟨⟨oc, od, an, sl, kV, dc, pm, cd, ct, l, c⟩, k⟩
theorem all_mk {l : PySem.W.OpenLaw} {w : World} {K : PySem.W.Frag} {h : Heap} {mg : Str → Option Value} {fa C f0 f1 f2 f3 f4 f5 f6 f7 f8 f9 f10 f11 f12 f13 f14 f15 f16 f17 f18 f19 f20 f21 f22 f23 f24 f25 f26 f27 f28 f29 f30 f31 f32 g0 g1 g2 : Addr} {t5 t20 : Tok} (X : K.In h) (G : h.Ns mainGlobals mg) (hfa : mg "law" = some (.ref fa))
    {oc0 : Value} {od0 an0 : Option Addr} {sl0 : Array (Option Value)} {kV0 dc0 pm0 cd0 ct0 : Value}
    {oc1 : Value} {od1 an1 : Option Addr} {sl1 : Array (Option Value)} {kV1 dc1 pm1 cd1 ct1 : Value}
    {oc2 : Value} {od2 an2 : Option Addr} {sl2 : Array (Option Value)} {kV2 dc2 pm2 cd2 ct2 : Value}
    {oc3 : Value} {od3 an3 : Option Addr} {sl3 : Array (Option Value)} {kV3 dc3 pm3 cd3 ct3 : Value}
    {oc4 : Value} {od4 an4 : Option Addr} {sl4 : Array (Option Value)} {kV4 dc4 pm4 cd4 ct4 : Value}
    {oc5 : Value} {od5 an5 : Option Addr} {sl5 : Array (Option Value)} {kV5 dc5 pm5 cd5 ct5 : Value}
    {oc6 : Value} {od6 an6 : Option Addr} {sl6 : Array (Option Value)} {kV6 dc6 pm6 cd6 ct6 : Value}
    {oc7 : Value} {od7 an7 : Option Addr} {sl7 : Array (Option Value)} {kV7 dc7 pm7 cd7 ct7 : Value}
    {oc8 : Value} {od8 an8 : Option Addr} {sl8 : Array (Option Value)} {kV8 dc8 pm8 cd8 ct8 : Value}
    {oc9 : Value} {od9 an9 : Option Addr} {sl9 : Array (Option Value)} {kV9 dc9 pm9 cd9 ct9 : Value}
    {oc10 : Value} {od10 an10 : Option Addr} {sl10 : Array (Option Value)} {kV10 dc10 pm10 cd10 ct10 : Value}
    {oc11 : Value} {od11 an11 : Option Addr} {sl11 : Array (Option Value)} {kV11 dc11 pm11 cd11 ct11 : Value}
    {oc12 : Value} {od12 an12 : Option Addr} {sl12 : Array (Option Value)} {kV12 dc12 pm12 cd12 ct12 : Value}
    {oc13 : Value} {od13 an13 : Option Addr} {sl13 : Array (Option Value)} {kV13 dc13 pm13 cd13 ct13 : Value}
    {oc14 : Value} {od14 an14 : Option Addr} {sl14 : Array (Option Value)} {kV14 dc14 pm14 cd14 ct14 : Value}
    {oc15 : Value} {od15 an15 : Option Addr} {sl15 : Array (Option Value)} {kV15 dc15 pm15 cd15 ct15 : Value}
    {oc16 : Value} {od16 an16 : Option Addr} {sl16 : Array (Option Value)} {kV16 dc16 pm16 cd16 ct16 : Value}
    {oc17 : Value} {od17 an17 : Option Addr} {sl17 : Array (Option Value)} {kV17 dc17 pm17 cd17 ct17 : Value}
    {oc18 : Value} {od18 an18 : Option Addr} {sl18 : Array (Option Value)} {kV18 dc18 pm18 cd18 ct18 : Value}
    {oc19 : Value} {od19 an19 : Option Addr} {sl19 : Array (Option Value)} {kV19 dc19 pm19 cd19 ct19 : Value}
    {oc20 : Value} {od20 an20 : Option Addr} {sl20 : Array (Option Value)} {kV20 dc20 pm20 cd20 ct20 : Value}
    {oc21 : Value} {od21 an21 : Option Addr} {sl21 : Array (Option Value)} {kV21 dc21 pm21 cd21 ct21 : Value}
    {oc22 : Value} {od22 an22 : Option Addr} {sl22 : Array (Option Value)} {kV22 dc22 pm22 cd22 ct22 : Value}
    {oc23 : Value} {od23 an23 : Option Addr} {sl23 : Array (Option Value)} {kV23 dc23 pm23 cd23 ct23 : Value}
    {oc24 : Value} {od24 an24 : Option Addr} {sl24 : Array (Option Value)} {kV24 dc24 pm24 cd24 ct24 : Value}
    {oc25 : Value} {od25 an25 : Option Addr} {sl25 : Array (Option Value)} {kV25 dc25 pm25 cd25 ct25 : Value}
    {oc26 : Value} {od26 an26 : Option Addr} {sl26 : Array (Option Value)} {kV26 dc26 pm26 cd26 ct26 : Value}
    {oc27 : Value} {od27 an27 : Option Addr} {sl27 : Array (Option Value)} {kV27 dc27 pm27 cd27 ct27 : Value}
    {oc28 : Value} {od28 an28 : Option Addr} {sl28 : Array (Option Value)} {kV28 dc28 pm28 cd28 ct28 : Value}
    {oc29 : Value} {od29 an29 : Option Addr} {sl29 : Array (Option Value)} {kV29 dc29 pm29 cd29 ct29 : Value}
    {oc30 : Value} {od30 an30 : Option Addr} {sl30 : Array (Option Value)} {kV30 dc30 pm30 cd30 ct30 : Value}
    {oc31 : Value} {od31 an31 : Option Addr} {sl31 : Array (Option Value)} {kV31 dc31 pm31 cd31 ct31 : Value}
    {oc32 : Value} {od32 an32 : Option Addr} {sl32 : Array (Option Value)} {kV32 dc32 pm32 cd32 ct32 : Value}
    {ocm0 : Value} {odm0 anm0 : Option Addr} {slm0 : Array (Option Value)} {kVm0 dcm0 pmm0 cdm0 ctm0 : Value}
    {ocm1 : Value} {odm1 anm1 : Option Addr} {slm1 : Array (Option Value)} {kVm1 dcm1 pmm1 cdm1 ctm1 : Value}
    {ocm2 : Value} {odm2 anm2 : Option Addr} {slm2 : Array (Option Value)} {kVm2 dcm2 pmm2 cdm2 ctm2 : Value}
    (a0 : PySem.W.nsIn K mainGlobals "is_whole" = some (some (.ref f0)))
    (l0 : K.lookup f0 = some ⟨oc0, od0, .func (PySem.W.fnOf "is_whole" "is_whole" (defArgs sWhole) (defBody sWhole) (defScope sWhole) .none kV0 dc0 pm0 an0 cd0 ct0), sl0⟩)
    (c0 : PySem.W.codeIn K cd0 "is_whole" = true)
    (k0 : PySem.W.keepIn K (.ref f0) = true)
    (a1 : PySem.W.nsIn K mainGlobals "is_between" = some (some (.ref f1)))
    (l1 : K.lookup f1 = some ⟨oc1, od1, .func (PySem.W.fnOf "is_between" "is_between" (defArgs sBetween) (defBody sBetween) (defScope sBetween) .none kV1 dc1 pm1 an1 cd1 ct1), sl1⟩)
    (c1 : PySem.W.codeIn K cd1 "is_between" = true)
    (k1 : PySem.W.keepIn K (.ref f1) = true)
    (a2 : PySem.W.nsIn K mainGlobals "is_allocation" = some (some (.ref f2)))
    (l2 : K.lookup f2 = some ⟨oc2, od2, .func (PySem.W.fnOf "is_allocation" "is_allocation" (defArgs sIsAlloc) (defBody sIsAlloc) (defScope sIsAlloc) .none kV2 dc2 pm2 an2 cd2 ct2), sl2⟩)
    (c2 : PySem.W.codeIn K cd2 "is_allocation" = true)
    (k2 : PySem.W.keepIn K (.ref f2) = true)
    (a3 : PySem.W.nsIn K mainGlobals "is_assignment" = some (some (.ref f3)))
    (l3 : K.lookup f3 = some ⟨oc3, od3, .func (PySem.W.fnOf "is_assignment" "is_assignment" (defArgs sIsAssign) (defBody sIsAssign) (defScope sIsAssign) .none kV3 dc3 pm3 an3 cd3 ct3), sl3⟩)
    (c3 : PySem.W.codeIn K cd3 "is_assignment" = true)
    (k3 : PySem.W.keepIn K (.ref f3) = true)
    (a4 : PySem.W.nsIn K mainGlobals "counts_of" = some (some (.ref f4)))
    (l4 : K.lookup f4 = some ⟨oc4, od4, .func (PySem.W.fnOf "counts_of" "counts_of" (defArgs sCounts) (defBody sCounts) (defScope sCounts) .none kV4 dc4 pm4 an4 cd4 ct4), sl4⟩)
    (c4 : PySem.W.codeIn K cd4 "counts_of" = true)
    (k4 : PySem.W.keepIn K (.ref f4) = true)
    (a5 : PySem.W.nsIn K mainGlobals "is_integer" = some (some (.ref f5)))
    (l5 : K.lookup f5 = some ⟨oc5, od5, .func (PySem.W.fnOf "is_integer" "is_integer" (defArgs sInteger) (defBody sInteger) (defScope sInteger) .none kV5 dc5 pm5 an5 cd5 ct5), sl5⟩)
    (c5 : PySem.W.codeIn K cd5 "is_integer" = true)
    (k5 : PySem.W.keepIn K (.ref f5) = true)
    (a6 : PySem.W.nsIn K mainGlobals "check_variants" = some (some (.ref f6)))
    (l6 : K.lookup f6 = some ⟨oc6, od6, .func (PySem.W.fnOf "check_variants" "check_variants" (defArgs sChkVar) (defBody sChkVar) (defScope sChkVar) .none kV6 dc6 pm6 an6 cd6 ct6), sl6⟩)
    (c6 : PySem.W.codeIn K cd6 "check_variants" = true)
    (k6 : PySem.W.keepIn K (.ref f6) = true)
    (a7 : PySem.W.nsIn K mainGlobals "is_some_allocation" = some (some (.ref f7)))
    (l7 : K.lookup f7 = some ⟨oc7, od7, .func (PySem.W.fnOf "is_some_allocation" "is_some_allocation" (defArgs sSome) (defBody sSome) (defScope sSome) .none kV7 dc7 pm7 an7 cd7 ct7), sl7⟩)
    (c7 : PySem.W.codeIn K cd7 "is_some_allocation" = true)
    (k7 : PySem.W.keepIn K (.ref f7) = true)
    (a8 : PySem.W.nsIn K mainGlobals "check_allocation" = some (some (.ref f8)))
    (l8 : K.lookup f8 = some ⟨oc8, od8, .func (PySem.W.fnOf "check_allocation" "check_allocation" (defArgs sChkAlloc) (defBody sChkAlloc) (defScope sChkAlloc) .none kV8 dc8 pm8 an8 cd8 ct8), sl8⟩)
    (c8 : PySem.W.codeIn K cd8 "check_allocation" = true)
    (k8 : PySem.W.keepIn K (.ref f8) = true)
    (a9 : PySem.W.nsIn K mainGlobals "check_assignment" = some (some (.ref f9)))
    (l9 : K.lookup f9 = some ⟨oc9, od9, .func (PySem.W.fnOf "check_assignment" "check_assignment" (defArgs sChkAssign) (defBody sChkAssign) (defScope sChkAssign) .none kV9 dc9 pm9 an9 cd9 ct9), sl9⟩)
    (c9 : PySem.W.codeIn K cd9 "check_assignment" = true)
    (k9 : PySem.W.keepIn K (.ref f9) = true)
    (a10 : PySem.W.nsIn K mainGlobals "check_bucket" = some (some (.ref f10)))
    (l10 : K.lookup f10 = some ⟨oc10, od10, .func (PySem.W.fnOf "check_bucket" "check_bucket" (defArgs sChkBucket) (defBody sChkBucket) (defScope sChkBucket) .none kV10 dc10 pm10 an10 cd10 ct10), sl10⟩)
    (c10 : PySem.W.codeIn K cd10 "check_bucket" = true)
    (k10 : PySem.W.keepIn K (.ref f10) = true)
    (a11 : PySem.W.nsIn K mainGlobals "needless_move" = some (some (.ref f11)))
    (l11 : K.lookup f11 = some ⟨oc11, od11, .func (PySem.W.fnOf "needless_move" "needless_move" (defArgs sNMove) (defBody sNMove) (defScope sNMove) .none kV11 dc11 pm11 an11 cd11 ct11), sl11⟩)
    (c11 : PySem.W.codeIn K cd11 "needless_move" = true)
    (k11 : PySem.W.keepIn K (.ref f11) = true)
    (a12 : PySem.W.nsIn K mainGlobals "first_needless" = some (some (.ref f12)))
    (l12 : K.lookup f12 = some ⟨oc12, od12, .func (PySem.W.fnOf "first_needless" "first_needless" (defArgs sFirstN) (defBody sFirstN) (defScope sFirstN) .none kV12 dc12 pm12 an12 cd12 ct12), sl12⟩)
    (c12 : PySem.W.codeIn K cd12 "first_needless" = true)
    (k12 : PySem.W.keepIn K (.ref f12) = true)
    (a13 : PySem.W.nsIn K mainGlobals "needless" = some (some (.ref f13)))
    (l13 : K.lookup f13 = some ⟨oc13, od13, .func (PySem.W.fnOf "needless" "needless" (defArgs sNeedless) (defBody sNeedless) (defScope sNeedless) .none kV13 dc13 pm13 an13 cd13 ct13), sl13⟩)
    (c13 : PySem.W.codeIn K cd13 "needless" = true)
    (k13 : PySem.W.keepIn K (.ref f13) = true)
    (a14 : PySem.W.nsIn K mainGlobals "is_minimal" = some (some (.ref f14)))
    (l14 : K.lookup f14 = some ⟨oc14, od14, .func (PySem.W.fnOf "is_minimal" "is_minimal" (defArgs sMinimal) (defBody sMinimal) (defScope sMinimal) .none kV14 dc14 pm14 an14 cd14 ct14), sl14⟩)
    (c14 : PySem.W.codeIn K cd14 "is_minimal" = true)
    (k14 : PySem.W.keepIn K (.ref f14) = true)
    (a15 : PySem.W.nsIn K mainGlobals "moves_of" = some (some (.ref f15)))
    (l15 : K.lookup f15 = some ⟨oc15, od15, .func (PySem.W.fnOf "moves_of" "moves_of" (defArgs sMovesOf) (defBody sMovesOf) (defScope sMovesOf) .none kV15 dc15 pm15 an15 cd15 ct15), sl15⟩)
    (c15 : PySem.W.codeIn K cd15 "moves_of" = true)
    (k15 : PySem.W.keepIn K (.ref f15) = true)
    (a16 : PySem.W.nsIn K mainGlobals "completed" = some (some (.ref f16)))
    (l16 : K.lookup f16 = some ⟨oc16, od16, .func (PySem.W.fnOf "completed" "completed" (defArgs sCompleted) (defBody sCompleted) (defScope sCompleted) .none kV16 dc16 pm16 an16 cd16 ct16), sl16⟩)
    (c16 : PySem.W.codeIn K cd16 "completed" = true)
    (k16 : PySem.W.keepIn K (.ref f16) = true)
    (a17 : PySem.W.nsIn K mainGlobals "first_change" = some (some (.ref f17)))
    (l17 : K.lookup f17 = some ⟨oc17, od17, .func (PySem.W.fnOf "first_change" "first_change" (defArgs sFirst) (defBody sFirst) (defScope sFirst) .none kV17 dc17 pm17 an17 cd17 ct17), sl17⟩)
    (c17 : PySem.W.codeIn K cd17 "first_change" = true)
    (k17 : PySem.W.keepIn K (.ref f17) = true)
    (a18 : PySem.W.nsIn K mainGlobals "ways" = some (some (.ref f18)))
    (l18 : K.lookup f18 = some ⟨oc18, od18, .func (PySem.W.fnOf "ways" "ways" (defArgs sWays) (defBody sWays) (defScope sWays) .none kV18 dc18 pm18 an18 cd18 ct18), sl18⟩)
    (c18 : PySem.W.codeIn K cd18 "ways" = true)
    (k18 : PySem.W.keepIn K (.ref f18) = true)
    (a19 : PySem.W.nsIn K mainGlobals "ways_with" = some (some (.ref f19)))
    (l19 : K.lookup f19 = some ⟨oc19, od19, .func (PySem.W.fnOf "ways_with" "ways_with" (defArgs sWaysWith) (defBody sWaysWith) (defScope sWaysWith) .none kV19 dc19 pm19 an19 cd19 ct19), sl19⟩)
    (c19 : PySem.W.codeIn K cd19 "ways_with" = true)
    (k19 : PySem.W.keepIn K (.ref f19) = true)
    (a20 : PySem.W.nsIn K mainGlobals "is_least" = some (some (.ref f20)))
    (l20 : K.lookup f20 = some ⟨oc20, od20, .func (PySem.W.fnOf "is_least" "is_least" (defArgs sIsLeast) (defBody sIsLeast) (defScope sIsLeast) .none kV20 dc20 pm20 an20 cd20 ct20), sl20⟩)
    (c20 : PySem.W.codeIn K cd20 "is_least" = true)
    (k20 : PySem.W.keepIn K (.ref f20) = true)
    (a21 : PySem.W.nsIn K mainGlobals "count_changes" = some (some (.ref f21)))
    (l21 : K.lookup f21 = some ⟨oc21, od21, .func (PySem.W.fnOf "count_changes" "count_changes" (defArgs sCount) (defBody sCount) (defScope sCount) .none kV21 dc21 pm21 an21 cd21 ct21), sl21⟩)
    (c21 : PySem.W.codeIn K cd21 "count_changes" = true)
    (k21 : PySem.W.keepIn K (.ref f21) = true)
    (a22 : PySem.W.nsIn K mainGlobals "nth_change" = some (some (.ref f22)))
    (l22 : K.lookup f22 = some ⟨oc22, od22, .func (PySem.W.fnOf "nth_change" "nth_change" (defArgs sNth) (defBody sNth) (defScope sNth) .none kV22 dc22 pm22 an22 cd22 ct22), sl22⟩)
    (c22 : PySem.W.codeIn K cd22 "nth_change" = true)
    (k22 : PySem.W.keepIn K (.ref f22) = true)
    (a23 : PySem.W.nsIn K mainGlobals "index_of" = some (some (.ref f23)))
    (l23 : K.lookup f23 = some ⟨oc23, od23, .func (PySem.W.fnOf "index_of" "index_of" (defArgs sIndex) (defBody sIndex) (defScope sIndex) .none kV23 dc23 pm23 an23 cd23 ct23), sl23⟩)
    (c23 : PySem.W.codeIn K cd23 "index_of" = true)
    (k23 : PySem.W.keepIn K (.ref f23) = true)
    (a24 : PySem.W.nsIn K mainGlobals "next_change" = some (some (.ref f24)))
    (l24 : K.lookup f24 = some ⟨oc24, od24, .func (PySem.W.fnOf "next_change" "next_change" (defArgs sNext) (defBody sNext) (defScope sNext) .none kV24 dc24 pm24 an24 cd24 ct24), sl24⟩)
    (c24 : PySem.W.codeIn K cd24 "next_change" = true)
    (k24 : PySem.W.keepIn K (.ref f24) = true)
    (a25 : PySem.W.nsIn K mainGlobals "_law_stream" = some (some (.ref f25)))
    (l25 : K.lookup f25 = some ⟨oc25, od25, .func (PySem.W.fnOf "_law_stream" "_law_stream" (defArgs sStream) (defBody sStream) (defScope sStream) .none kV25 dc25 pm25 an25 cd25 ct25), sl25⟩)
    (c25 : PySem.W.codeIn K cd25 "_law_stream" = true)
    (k25 : PySem.W.keepIn K (.ref f25) = true)
    (a26 : PySem.W.nsIn K mainGlobals "_law_next" = some (some (.ref f26)))
    (l26 : K.lookup f26 = some ⟨oc26, od26, .func (PySem.W.fnOf "_law_next" "_law_next" (defArgs sLNext) (defBody sLNext) (defScope sLNext) .none kV26 dc26 pm26 an26 cd26 ct26), sl26⟩)
    (c26 : PySem.W.codeIn K cd26 "_law_next" = true)
    (k26 : PySem.W.keepIn K (.ref f26) = true)
    (a27 : PySem.W.nsIn K mainGlobals "_law_is_integer" = some (some (.ref f27)))
    (l27 : K.lookup f27 = some ⟨oc27, od27, .func (PySem.W.fnOf "_law_is_integer" "_law_is_integer" (defArgs sLInt) (defBody sLInt) (defScope sLInt) .none kV27 dc27 pm27 an27 cd27 ct27), sl27⟩)
    (c27 : PySem.W.codeIn K cd27 "_law_is_integer" = true)
    (k27 : PySem.W.keepIn K (.ref f27) = true)
    (a28 : PySem.W.nsIn K mainGlobals "_law_equal" = some (some (.ref f28)))
    (l28 : K.lookup f28 = some ⟨oc28, od28, .func (PySem.W.fnOf "_law_equal" "_law_equal" (defArgs sLEqual) (defBody sLEqual) (defScope sLEqual) .none kV28 dc28 pm28 an28 cd28 ct28), sl28⟩)
    (c28 : PySem.W.codeIn K cd28 "_law_equal" = true)
    (k28 : PySem.W.keepIn K (.ref f28) = true)
    (a29 : PySem.W.nsIn K mainGlobals "_law_counts" = some (some (.ref f29)))
    (l29 : K.lookup f29 = some ⟨oc29, od29, .func (PySem.W.fnOf "_law_counts" "_law_counts" (defArgs sLCounts) (defBody sLCounts) (defScope sLCounts) .none kV29 dc29 pm29 an29 cd29 ct29), sl29⟩)
    (c29 : PySem.W.codeIn K cd29 "_law_counts" = true)
    (k29 : PySem.W.keepIn K (.ref f29) = true)
    (a30 : PySem.W.nsIn K mainGlobals "_law_assignment" = some (some (.ref f30)))
    (l30 : K.lookup f30 = some ⟨oc30, od30, .func (PySem.W.fnOf "_law_assignment" "_law_assignment" (defArgs sLAssign) (defBody sLAssign) (defScope sLAssign) .none kV30 dc30 pm30 an30 cd30 ct30), sl30⟩)
    (c30 : PySem.W.codeIn K cd30 "_law_assignment" = true)
    (k30 : PySem.W.keepIn K (.ref f30) = true)
    (a31 : PySem.W.nsIn K mainGlobals "_law_shares" = some (some (.ref f31)))
    (l31 : K.lookup f31 = some ⟨oc31, od31, .func (PySem.W.fnOf "_law_shares" "_law_shares" (defArgs sLShares) (defBody sLShares) (defScope sLShares) .none kV31 dc31 pm31 an31 cd31 ct31), sl31⟩)
    (c31 : PySem.W.codeIn K cd31 "_law_shares" = true)
    (k31 : PySem.W.keepIn K (.ref f31) = true)
    (a32 : PySem.W.nsIn K mainGlobals "law" = some (some (.ref f32)))
    (l32 : K.lookup f32 = some ⟨oc32, od32, .func (PySem.W.fnOf "law" "law" (defArgs sLaw) (defBody sLaw) (defScope sLaw) .none kV32 dc32 pm32 an32 cd32 ct32), sl32⟩)
    (c32 : PySem.W.codeIn K cd32 "law" = true)
    (k32 : PySem.W.keepIn K (.ref f32) = true)
    (aC : PySem.W.nsIn K mainGlobals "Moves" = some (some (.ref C)))
    (ma0 : PySem.W.findIn K (.ref C) "__init__" = some (some (.ref g0)))
    (mi0 : PySem.W.isFn K (.ref g0) = true)
    (ml0 : K.lookup g0 = some ⟨ocm0, odm0, .func (PySem.W.fnOf "__init__" "Moves.__init__" (defArgs sInit) (defBody sInit) (defScope sInit) .none kVm0 dcm0 pmm0 anm0 cdm0 ctm0), slm0⟩)
    (mc0 : PySem.W.codeIn K cdm0 "Moves.__init__" = true)
    (mk0 : PySem.W.keepIn K (.ref g0) = true)
    (ma1 : PySem.W.findIn K (.ref C) "options" = some (some (.ref g1)))
    (mi1 : PySem.W.isFn K (.ref g1) = true)
    (ml1 : K.lookup g1 = some ⟨ocm1, odm1, .func (PySem.W.fnOf "options" "Moves.options" (defArgs sOptions) (defBody sOptions) (defScope sOptions) .none kVm1 dcm1 pmm1 anm1 cdm1 ctm1), slm1⟩)
    (mc1 : PySem.W.codeIn K cdm1 "Moves.options" = true)
    (mk1 : PySem.W.keepIn K (.ref g1) = true)
    (ma2 : PySem.W.findIn K (.ref C) "take" = some (some (.ref g2)))
    (mi2 : PySem.W.isFn K (.ref g2) = true)
    (ml2 : K.lookup g2 = some ⟨ocm2, odm2, .func (PySem.W.fnOf "take" "Moves.take" (defArgs sTake) (defBody sTake) (defScope sTake) .none kVm2 dcm2 pmm2 anm2 cdm2 ctm2), slm2⟩)
    (mc2 : PySem.W.codeIn K cdm2 "Moves.take" = true)
    (mk2 : PySem.W.keepIn K (.ref g2) = true)
    (pg : PySem.W.plainGet K C Str.empty = true)
    (hd : PySem.W.hasDictIn K C = true)
    (po : PySem.W.plainOver K C = true)
    (sa : PySem.W.findIn K (.ref C) "__setattr__" = some (some (.builtin "object.__setattr__")))
    (mk : PySem.W.makesIn K C = true)
    (kc : PySem.W.keepIn K (.ref C) = true)
    (nA : PySem.W.findIn K (.ref C) "assignment" = some none)
    (nW : PySem.W.findIn K (.ref C) "waiting" = some none)
    (nL : PySem.W.findIn K (.ref C) "leaving" = some none)
    (nE : PySem.W.findIn K (.ref C) "entering" = some none)
    (gMV : PySem.W.nsIn K mainGlobals "MOST_VARIANTS" = some (some (.int 5 t5)))
    (gMB : PySem.W.nsIn K mainGlobals "MOST_BUCKETS" = some (some (.int 20 t20)))
    (gC : PySem.W.nsIn K mainGlobals "comb" = some (some (.builtin "math.comb")))
    (gF : PySem.W.nsIn K mainGlobals "factorial" = some (some (.builtin "math.factorial")))
    (z_isi : PySem.W.nsIn K mainGlobals "isinstance" = some none)
    (z_int : PySem.W.nsIn K mainGlobals "int" = some none)
    (z_bool : PySem.W.nsIn K mainGlobals "bool" = some none)
    (z_tuple : PySem.W.nsIn K mainGlobals "tuple" = some none)
    (z_list : PySem.W.nsIn K mainGlobals "list" = some none)
    (z_str : PySem.W.nsIn K mainGlobals "str" = some none)
    (z_len : PySem.W.nsIn K mainGlobals "len" = some none)
    (z_all : PySem.W.nsIn K mainGlobals "all" = some none)
    (z_sum : PySem.W.nsIn K mainGlobals "sum" = some none)
    (z_range : PySem.W.nsIn K mainGlobals "range" = some none)
    (z_max : PySem.W.nsIn K mainGlobals "max" = some none)
    (z_abs : PySem.W.nsIn K mainGlobals "abs" = some none)
    (z_zip : PySem.W.nsIn K mainGlobals "zip" = some none)
    (z_sorted : PySem.W.nsIn K mainGlobals "sorted" = some none)
    (z_enum : PySem.W.nsIn K mainGlobals "enumerate" = some none)
    : ∃ fd : FuncData, (∀ (s : Shared) (v : Value), BindsTo s fd ⟨[v], []⟩ [("_law_script", v)]) ∧ ∀ base : Heap, K.In base → base.Ns mainGlobals mg → FnOk l.prog w K mg base CX0 7 fa fd ["_law_script"] (spLaw K) := by
  have e := hfa.symm.trans (PySem.W.mg_of X G a32)
  cases e
  have T : Txt K mg := { isi := PySem.W.mg_none_of X G z_isi, int := PySem.W.mg_none_of X G z_int, bool := PySem.W.mg_none_of X G z_bool, tuple := PySem.W.mg_none_of X G z_tuple, list := PySem.W.mg_none_of X G z_list, str := PySem.W.mg_none_of X G z_str, len := PySem.W.mg_none_of X G z_len, all := PySem.W.mg_none_of X G z_all, sum := PySem.W.mg_none_of X G z_sum, range := PySem.W.mg_none_of X G z_range, max := PySem.W.mg_none_of X G z_max, abs := PySem.W.mg_none_of X G z_abs, zip := PySem.W.mg_none_of X G z_zip, sorted := PySem.W.mg_none_of X G z_sorted, enum := PySem.W.mg_none_of X G z_enum, mv := ⟨t5, PySem.W.mg_of X G gMV⟩, mb := ⟨t20, PySem.W.mg_of X G gMB⟩, comb := PySem.W.mg_of X G gC, fact := PySem.W.mg_of X G gF }
  have cm : ClM K mg C := ⟨⟨pg, hd, po, sa⟩, nA, nW, nL, nE⟩
  have F0 := fun_mk (st := sWhole) l0 c0 k0
  have b0 := F0.binds (ps := ["value"]) fun _ _ _ _ _ _ us hl => match us, hl with | [_], _ => rfl
  have m0 := PySem.W.mg_of X G a0
  have F1 := fun_mk (st := sBetween) l1 c1 k1
  have b1 := F1.binds (ps := ["value", "low", "high"]) fun _ _ _ _ _ _ us hl => match us, hl with | [_, _, _], _ => rfl
  have m1 := PySem.W.mg_of X G a1
  have F2 := fun_mk (st := sIsAlloc) l2 c2 k2
  have b2 := F2.binds (ps := ["value", "variants", "buckets"]) fun _ _ _ _ _ _ us hl => match us, hl with | [_, _, _], _ => rfl
  have m2 := PySem.W.mg_of X G a2
  have F3 := fun_mk (st := sIsAssign) l3 c3 k3
  have b3 := F3.binds (ps := ["value", "variants", "buckets"]) fun _ _ _ _ _ _ us hl => match us, hl with | [_, _, _], _ => rfl
  have m3 := PySem.W.mg_of X G a3
  have F4 := fun_mk (st := sCounts) l4 c4 k4
  have b4 := F4.binds (ps := ["assignment", "variants"]) fun _ _ _ _ _ _ us hl => match us, hl with | [_, _], _ => rfl
  have m4 := PySem.W.mg_of X G a4
  have F5 := fun_mk (st := sInteger) l5 c5 k5
  have b5 := F5.binds (ps := ["value"]) fun _ _ _ _ _ _ us hl => match us, hl with | [_], _ => rfl
  have m5 := PySem.W.mg_of X G a5
  have F6 := fun_mk (st := sChkVar) l6 c6 k6
  have b6 := F6.binds (ps := ["variants"]) fun _ _ _ _ _ _ us hl => match us, hl with | [_], _ => rfl
  have m6 := PySem.W.mg_of X G a6
  have F7 := fun_mk (st := sSome) l7 c7 k7
  have b7 := F7.binds (ps := ["value"]) fun _ _ _ _ _ _ us hl => match us, hl with | [_], _ => rfl
  have m7 := PySem.W.mg_of X G a7
  have F8 := fun_mk (st := sChkAlloc) l8 c8 k8
  have b8 := F8.binds (ps := ["value"]) fun _ _ _ _ _ _ us hl => match us, hl with | [_], _ => rfl
  have m8 := PySem.W.mg_of X G a8
  have F9 := fun_mk (st := sChkAssign) l9 c9 k9
  have b9 := F9.binds (ps := ["allocation", "value", "name"]) fun _ _ _ _ _ _ us hl => match us, hl with | [_, _, _], _ => rfl
  have m9 := PySem.W.mg_of X G a9
  have F10 := fun_mk (st := sChkBucket) l10 c10 k10
  have b10 := F10.binds (ps := ["allocation", "bucket"]) fun _ _ _ _ _ _ us hl => match us, hl with | [_, _], _ => rfl
  have m10 := PySem.W.mg_of X G a10
  have F11 := fun_mk (st := sNMove) l11 c11 k11
  have b11 := F11.binds (ps := ["before", "behind", "assignment", "other"]) fun _ _ _ _ _ _ us hl => match us, hl with | [_, _, _, _], _ => rfl
  have m11 := PySem.W.mg_of X G a11
  have F12 := fun_mk (st := sFirstN) l12 c12 k12
  have b12 := F12.binds (ps := ["variants", "assignment", "other"]) fun _ _ _ _ _ _ us hl => match us, hl with | [_, _, _], _ => rfl
  have m12 := PySem.W.mg_of X G a12
  have F13 := fun_mk (st := sNeedless) l13 c13 k13
  have b13 := F13.binds (ps := ["variants", "assignment", "other"]) fun _ _ _ _ _ _ us hl => match us, hl with | [_, _, _], _ => rfl
  have m13 := PySem.W.mg_of X G a13
  have F14 := fun_mk (st := sMinimal) l14 c14 k14
  have b14 := F14.binds (ps := ["variants", "assignment", "other"]) fun _ _ _ _ _ _ us hl => match us, hl with | [_, _, _], _ => rfl
  have m14 := PySem.W.mg_of X G a14
  have F15 := fun_mk (st := sMovesOf) l15 c15 k15
  have b15 := F15.binds (ps := ["allocation", "assignment"]) fun _ _ _ _ _ _ us hl => match us, hl with | [_, _], _ => rfl
  have m15 := PySem.W.mg_of X G a15
  have F16 := fun_mk (st := sCompleted) l16 c16 k16
  have b16 := F16.binds (ps := ["allocation", "assignment", "begun"]) fun _ _ _ _ _ _ us hl => match us, hl with | [_, _, _], _ => rfl
  have m16 := PySem.W.mg_of X G a16
  have F17 := fun_mk (st := sFirst) l17 c17 k17
  have b17 := F17.binds (ps := ["allocation", "assignment"]) fun _ _ _ _ _ _ us hl => match us, hl with | [_, _], _ => rfl
  have m17 := PySem.W.mg_of X G a17
  have F18 := fun_mk (st := sWays) l18 c18 k18
  have b18 := F18.binds (ps := ["moves"]) fun _ _ _ _ _ _ us hl => match us, hl with | [_], _ => rfl
  have m18 := PySem.W.mg_of X G a18
  have F19 := fun_mk (st := sWaysWith) l19 c19 k19
  have b19 := F19.binds (ps := ["moves", "bucket", "chosen"]) fun _ _ _ _ _ _ us hl => match us, hl with | [_, _, _], _ => rfl
  have m19 := PySem.W.mg_of X G a19
  have F20 := fun_mk (st := sIsLeast) l20 c20 k20
  have b20 := F20.binds (ps := ["allocation", "assignment", "other"]) fun _ _ _ _ _ _ us hl => match us, hl with | [_, _, _], _ => rfl
  have m20 := PySem.W.mg_of X G a20
  have F21 := fun_mk (st := sCount) l21 c21 k21
  have b21 := F21.binds (ps := ["allocation", "assignment"]) fun _ _ _ _ _ _ us hl => match us, hl with | [_, _], _ => rfl
  have m21 := PySem.W.mg_of X G a21
  have F22 := fun_mk (st := sNth) l22 c22 k22
  have b22 := F22.binds (ps := ["allocation", "assignment", "index"]) fun _ _ _ _ _ _ us hl => match us, hl with | [_, _, _], _ => rfl
  have m22 := PySem.W.mg_of X G a22
  have F23 := fun_mk (st := sIndex) l23 c23 k23
  have b23 := F23.binds (ps := ["allocation", "assignment", "other"]) fun _ _ _ _ _ _ us hl => match us, hl with | [_, _, _], _ => rfl
  have m23 := PySem.W.mg_of X G a23
  have F24 := fun_mk (st := sNext) l24 c24 k24
  have b24 := F24.binds (ps := ["allocation", "assignment", "other", "bucket"]) fun _ _ _ _ _ _ us hl => match us, hl with | [_, _, _, _], _ => rfl
  have m24 := PySem.W.mg_of X G a24
  have F25 := fun_mk (st := sStream) l25 c25 k25
  have b25 := F25.binds (ps := ["_law_script"]) fun _ _ _ _ _ _ us hl => match us, hl with | [_], _ => rfl
  have m25 := PySem.W.mg_of X G a25
  have F26 := fun_mk (st := sLNext) l26 c26 k26
  have b26 := F26.binds (ps := ["_law_stream_here", "_law_many"]) fun _ _ _ _ _ _ us hl => match us, hl with | [_, _], _ => rfl
  have m26 := PySem.W.mg_of X G a26
  have F27 := fun_mk (st := sLInt) l27 c27 k27
  have b27 := F27.binds (ps := ["_law_actual"]) fun _ _ _ _ _ _ us hl => match us, hl with | [_], _ => rfl
  have m27 := PySem.W.mg_of X G a27
  have F28 := fun_mk (st := sLEqual) l28 c28 k28
  have b28 := F28.binds (ps := ["_law_actual", "_law_due"]) fun _ _ _ _ _ _ us hl => match us, hl with | [_, _], _ => rfl
  have m28 := PySem.W.mg_of X G a28
  have F29 := fun_mk (st := sLCounts) l29 c29 k29
  have b29 := F29.binds (ps := ["_law_assignment_here", "_law_variants"]) fun _ _ _ _ _ _ us hl => match us, hl with | [_, _], _ => rfl
  have m29 := PySem.W.mg_of X G a29
  have F30 := fun_mk (st := sLAssign) l30 c30 k30
  have b30 := F30.binds (ps := ["_law_stream_here", "_law_variants", "_law_buckets"]) fun _ _ _ _ _ _ us hl => match us, hl with | [_, _, _], _ => rfl
  have m30 := PySem.W.mg_of X G a30
  have F31 := fun_mk (st := sLShares) l31 c31 k31
  have b31 := F31.binds (ps := ["_law_stream_here", "_law_variants", "_law_buckets"]) fun _ _ _ _ _ _ us hl => match us, hl with | [_, _, _], _ => rfl
  have m31 := PySem.W.mg_of X G a31
  have FM0 := fun_mk (st := sInit) ml0 mc0 mk0
  have bm0 := FM0.binds (ps := ["self", "assignment", "waiting", "leaving", "entering"]) fun _ _ _ _ _ _ us hl => match us, hl with | [_, _, _, _, _], _ => rfl
  have FM1 := fun_mk (st := sOptions) ml1 mc1 mk1
  have bm1 := FM1.binds (ps := ["self", "bucket"]) fun _ _ _ _ _ _ us hl => match us, hl with | [_, _], _ => rfl
  have FM2 := fun_mk (st := sTake) ml2 mc2 mk2
  have bm2 := FM2.binds (ps := ["self", "bucket", "chosen"]) fun _ _ _ _ _ _ us hl => match us, hl with | [_, _, _], _ => rfl
  refine ⟨PySem.W.fnOf "law" "law" (defArgs sLaw) (defBody sLaw) (defScope sLaw) .none kV32 dc32 pm32 an32 cd32 ct32, fun s v => .of_eq rfl, fun base _ _ => ?_⟩
  have MM : MkM l.prog w K mg base C := ⟨⟨_, _, ok_init FM0 T cm, bm0, ⟨mk, ma0, mi0, kc⟩, PySem.W.mg_of X G aC⟩⟩
  have MO : MthM l.prog w K mg base C 1 "options" ["self", "bucket"] (spOptions K C) := ⟨⟨_, _, ok_options FM1 T cm, bm1, ⟨ma1, mi1, mk1⟩⟩⟩
  have MT : MthM l.prog w K mg base C 1 "take" ["self", "bucket", "chosen"] (spTake K C) := ⟨⟨_, _, ok_take FM2 cm, bm2, ⟨ma2, mi2, mk2⟩⟩⟩
  have D_is_whole : Dfn l.prog w K mg base 1 "is_whole" ["value"] spWhole := ⟨⟨_, _, ok_whole F0 T, b0, k0, m0⟩⟩
  have D_is_between : Dfn l.prog w K mg base 2 "is_between" ["value", "low", "high"] spBetween := ⟨⟨_, _, ok_between F1 T D_is_whole, b1, k1, m1⟩⟩
  have D_is_allocation : Dfn l.prog w K mg base 2 "is_allocation" ["value", "variants", "buckets"] (spIsAlloc K) := ⟨⟨_, _, ok_isAlloc F2 T D_is_whole, b2, k2, m2⟩⟩
  have D_is_assignment : Dfn l.prog w K mg base 3 "is_assignment" ["value", "variants", "buckets"] (spIsAssign K) := ⟨⟨_, _, ok_isAssign F3 T D_is_between, b3, k3, m3⟩⟩
  have D_counts_of : Dfn l.prog w K mg base 1 "counts_of" ["assignment", "variants"] spCounts := ⟨⟨_, _, ok_counts F4 T, b4, k4, m4⟩⟩
  have D_is_integer : Dfn l.prog w K mg base 1 "is_integer" ["value"] spWhole := ⟨⟨_, _, ok_integer F5 T, b5, k5, m5⟩⟩
  have D_check_variants : Dfn l.prog w K mg base 2 "check_variants" ["variants"] spChkVar := ⟨⟨_, _, ok_chkVar F6 T D_is_integer, b6, k6, m6⟩⟩
  have D_is_some_allocation : Dfn l.prog w K mg base 3 "is_some_allocation" ["value"] (spSome K) := ⟨⟨_, _, ok_some F7 T D_is_integer D_is_allocation, b7, k7, m7⟩⟩
  have D_check_allocation : Dfn l.prog w K mg base 4 "check_allocation" ["value"] (spChkAlloc K) := ⟨⟨_, _, ok_chkAlloc F8 D_is_some_allocation, b8, k8, m8⟩⟩
  have D_check_assignment : Dfn l.prog w K mg base 4 "check_assignment" ["allocation", "value", "name"] (spChkAssign K) := ⟨⟨_, _, ok_chkAssign F9 T D_is_assignment, b9, k9, m9⟩⟩
  have D_check_bucket : Dfn l.prog w K mg base 2 "check_bucket" ["allocation", "bucket"] (spChkBucket K) := ⟨⟨_, _, ok_chkBucket F10 T D_is_integer, b10, k10, m10⟩⟩
  have D_needless_move : Dfn l.prog w K mg base 1 "needless_move" ["before", "behind", "assignment", "other"] (spNMove K) := ⟨⟨_, _, ok_nMove F11 T, b11, k11, m11⟩⟩
  have D_first_needless : Dfn l.prog w K mg base 2 "first_needless" ["variants", "assignment", "other"] spFirstN := ⟨⟨_, _, ok_firstN F12 D_counts_of D_needless_move, b12, k12, m12⟩⟩
  have D_needless : Dfn l.prog w K mg base 4 "needless" ["variants", "assignment", "other"] (spMinimal .non) := ⟨⟨_, _, ok_needless F13 T D_check_variants D_is_assignment D_first_needless, b13, k13, m13⟩⟩
  have D_is_minimal : Dfn l.prog w K mg base 5 "is_minimal" ["variants", "assignment", "other"] (spMinimal (.bl true)) := ⟨⟨_, _, ok_minimal F14 D_needless, b14, k14, m14⟩⟩
  have D_moves_of : Dfn l.prog w K mg base 3 "moves_of" ["allocation", "assignment"] (spMovesOf K C) := ⟨⟨_, _, ok_movesOf F15 T D_counts_of MM, b15, k15, m15⟩⟩
  have D_completed : Dfn l.prog w K mg base 4 "completed" ["allocation", "assignment", "begun"] (spCompleted K) := ⟨⟨_, _, ok_completed F16 T cm D_moves_of MO MT, b16, k16, m16⟩⟩
  have D_first_change : Dfn l.prog w K mg base 5 "first_change" ["allocation", "assignment"] (spFirst K) := ⟨⟨_, _, ok_first F17 D_check_allocation D_check_assignment D_completed, b17, k17, m17⟩⟩
  have D_ways : Dfn l.prog w K mg base 1 "ways" ["moves"] (spWays C) := ⟨⟨_, _, ok_ways F18 T cm, b18, k18, m18⟩⟩
  have D_ways_with : Dfn l.prog w K mg base 3 "ways_with" ["moves", "bucket", "chosen"] (spWaysWith K C) := ⟨⟨_, _, ok_waysWith F19 cm MM MT D_ways, b19, k19, m19⟩⟩
  have D_is_least : Dfn l.prog w K mg base 2 "is_least" ["allocation", "assignment", "other"] (spIsLeast K) := ⟨⟨_, _, ok_isLeast F20 T D_counts_of D_needless_move, b20, k20, m20⟩⟩
  have D_count_changes : Dfn l.prog w K mg base 5 "count_changes" ["allocation", "assignment"] (spCount K) := ⟨⟨_, _, ok_count F21 D_check_allocation D_check_assignment D_moves_of D_ways, b21, k21, m21⟩⟩
  have D_nth_change : Dfn l.prog w K mg base 6 "nth_change" ["allocation", "assignment", "index"] (spNth K) := ⟨⟨_, _, ok_nth F22 T cm D_count_changes D_is_integer D_moves_of D_ways_with MO MT, b22, k22, m22⟩⟩
  have D_index_of : Dfn l.prog w K mg base 5 "index_of" ["allocation", "assignment", "other"] (spIndex K) := ⟨⟨_, _, ok_index F23 T cm D_check_allocation D_check_assignment D_is_least D_moves_of D_ways_with MO MT, b23, k23, m23⟩⟩
  have D_next_change : Dfn l.prog w K mg base 5 "next_change" ["allocation", "assignment", "other", "bucket"] (spNext K) := ⟨⟨_, _, ok_next F24 T cm D_check_allocation D_check_assignment D_is_least D_check_bucket D_moves_of D_completed MO MT, b24, k24, m24⟩⟩
  have D__law_stream : Dfn l.prog w K mg base 1 "_law_stream" ["_law_script"] (spStream K) := ⟨⟨_, _, ok_stream F25 T, b25, k25, m25⟩⟩
  have D__law_next : Dfn l.prog w K mg base 1 "_law_next" ["_law_stream_here", "_law_many"] spLNext := ⟨⟨_, _, ok_lnext F26 T, b26, k26, m26⟩⟩
  have D__law_is_integer : Dfn l.prog w K mg base 1 "_law_is_integer" ["_law_actual"] spWhole := ⟨⟨_, _, ok_lint F27 T, b27, k27, m27⟩⟩
  have D_eqI : Dfn l.prog w K mg base 2 "_law_equal" ["_law_actual", "_law_due"] spEqI := ⟨⟨_, _, ok_equalI F28 T D__law_is_integer, b28, k28, m28⟩⟩
  have D__law_equal : Dfn l.prog w K mg base 3 "_law_equal" ["_law_actual", "_law_due"] (spEqV K) := ⟨⟨_, _, ok_equalV F28 T D_eqI, b28, k28, m28⟩⟩
  have D__law_counts : Dfn l.prog w K mg base 1 "_law_counts" ["_law_assignment_here", "_law_variants"] (spLCounts K) := ⟨⟨_, _, ok_lcounts F29 T, b29, k29, m29⟩⟩
  have D__law_assignment : Dfn l.prog w K mg base 2 "_law_assignment" ["_law_stream_here", "_law_variants", "_law_buckets"] spLAssign := ⟨⟨_, _, ok_lassign F30 T D__law_next, b30, k30, m30⟩⟩
  have D__law_shares : Dfn l.prog w K mg base 3 "_law_shares" ["_law_stream_here", "_law_variants", "_law_buckets"] spLShares := ⟨⟨_, _, ok_lshares F31 D__law_counts D__law_assignment, b31, k31, m31⟩⟩
  exact ok_law (fun_mk (st := sLaw) l32 c32 k32) T D__law_stream D__law_next D__law_assignment D__law_shares D_count_changes D_nth_change D__law_counts D_is_minimal D__law_equal D_index_of D_next_change D_first_change
theorem walk {l : PySem.W.OpenLaw} {q : Program} {loose : List Str} {XP : (Str → Option Value) → Heap → Prop} {YP : World → Heap → Prop} {d : DefRec} {K : Params → PySem.W.Frag} (hn : l.most = some 63) (hdf : d.params.defaults = [])
    (hY : ∀ (w : World) (h : Heap), YP w h → (K w.params).In h)
    (F : ∀ (w : World) (mg : Str → Option Value) (fa : Addr) (h : Heap), (K w.params).In h → h.Ns mainGlobals mg → mg d.name = some (.ref fa) →
      ∃ fd : FuncData, (∀ (s : Shared) (u : Value), BindsTo s fd ⟨[u], []⟩ [("_law_script", u)]) ∧ ∀ base : Heap, (K w.params).In base → base.Ns mainGlobals mg → FnOk l.prog w (K w.params) mg base CX0 7 fa fd ["_law_script"] (spLaw (K w.params))) :
    PySem.W.WalkO q loose XP YP l.row.toRowW d [] (fun f vs => PySem.call f vs) :=
  L2.walk_of (n := 63) (k := 7) (x := "_law_script") (CX := fun _ => CX0) (sp := fun w => spLaw (K w.params)) hn (by decide) hdf ⟨rfl, by decide, by decide⟩ hY F (fun _ _ a ns hl _ hS => ⟨a, ns, rfl, hS, hl, fun _ => rfl⟩) fun _ _ _ _ _ z => z
end LX

open PySem PySem.W PyProof.Rows
set_option maxRecDepth 100000 in
set_option maxHeartbeats 0 in
theorem PySem.Challenge.cw_leastmoved_k16_whole_far_indexes_holds : PySem.Challenge.rw_leastmoved_k16_whole_far_indexes.Holds := by
  w_on; o_law; k_head; (case hw => w_witness2)
  k_fill
  refine LX.walk (l := PySem.Challenge.rw_leastmoved_k16_whole_far_indexes) rfl rfl (fun w h Y => PySem.W.kIn_of Y) ?F
  case F =>
    intro w mg fa h KX G hmg
    refine' LX.all_mk KX G hmg ?a0 ?l0 ?c0 ?k0 ?a1 ?l1 ?c1 ?k1 ?a2 ?l2 ?c2 ?k2 ?a3 ?l3 ?c3 ?k3 ?a4 ?l4 ?c4 ?k4 ?a5 ?l5 ?c5 ?k5 ?a6 ?l6 ?c6 ?k6 ?a7 ?l7 ?c7 ?k7 ?a8 ?l8 ?c8 ?k8 ?a9 ?l9 ?c9 ?k9 ?a10 ?l10 ?c10 ?k10 ?a11 ?l11 ?c11 ?k11 ?a12 ?l12 ?c12 ?k12 ?a13 ?l13 ?c13 ?k13 ?a14 ?l14 ?c14 ?k14 ?a15 ?l15 ?c15 ?k15 ?a16 ?l16 ?c16 ?k16 ?a17 ?l17 ?c17 ?k17 ?a18 ?l18 ?c18 ?k18 ?a19 ?l19 ?c19 ?k19 ?a20 ?l20 ?c20 ?k20 ?a21 ?l21 ?c21 ?k21 ?a22 ?l22 ?c22 ?k22 ?a23 ?l23 ?c23 ?k23 ?a24 ?l24 ?c24 ?k24 ?a25 ?l25 ?c25 ?k25 ?a26 ?l26 ?c26 ?k26 ?a27 ?l27 ?c27 ?k27 ?a28 ?l28 ?c28 ?k28 ?a29 ?l29 ?c29 ?k29 ?a30 ?l30 ?c30 ?k30 ?a31 ?l31 ?c31 ?k31 ?a32 ?l32 ?c32 ?k32 ?aC ?ma0 ?mi0 ?ml0 ?mc0 ?mk0 ?ma1 ?mi1 ?ml1 ?mc1 ?mk1 ?ma2 ?mi2 ?ml2 ?mc2 ?mk2 ?pg ?hd ?po ?sa ?mk ?kc ?nA ?nW ?nL ?nE ?gMV ?gMB ?gC ?gF ?z_isi ?z_int ?z_bool ?z_tuple ?z_list ?z_str ?z_len ?z_all ?z_sum ?z_range ?z_max ?z_abs ?z_zip ?z_sorted ?z_enum
    (case a0 => k_is)
    (case l0 => k_is)
    (case c0 => k_is)
    (case k0 => k_is)
    (case a1 => k_is)
    (case l1 => k_is)
    (case c1 => k_is)
    (case k1 => k_is)
    (case a2 => k_is)
    (case l2 => k_is)
    (case c2 => k_is)
    (case k2 => k_is)
    (case a3 => k_is)
    (case l3 => k_is)
    (case c3 => k_is)
    (case k3 => k_is)
    (case a4 => k_is)
    (case l4 => k_is)
    (case c4 => k_is)
    (case k4 => k_is)
    (case a5 => k_is)
    (case l5 => k_is)
    (case c5 => k_is)
    (case k5 => k_is)
    (case a6 => k_is)
    (case l6 => k_is)
    (case c6 => k_is)
    (case k6 => k_is)
    (case a7 => k_is)
    (case l7 => k_is)
    (case c7 => k_is)
    (case k7 => k_is)
    (case a8 => k_is)
    (case l8 => k_is)
    (case c8 => k_is)
    (case k8 => k_is)
    (case a9 => k_is)
    (case l9 => k_is)
    (case c9 => k_is)
    (case k9 => k_is)
    (case a10 => k_is)
    (case l10 => k_is)
    (case c10 => k_is)
    (case k10 => k_is)
    (case a11 => k_is)
    (case l11 => k_is)
    (case c11 => k_is)
    (case k11 => k_is)
    (case a12 => k_is)
    (case l12 => k_is)
    (case c12 => k_is)
    (case k12 => k_is)
    (case a13 => k_is)
    (case l13 => k_is)
    (case c13 => k_is)
    (case k13 => k_is)
    (case a14 => k_is)
    (case l14 => k_is)
    (case c14 => k_is)
    (case k14 => k_is)
    (case a15 => k_is)
    (case l15 => k_is)
    (case c15 => k_is)
    (case k15 => k_is)
    (case a16 => k_is)
    (case l16 => k_is)
    (case c16 => k_is)
    (case k16 => k_is)
    (case a17 => k_is)
    (case l17 => k_is)
    (case c17 => k_is)
    (case k17 => k_is)
    (case a18 => k_is)
    (case l18 => k_is)
    (case c18 => k_is)
    (case k18 => k_is)
    (case a19 => k_is)
    (case l19 => k_is)
    (case c19 => k_is)
    (case k19 => k_is)
    (case a20 => k_is)
    (case l20 => k_is)
    (case c20 => k_is)
    (case k20 => k_is)
    (case a21 => k_is)
    (case l21 => k_is)
    (case c21 => k_is)
    (case k21 => k_is)
    (case a22 => k_is)
    (case l22 => k_is)
    (case c22 => k_is)
    (case k22 => k_is)
    (case a23 => k_is)
    (case l23 => k_is)
    (case c23 => k_is)
    (case k23 => k_is)
    (case a24 => k_is)
    (case l24 => k_is)
    (case c24 => k_is)
    (case k24 => k_is)
    (case a25 => k_is)
    (case l25 => k_is)
    (case c25 => k_is)
    (case k25 => k_is)
    (case a26 => k_is)
    (case l26 => k_is)
    (case c26 => k_is)
    (case k26 => k_is)
    (case a27 => k_is)
    (case l27 => k_is)
    (case c27 => k_is)
    (case k27 => k_is)
    (case a28 => k_is)
    (case l28 => k_is)
    (case c28 => k_is)
    (case k28 => k_is)
    (case a29 => k_is)
    (case l29 => k_is)
    (case c29 => k_is)
    (case k29 => k_is)
    (case a30 => k_is)
    (case l30 => k_is)
    (case c30 => k_is)
    (case k30 => k_is)
    (case a31 => k_is)
    (case l31 => k_is)
    (case c31 => k_is)
    (case k31 => k_is)
    (case a32 => k_is)
    (case l32 => k_is)
    (case c32 => k_is)
    (case k32 => k_is)
    (case aC => k_is)
    (case ma0 => k_is)
    (case mi0 => k_is)
    (case ml0 => k_is)
    (case mc0 => k_is)
    (case mk0 => k_is)
    (case ma1 => k_is)
    (case mi1 => k_is)
    (case ml1 => k_is)
    (case mc1 => k_is)
    (case mk1 => k_is)
    (case ma2 => k_is)
    (case mi2 => k_is)
    (case ml2 => k_is)
    (case mc2 => k_is)
    (case mk2 => k_is)
    (case pg => k_is)
    (case hd => k_is)
    (case po => k_is)
    (case sa => k_is)
    (case mk => k_is)
    (case kc => k_is)
    (case nA => k_is)
    (case nW => k_is)
    (case nL => k_is)
    (case nE => k_is)
    (case gMV => k_is)
    (case gMB => k_is)
    (case gC => k_is)
    (case gF => k_is)
    (case z_isi => k_is)
    (case z_int => k_is)
    (case z_bool => k_is)
    (case z_tuple => k_is)
    (case z_list => k_is)
    (case z_str => k_is)
    (case z_len => k_is)
    (case z_all => k_is)
    (case z_sum => k_is)
    (case z_range => k_is)
    (case z_max => k_is)
    (case z_abs => k_is)
    (case z_zip => k_is)
    (case z_sorted => k_is)
    (case z_enum => k_is)
