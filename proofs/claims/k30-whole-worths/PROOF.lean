import PyProof.Rows.All
import Wide.All
import OpenK.AllK
import Wide.FinOn
import HandS.ForMost
import HandS.IsInst
import HandS.Conv
import HandS.TupLen
import KE.GoesMore
import KE.SortData
import KE.KDictDisplayH
import KE.OsSortAny
import KE.KDictSum
import PySem.Challenge.RW_sowring_k30_whole_worths
set_option Elab.async false
set_option linter.all false
set_option maxRecDepth 100000
set_option maxHeartbeats 8000000
namespace Sw
/-! ### sowing, in plain lists of naturals -/
def bump (b : List Nat) (i : Nat) : List Nat := b.set i (b.getD i 0 + 1)
def bumps (b : List Nat) (f : Nat) : Nat → List Nat
  | 0 => b
  | h + 1 => bump (bumps b f h) ((f + h) % b.length)
def sow (b : List Nat) (p : Nat) : List Nat := bumps (b.set p 0) (p + 1) (b.getD p 0)

theorem bump_len (b : List Nat) (i : Nat) : (bump b i).length = b.length := by
  unfold bump; rw [List.length_set]
theorem bumps_len (b : List Nat) (f : Nat) : ∀ h, (bumps b f h).length = b.length
  | 0 => rfl
  | h + 1 => by
    show (bump (bumps b f h) _).length = _
    rw [bump_len, bumps_len b f h]
theorem sow_len (b : List Nat) (p : Nat) : (sow b p).length = b.length := by
  unfold sow; rw [bumps_len, List.length_set]

/-- how many of the seeds f, f + 1, .. (h of them) fall into pit i -/
def cnt (f n h i : Nat) : Nat := match h with
  | 0 => 0
  | h + 1 => cnt f n h i + if (f + h) % n = i then 1 else 0
theorem getD_set (b : List Nat) (i j y : Nat) (hi : i < b.length) : (b.set i y).getD j 0 = if i = j then y else b.getD j 0 := by
  rw [List.getD_eq_getElem?_getD, List.getElem?_set]
  by_cases e : i = j
  · rw [if_pos e, if_pos e, if_pos hi]; rfl
  · rw [if_neg e, if_neg e, List.getD_eq_getElem?_getD]
theorem bump_getD (b : List Nat) (i j : Nat) (hi : i < b.length) : (bump b i).getD j 0 = b.getD j 0 + if i = j then 1 else 0 := by
  unfold bump
  rw [getD_set b i j _ hi]
  by_cases e : i = j
  · rw [if_pos e, if_pos e, e]
  · rw [if_neg e, if_neg e]; rfl
theorem getD_at (b : List Nat) {i : Nat} (h : i < b.length) : b.getD i 0 = b[i] := by
  rw [List.getD_eq_getElem?_getD, List.getElem?_eq_getElem h]; rfl
theorem bumps_getD (b : List Nat) (f j : Nat) (hb : 0 < b.length) : ∀ h, (bumps b f h).getD j 0 = b.getD j 0 + cnt f b.length h j
  | 0 => rfl
  | h + 1 => by
    have hl := bumps_len b f h
    show (bump (bumps b f h) ((f + h) % b.length)).getD j 0 = _
    rw [bump_getD _ _ _ (by rw [hl]; exact Nat.mod_lt _ hb), bumps_getD b f j hb h]
    show _ = b.getD j 0 + (cnt f b.length h j + _)
    omega
theorem cnt_head (f n i : Nat) : ∀ h, cnt f n (h + 1) i = (if f % n = i then 1 else 0) + cnt (f + 1) n h i
  | 0 => by show 0 + _ = _ + 0; rw [Nat.add_zero, Nat.add_zero, Nat.zero_add]
  | h + 1 => by
    show cnt f n (h + 1) i + (if (f + (h + 1)) % n = i then 1 else 0) = _
    rw [cnt_head f n i h]
    show _ = _ + (cnt (f + 1) n h i + (if (f + 1 + h) % n = i then 1 else 0))
    rw [show f + (h + 1) = f + 1 + h by omega]
    omega
theorem cnt_shift (f n i : Nat) : cnt (f + 1) n n i = cnt f n n i := by
  cases n with
  | zero => rfl
  | succ m =>
    rw [cnt_head f (m + 1) i m]
    show cnt (f + 1) (m + 1) m i + (if (f + 1 + m) % (m + 1) = i then 1 else 0) = _
    rw [show f + 1 + m = f + (m + 1) by omega, Nat.add_mod_right]
    omega
theorem cnt_zero (n i : Nat) : ∀ h, h ≤ n → cnt 0 n h i = if i < h then 1 else 0
  | 0, _ => by rw [if_neg (Nat.not_lt_zero _)]; rfl
  | h + 1, hl => by
    show cnt 0 n h i + (if (0 + h) % n = i then 1 else 0) = _
    rw [cnt_zero n i h (by omega), Nat.zero_add, Nat.mod_eq_of_lt (by omega)]
    by_cases e : h = i
    · rw [if_pos e, if_neg (by omega), if_pos (by omega)]
    · rw [if_neg e]
      by_cases l : i < h
      · rw [if_pos l, if_pos (by omega)]
      · rw [if_neg l, if_neg (by omega)]
theorem cnt_full (n i : Nat) (hi : i < n) : ∀ f, cnt f n n i = 1
  | 0 => by rw [cnt_zero n i n (Nat.le_refl _), if_pos hi]
  | f + 1 => by rw [cnt_shift, cnt_full n i hi f]
theorem cnt_add (f n i m : Nat) : ∀ h, cnt f n (m + h) i = cnt f n m i + cnt (f + m) n h i
  | 0 => rfl
  | h + 1 => by
    show cnt f n (m + h) i + (if (f + (m + h)) % n = i then 1 else 0) = _ + (cnt (f + m) n h i + (if (f + m + h) % n = i then 1 else 0))
    rw [cnt_add f n i m h, show f + (m + h) = f + m + h by omega]
    omega
theorem cnt_per (f n i : Nat) : ∀ h, cnt (f + n) n h i = cnt f n h i
  | 0 => rfl
  | h + 1 => by
    show cnt (f + n) n h i + (if (f + n + h) % n = i then 1 else 0) = cnt f n h i + (if (f + h) % n = i then 1 else 0)
    rw [cnt_per f n i h, show f + n + h = f + h + n by omega, Nat.add_mod_right]
theorem cnt_mul (f n i r : Nat) (hi : i < n) : ∀ q, cnt f n (n * q + r) i = q + cnt f n r i
  | 0 => by rw [Nat.mul_zero, Nat.zero_add, Nat.zero_add]
  | q + 1 => by
    rw [show n * (q + 1) + r = n + (n * q + r) by rw [Nat.mul_succ]; omega, cnt_add, cnt_per, cnt_full n i hi, cnt_mul f n i r hi q]
    omega
/-- the program's way: whole rounds at once, the rest one by one -/
theorem put_eq (c : List Nat) (f h : Nat) (hc : 0 < c.length) : bumps (c.map (· + h / c.length)) f (h % c.length) = bumps c f h := by
  have l1 : (c.map (· + h / c.length)).length = c.length := List.length_map _
  apply List.ext_getElem
  · rw [bumps_len, bumps_len, l1]
  · intro i h1 h2
    have hi : i < c.length := by rw [bumps_len] at h2; exact h2
    have e1 := bumps_getD (c.map (· + h / c.length)) f i (by rw [l1]; exact hc) (h % c.length)
    have e2 := bumps_getD c f i hc h
    rw [getD_at _ h1, l1] at e1
    rw [getD_at _ h2] at e2
    rw [e1, e2, getD_at _ (show i < (c.map (· + h / c.length)).length by rw [l1]; exact hi), List.getElem_map, getD_at _ hi]
    have e3 := cnt_mul f c.length i (h % c.length) hi (h / c.length)
    rw [Nat.div_add_mod] at e3
    omega

/-! ### weighted sums -/
def wsum (w : Nat → Nat) : List Nat → Nat
  | [] => 0
  | x :: r => x * w 0 + wsum (fun i => w (i + 1)) r
theorem wsum_set : ∀ (b : List Nat) (w : Nat → Nat) (i y : Nat), i < b.length → wsum w (b.set i y) + b.getD i 0 * w i = wsum w b + y * w i
  | [], _, _, _, h => absurd h (Nat.not_lt_zero _)
  | x :: r, w, 0, y, _ => by
    show y * w 0 + wsum _ r + x * w 0 = x * w 0 + wsum _ r + y * w 0
    omega
  | x :: r, w, i + 1, y, h => by
    have ih := wsum_set r (fun i => w (i + 1)) i y (Nat.lt_of_succ_lt_succ h)
    show x * w 0 + wsum _ (r.set i y) + r.getD i 0 * w (i + 1) = x * w 0 + wsum _ r + y * w (i + 1)
    omega
theorem wsum_bump (b : List Nat) (w : Nat → Nat) (i : Nat) (h : i < b.length) : wsum w (bump b i) = wsum w b + w i := by
  have e := wsum_set b w i (b.getD i 0 + 1) h
  unfold bump
  rw [Nat.add_mul] at e
  omega
def wrun (w : Nat → Nat) (f n : Nat) : Nat → Nat
  | 0 => 0
  | h + 1 => wrun w f n h + w ((f + h) % n)
theorem wsum_bumps (b : List Nat) (w : Nat → Nat) (f : Nat) (hb : 0 < b.length) : ∀ h, wsum w (bumps b f h) = wsum w b + wrun w f b.length h
  | 0 => rfl
  | h + 1 => by
    show wsum w (bump (bumps b f h) _) = _ + (_ + _)
    rw [wsum_bump _ _ _ (by rw [bumps_len]; exact Nat.mod_lt _ hb), wsum_bumps b w f hb h]
    omega
theorem wsum_sow (b : List Nat) (w : Nat → Nat) (p : Nat) (hp : p < b.length) :
    wsum w (sow b p) + b.getD p 0 * w p = wsum w b + wrun w (p + 1) b.length (b.getD p 0) := by
  have e := wsum_set b w p 0 hp
  unfold sow
  rw [wsum_bumps _ _ _ (by rw [List.length_set]; omega), List.length_set]
  omega
theorem wsum_one : ∀ b : List Nat, wsum (fun _ => 1) b = b.sum
  | [] => rfl
  | x :: r => by
    show x * 1 + wsum (fun _ => 1) r = _
    rw [wsum_one r, List.sum_cons, Nat.mul_one]
theorem wrun_one (f n : Nat) : ∀ h, wrun (fun _ => 1) f n h = h
  | 0 => rfl
  | h + 1 => by show wrun _ f n h + 1 = _; rw [wrun_one f n h]
theorem sow_sum (b : List Nat) (p : Nat) (hp : p < b.length) : (sow b p).sum = b.sum := by
  have e := wsum_sow b (fun _ => 1) p hp
  rw [wsum_one, wsum_one, wrun_one] at e
  omega
theorem wsum_le : ∀ (b : List Nat) (w : Nat → Nat) (m : Nat), (∀ i, i < b.length → w i ≤ m) → wsum w b ≤ b.sum * m
  | [], _, _, _ => Nat.zero_le _
  | x :: r, w, m, h => by
    have ih := wsum_le r (fun i => w (i + 1)) m fun i hi => h (i + 1) (Nat.succ_lt_succ hi)
    have h0 := Nat.mul_le_mul_left x (h 0 (Nat.succ_pos _))
    show x * w 0 + wsum _ r ≤ _
    rw [List.sum_cons, Nat.add_mul]
    omega

/-! ### sowings other pits than a barred one come to an end -/
def dist (n q i : Nat) : Nat := if i ≤ q then q - i else q + n - i
def wt (n S q i : Nat) : Nat := if i = q then 0 else S * n + dist n q i
theorem run_at {n q p k : Nat} (hp : p < n) (hq : q < n) (hk : k < dist n q p) : (p + 1 + k) % n < n ∧ dist n q ((p + 1 + k) % n) + k + 1 = dist n q p := by
  have hd : dist n q p < n := by unfold dist; split <;> omega
  refine ⟨Nat.mod_lt _ (by omega), ?_⟩
  by_cases h : p + 1 + k < n
  · rw [Nat.mod_eq_of_lt h]
    unfold dist at hk ⊢
    split at hk <;> split <;> omega
  · rw [Nat.mod_eq_sub_mod (by omega), Nat.mod_eq_of_lt (by omega)]
    unfold dist at hk hd ⊢
    split at hk <;> split <;> (try split at hd) <;> omega
theorem dist_pos {n q i : Nat} (hi : i < n) (hq : q < n) (h : i ≠ q) : 0 < dist n q i := by unfold dist; split <;> omega
theorem dist_zero {n q i : Nat} (hi : i < n) (hq : q < n) (h : dist n q i = 0) : i = q := by unfold dist at h; split at h <;> omega
theorem dist_lt {n q i : Nat} (hi : i < n) (hq : q < n) : dist n q i < n := by unfold dist; split <;> omega
theorem wt_le {n S q i : Nat} (hi : i < n) (hq : q < n) : wt n S q i ≤ S * n + n := by
  have := dist_lt hi hq
  unfold wt; split <;> omega
theorem run_near {n S q p : Nat} (hp : p < n) (hq : q < n) (hpq : p ≠ q) : ∀ h, h < dist n q p → wrun (wt n S q) (p + 1) n h + h ≤ h * wt n S q p
  | 0, _ => by show 0 + 0 ≤ _; omega
  | h + 1, hl => by
    have ih := run_near (S := S) hp hq hpq h (by omega)
    obtain ⟨a1, a2⟩ := run_at hp hq (show h < dist n q p by omega)
    have ne : (p + 1 + h) % n ≠ q := fun e => by
      have z : dist n q ((p + 1 + h) % n) = 0 := by rw [e]; unfold dist; rw [if_pos (Nat.le_refl _)]; omega
      omega
    have e1 : wt n S q ((p + 1 + h) % n) = S * n + dist n q ((p + 1 + h) % n) := if_neg ne
    have e2 : wt n S q p = S * n + dist n q p := if_neg hpq
    show wrun _ _ _ h + wt n S q ((p + 1 + h) % n) + (h + 1) ≤ _
    rw [Nat.succ_mul]
    omega
theorem run_far {n S q p : Nat} (hp : p < n) (hq : q < n) (hpq : p ≠ q) : ∀ m, wrun (wt n S q) (p + 1) n (dist n q p + m) + (S * n + n) ≤ (dist n q p + m) * (S * n + n)
  | 0 => by
    have hd := dist_pos hp hq hpq
    obtain ⟨d, e⟩ : ∃ d, dist n q p = d + 1 := ⟨dist n q p - 1, by omega⟩
    have r := run_near (S := S) hp hq hpq d (by omega)
    obtain ⟨a1, a2⟩ := run_at hp hq (show d < dist n q p by omega)
    have z : wt n S q ((p + 1 + d) % n) = 0 := if_pos (dist_zero a1 hq (by omega))
    have l := Nat.mul_le_mul_left d (wt_le (S := S) hp hq)
    rw [Nat.add_zero, e]
    show wrun _ _ _ d + wt n S q ((p + 1 + d) % n) + _ ≤ _
    rw [z, Nat.succ_mul]
    omega
  | m + 1 => by
    have ih := run_far (S := S) hp hq hpq m
    have l := wt_le (S := S) (Nat.mod_lt (p + 1 + (dist n q p + m)) (show 0 < n by omega)) hq
    show wrun _ _ _ (dist n q p + m) + wt n S q ((p + 1 + (dist n q p + m)) % n) + _ ≤ (dist n q p + m + 1) * _
    rw [Nat.succ_mul]
    omega
theorem run_lt {n S q p h : Nat} (hp : p < n) (hq : q < n) (hpq : p ≠ q) (h0 : 0 < h) (hS : h ≤ S) : wrun (wt n S q) (p + 1) n h < h * wt n S q p := by
  by_cases hl : h < dist n q p
  · have := run_near (S := S) hp hq hpq h hl
    omega
  · obtain ⟨m, rfl⟩ : ∃ m, h = dist n q p + m := ⟨h - dist n q p, by omega⟩
    have r := run_far (S := S) hp hq hpq m
    generalize dist n q p + m = h at *
    have e2 : wt n S q p = S * n + dist n q p := if_neg hpq
    have hd := dist_pos hp hq hpq
    have l1 : h * (S * n + 1) ≤ h * wt n S q p := Nat.mul_le_mul_left h (by omega)
    have l2 : h * n ≤ S * n := Nat.mul_le_mul_right n hS
    rw [Nat.mul_add] at l1 r
    omega
/-- the measure -/
def mu (n S q : Nat) (b : List Nat) : Nat := wsum (wt n S q) b
theorem getD_le_sum : ∀ (b : List Nat) (p : Nat), b.getD p 0 ≤ b.sum
  | [], _ => Nat.zero_le _
  | x :: r, 0 => by rw [List.sum_cons]; show x ≤ _; omega
  | x :: r, p + 1 => by
    have := getD_le_sum r p
    rw [List.sum_cons]; show r.getD p 0 ≤ _; omega
theorem mu_lt {b : List Nat} {q p : Nat} (hp : p < b.length) (hq : q < b.length) (hpq : p ≠ q) (h0 : 0 < b.getD p 0) : mu b.length b.sum q (sow b p) < mu b.length b.sum q b := by
  have e := wsum_sow b (wt b.length b.sum q) p hp
  have l := run_lt (n := b.length) (S := b.sum) hp hq hpq h0 (getD_le_sum b p)
  unfold mu
  omega
theorem mu_le {b : List Nat} {q : Nat} (hq : q < b.length) : mu b.length b.sum q b ≤ b.sum * (b.sum * b.length + b.length) :=
  wsum_le b _ _ fun i hi => wt_le hi hq
end Sw
namespace Sw
/-! ### lists -/
theorem nodup_sub {α : Type} [DecidableEq α] : ∀ {l m : List α}, l.Nodup → (∀ x ∈ l, x ∈ m) → l.length ≤ m.length
  | [], _, _, _ => Nat.zero_le _
  | a :: r, m, h, s => by
    obtain ⟨h1, h2⟩ := List.nodup_cons.mp h
    have ha : a ∈ m := s a List.mem_cons_self
    have ih := nodup_sub (m := m.erase a) h2 fun x hx => (List.mem_erase_of_ne (fun e => h1 (by rw [← e]; exact hx))).mpr (s x (List.mem_cons_of_mem _ hx))
    rw [List.length_erase_of_mem ha] at ih
    have : 0 < m.length := List.length_pos_of_mem ha
    rw [List.length_cons]
    omega
/-! ### the least number that is lacking -/
def IsMex (l : List Nat) (m : Nat) : Prop := m ∉ l ∧ ∀ j, j < m → j ∈ l
theorem below_len {l : List Nat} {m : Nat} (h : ∀ j, j < m → j ∈ l) : m ≤ l.length := by
  have := nodup_sub (l := List.range m) (m := l) List.nodup_range fun x hx => h x (List.mem_range.mp hx)
  rwa [List.length_range] at this
theorem IsMex.uniq {l : List Nat} {m k : Nat} (a : IsMex l m) (b : IsMex l k) : m = k := by
  rcases Nat.lt_trichotomy m k with h | h | h
  · exact absurd (b.2 m h) a.1
  · exact h
  · exact absurd (a.2 k h) b.1
def mexGo (l : List Nat) : Nat → Nat → Nat
  | 0, k => k
  | f + 1, k => if k ∈ l then mexGo l f (k + 1) else k
def mex (l : List Nat) : Nat := mexGo l (l.length + 1) 0
theorem mexGo_ok (l : List Nat) : ∀ f k, (∀ j, j < k → j ∈ l) → l.length < k + f → IsMex l (mexGo l f k)
  | 0, k, h, hl => absurd (below_len h) (by omega)
  | f + 1, k, h, hl => by
    unfold mexGo
    by_cases e : k ∈ l
    · rw [if_pos e]
      refine mexGo_ok l f (k + 1) (fun j hj => ?_) (by omega)
      by_cases q : j = k
      · rw [q]; exact e
      · exact h j (by omega)
    · rw [if_neg e]
      exact ⟨e, h⟩
theorem mex_ok (l : List Nat) : IsMex l (mex l) := mexGo_ok l _ 0 (fun _ h => absurd h (Nat.not_lt_zero _)) (by omega)
/-! ### what a board leads to -/
def free (bar b : List Nat) (p : Nat) : Bool := decide (0 < b.getD p 0) && !decide (p ∈ bar)
def succs (bar b : List Nat) : List (List Nat) := ((List.range b.length).filter (free bar b)).map (sow b)
/-- the boards of n pits and S seeds; q: a barred pit -/
structure Pits where
  bar : List Nat
  n : Nat
  S : Nat
  q : Nat
  hq : q ∈ bar
  hn : q < n
structure Bd (X : Pits) (b : List Nat) : Prop where
  len : b.length = X.n
  sum : b.sum = X.S
def Pits.nx (X : Pits) (b : List Nat) : List (List Nat) := succs X.bar b
def Pits.mu (X : Pits) (b : List Nat) : Nat := Sw.mu X.n X.S X.q b
theorem mem_succs {bar b c : List Nat} : c ∈ succs bar b ↔ ∃ p, p < b.length ∧ 0 < b.getD p 0 ∧ p ∉ bar ∧ sow b p = c := by
  unfold succs free
  rw [List.mem_map]
  constructor
  · rintro ⟨p, hp, e⟩
    obtain ⟨h1, h2⟩ := List.mem_filter.mp hp
    rw [Bool.and_eq_true, decide_eq_true_iff, Bool.not_eq_true', decide_eq_false_iff_not] at h2
    exact ⟨p, List.mem_range.mp h1, h2.1, h2.2, e⟩
  · rintro ⟨p, h1, h2, h3, e⟩
    refine ⟨p, List.mem_filter.mpr ⟨List.mem_range.mpr h1, ?_⟩, e⟩
    rw [Bool.and_eq_true, decide_eq_true_iff, Bool.not_eq_true', decide_eq_false_iff_not]
    exact ⟨h2, h3⟩
theorem nx_bd {X : Pits} {b c : List Nat} (h : Bd X b) (hc : c ∈ X.nx b) : Bd X c ∧ X.mu c < X.mu b := by
  obtain ⟨p, h1, h2, h3, rfl⟩ := mem_succs.mp hc
  refine ⟨⟨(sow_len _ _).trans h.len, (sow_sum _ _ h1).trans h.sum⟩, ?_⟩
  have hb := h.len
  have hs := h.sum
  have l := mu_lt (b := b) (q := X.q) (p := p) h1 (by rw [hb]; exact X.hn) (fun e => h3 (by rw [e]; exact X.hq)) h2
  rw [hb, hs] at l
  exact l
theorem mu_top {X : Pits} {b : List Nat} (h : Bd X b) : X.mu b ≤ X.S * (X.S * X.n + X.n) := by
  have l := mu_le (b := b) (q := X.q) (by rw [h.len]; exact X.hn)
  rw [h.len, h.sum] at l
  exact l
/-! ### worths -/
def grF (bar : List Nat) : Nat → List Nat → Nat
  | 0, _ => 0
  | f + 1, b => mex ((succs bar b).map (grF bar f))
def Pits.gr (X : Pits) (b : List Nat) : Nat := grF X.bar (X.mu b + 1) b
theorem grF_st {X : Pits} : ∀ (f g : Nat) (b : List Nat), Bd X b → X.mu b < f → X.mu b < g → grF X.bar f b = grF X.bar g b
  | 0, _, _, _, h, _ => absurd h (Nat.not_lt_zero _)
  | _ + 1, 0, _, _, _, h => absurd h (Nat.not_lt_zero _)
  | f + 1, g + 1, b, hb, h1, h2 => by
    show mex _ = mex _
    congr 1
    apply List.map_congr_left
    intro c hc
    obtain ⟨a1, a2⟩ := nx_bd hb hc
    exact grF_st f g c a1 (by omega) (by omega)
theorem gr_eq {X : Pits} {b : List Nat} (h : Bd X b) : X.gr b = mex ((X.nx b).map X.gr) := by
  show mex _ = mex _
  congr 1
  apply List.map_congr_left
  intro c hc
  obtain ⟨a1, a2⟩ := nx_bd h hc
  exact grF_st _ _ c a1 a2 (by omega)
/-! ### reached -/
inductive Rch (X : Pits) (s : List Nat) : List Nat → Prop
  | refl : Rch X s s
  | step {b c : List Nat} : Rch X s b → c ∈ X.nx b → Rch X s c
theorem Rch.bd {X : Pits} {s b : List Nat} (h : Bd X s) (r : Rch X s b) : Bd X b := by
  induction r with
  | refl => exact h
  | step _ hc ih => exact (nx_bd ih hc).1
theorem Rch.closed {X : Pits} {s b : List Nat} (r : Rch X s b) {P : List Nat → Prop} (h0 : P s) (hs : ∀ b c, P b → c ∈ X.nx b → P c) : P b := by
  induction r with
  | refl => exact h0
  | step _ hc ih => exact hs _ _ ih hc
/-! ### how many boards there are -/
def incH : List Nat → List Nat
  | [] => []
  | x :: r => (x + 1) :: r
def compsS (prev : Nat → List (List Nat)) : Nat → List (List Nat)
  | 0 => (prev 0).map (0 :: ·)
  | s + 1 => (prev (s + 1)).map (0 :: ·) ++ (compsS prev s).map incH
def comps : Nat → Nat → List (List Nat)
  | 0 => fun s => if s = 0 then [[]] else []
  | n + 1 => compsS (comps n)
theorem mem_compsS {prev : Nat → List (List Nat)} {r : List Nat} (h : r ∈ prev r.sum) : ∀ x, x :: r ∈ compsS prev (x + r.sum)
  | 0 => by
    rw [Nat.zero_add]
    have m : 0 :: r ∈ (prev r.sum).map (0 :: ·) := List.mem_map.mpr ⟨r, h, rfl⟩
    generalize r.sum = s at m
    cases s with
    | zero => exact m
    | succ s => exact List.mem_append.mpr (.inl m)
  | x + 1 => by
    rw [show x + 1 + r.sum = (x + r.sum) + 1 by omega]
    exact List.mem_append.mpr (.inr (List.mem_map.mpr ⟨x :: r, mem_compsS h x, rfl⟩))
theorem mem_comps : ∀ (b : List Nat), b ∈ comps b.length b.sum
  | [] => List.mem_singleton.mpr rfl
  | x :: r => by
    rw [List.sum_cons]
    exact mem_compsS (mem_comps r) x
def cS (prev : Nat → Nat) : Nat → Nat
  | 0 => prev 0
  | s + 1 => prev (s + 1) + cS prev s
def cntB : Nat → Nat → Nat
  | 0 => fun s => if s = 0 then 1 else 0
  | n + 1 => cS (cntB n)
theorem compsS_len {prev : Nat → List (List Nat)} {c : Nat → Nat} (h : ∀ s, (prev s).length = c s) : ∀ s, (compsS prev s).length = cS c s
  | 0 => by show (List.map _ _).length = c 0; rw [List.length_map, h]
  | s + 1 => by
    show (List.map _ _ ++ List.map _ _).length = _ + _
    rw [List.length_append, List.length_map, List.length_map, h, compsS_len h s]
theorem comps_len : ∀ n s, (comps n s).length = cntB n s
  | 0, s => by
    show (if s = 0 then [[]] else [] : List (List Nat)).length = if s = 0 then 1 else 0
    by_cases e : s = 0
    · rw [if_pos e, if_pos e]; rfl
    · rw [if_neg e, if_neg e]; rfl
  | n + 1, s => compsS_len (comps_len n) s
/-- numbers of pits and seeds that the law draws -/
def okB (n S : Nat) : Bool := (n == 2 && decide (S ≤ 78)) || (n == 3 && decide (S ≤ 24)) || (decide (2 ≤ n) && decide (n ≤ 5) && decide (S ≤ 8)) || (decide (6 ≤ n) && decide (n ≤ 24) && S == 2)
theorem okB_lt {n S : Nat} (h : okB n S = true) : 2 ≤ n ∧ n < 25 ∧ S < 79 := by
  unfold okB at h
  simp only [Bool.or_eq_true, Bool.and_eq_true, beq_iff_eq, decide_eq_true_eq] at h
  omega
def okL : List (Nat × Nat) := (List.range 79).map (fun S => (2, S)) ++ (List.range 25).map (fun S => (3, S)) ++ (List.range 9).map (fun S => (4, S)) ++ (List.range 9).map (fun S => (5, S)) ++ (List.range 19).map (fun n => (n + 6, 2))
theorem ok_mem {n S : Nat} (ok : okB n S = true) : (n, S) ∈ okL := by
  unfold okB at ok
  simp only [Bool.or_eq_true, Bool.and_eq_true, beq_iff_eq, decide_eq_true_eq] at ok
  unfold okL
  simp only [List.mem_append, List.mem_map, List.mem_range, Prod.mk.injEq]
  by_cases h2 : n = 2
  · exact .inl (.inl (.inl (.inl ⟨S, by omega, by omega, rfl⟩)))
  · by_cases h3 : n = 3
    · exact .inl (.inl (.inl (.inr ⟨S, by omega, by omega, rfl⟩)))
    · by_cases h4 : n = 4
      · exact .inl (.inl (.inr ⟨S, by omega, by omega, rfl⟩))
      · by_cases h5 : n = 5
        · exact .inl (.inr ⟨S, by omega, by omega, rfl⟩)
        · exact .inr ⟨n - 6, by omega, by omega, by omega⟩
theorem ok_all {P : Nat → Nat → Bool} (h : (okL.all fun p => P p.1 p.2) = true) {n S : Nat} (ok : okB n S = true) : P n S = true :=
  List.all_eq_true.mp h (n, S) (ok_mem ok)
theorem ok_cnt' : (okL.all fun p => decide (cntB p.1 p.2 ≤ 1000)) = true := by decide +kernel
theorem ok_cnt {n S : Nat} (ok : okB n S = true) : cntB n S ≤ 1000 := of_decide_eq_true (ok_all (P := fun n S => decide (cntB n S ≤ 1000)) ok_cnt' ok)
theorem bds_len {X : Pits} (ok : okB X.n X.S = true) {l : List (List Nat)} (hn : l.Nodup) (h : ∀ b ∈ l, Bd X b) : l.length ≤ 1000 := by
  have a := nodup_sub (m := comps X.n X.S) hn fun b hb => by
    have c := mem_comps b
    rw [(h b hb).len, (h b hb).sum] at c
    exact c
  rw [comps_len] at a
  exact Nat.le_trans a (ok_cnt ok)
/-- the ways to lay, as they are reckoned -/
def wl (S : Nat) : Nat → Nat
  | 0 => 1
  | k + 1 => wl S k * (S + (k + 1)) / (k + 1)
theorem ok_wl' : (okL.all fun p => (List.range p.1).all fun j => decide (wl p.2 j ≤ 1000)) = true := by decide +kernel
theorem ok_wl {n S j : Nat} (ok : okB n S = true) (hj : j < n) : wl S j ≤ 1000 := by
  have a := ok_all (P := fun n S => (List.range n).all fun j => decide (wl S j ≤ 1000)) ok_wl' ok
  exact of_decide_eq_true (List.all_eq_true.mp a j (List.mem_range.mpr hj))
theorem ok_mu' : (okL.all fun p => decide (p.2 * (p.2 * p.1 + p.1) ≤ 13000)) = true := by decide +kernel
theorem ok_mu {X : Pits} (ok : okB X.n X.S = true) {b : List Nat} (h : Bd X b) : X.mu b ≤ 13000 :=
  Nat.le_trans (mu_top h) (of_decide_eq_true (ok_all (P := fun n S => decide (S * (S * n + n) ≤ 13000)) ok_mu' ok))
end Sw
namespace Sw
/-! ### the program's walk: a path of boards (ls), the boards whose worth is known (ks) -/
structure DS (X : Pits) (s : List Nat) (ls ks : List (List Nat)) : Prop where
  nd : ks.Nodup
  rk : ∀ k ∈ ks, Rch X s k
  cl : ∀ k ∈ ks, ∀ c ∈ X.nx k, c ∈ ks
  rl : ∀ b ∈ ls, Rch X s b
  out : ∀ b ∈ ls, b ∉ ks
  dn : ls.Pairwise fun a b => X.mu b < X.mu a
  st : s ∈ ks ∨ s ∈ ls
def topMu (X : Pits) (ls : List (List Nat)) : Nat := match ls.getLast? with
  | none => 0
  | some b => X.mu b + 1
def dsM (X : Pits) (ls ks : List (List Nat)) : Nat := (1000 - ks.length) * 13002 + topMu X ls
theorem topMu_snoc (X : Pits) (ls : List (List Nat)) (b : List Nat) : topMu X (ls ++ [b]) = X.mu b + 1 := by
  unfold topMu
  rw [List.getLast?_append]
  rfl
section
variable {X : Pits} {s : List Nat} (ok : okB X.n X.S = true) (hs : Bd X s)
include ok hs
theorem topMu_le {ls : List (List Nat)} (h : ∀ b ∈ ls, Rch X s b) : topMu X ls ≤ 13001 := by
  unfold topMu
  cases e : ls.getLast? with
  | none => exact Nat.zero_le _
  | some b =>
    have hb := h b (List.mem_of_getLast? e)
    have := ok_mu ok (hb.bd hs)
    show X.mu b + 1 ≤ _
    omega
theorem DS.ks_len {ls ks : List (List Nat)} (d : DS X s ls ks) : ks.length ≤ 1000 := bds_len ok d.nd fun b hb => (d.rk b hb).bd hs
theorem DS.ls_len {ls ks : List (List Nat)} (d : DS X s ls ks) : ls.length ≤ 13001 := by
  have h1 : (ls.map X.mu).Nodup := by
    unfold List.Nodup
    rw [List.pairwise_map]
    exact d.dn.imp fun h e => by omega
  have h2 := nodup_sub (m := List.range 13001) h1 fun x hx => by
    obtain ⟨b, hb, rfl⟩ := List.mem_map.mp hx
    have := ok_mu ok ((d.rl b hb).bd hs)
    exact List.mem_range.mpr (by omega)
  rw [List.length_map, List.length_range] at h2
  exact h2
theorem DS.start : DS X s [s] [] where
  nd := List.nodup_nil
  rk := fun _ h => nomatch h
  cl := fun _ h => nomatch h
  rl := fun b h => by
    rw [List.mem_singleton.mp h]
    exact .refl
  out := fun _ _ h => nomatch h
  dn := List.pairwise_singleton _ _
  st := .inr List.mem_cons_self
theorem DS.push {ls ks : List (List Nat)} {b c : List Nat} (d : DS X s (ls ++ [b]) ks) (hc : c ∈ X.nx b) (hn : c ∉ ks) : DS X s (ls ++ [b] ++ [c]) ks ∧ dsM X (ls ++ [b] ++ [c]) ks < dsM X (ls ++ [b]) ks := by
  have hb : Rch X s b := d.rl b (List.mem_append.mpr (.inr List.mem_cons_self))
  have hm := (nx_bd (hb.bd hs) hc).2
  refine ⟨⟨d.nd, d.rk, d.cl, fun x hx => ?_, fun x hx => ?_, ?_, ?_⟩, ?_⟩
  · rcases List.mem_append.mp hx with h | h
    · exact d.rl x h
    · rw [List.mem_singleton.mp h]
      exact .step hb hc
  · rcases List.mem_append.mp hx with h | h
    · exact d.out x h
    · rw [List.mem_singleton.mp h]
      exact hn
  · refine List.pairwise_append.mpr ⟨d.dn, List.pairwise_singleton _ _, fun x hx y hy => ?_⟩
    rw [List.mem_singleton.mp hy]
    rcases List.mem_append.mp hx with h | h
    · have := (List.pairwise_append.mp d.dn).2.2 x h b List.mem_cons_self
      omega
    · rw [List.mem_singleton.mp h]
      exact hm
  · exact d.st.imp id fun h => List.mem_append.mpr (.inl h)
  · unfold dsM
    rw [topMu_snoc, topMu_snoc]
    omega
theorem DS.pop {ls ks : List (List Nat)} {b : List Nat} (d : DS X s (ls ++ [b]) ks) (hc : ∀ c ∈ X.nx b, c ∈ ks) : DS X s ls (ks ++ [b]) ∧ dsM X ls (ks ++ [b]) < dsM X (ls ++ [b]) ks := by
  have mb : b ∈ ls ++ [b] := List.mem_append.mpr (.inr List.mem_cons_self)
  have hb : Rch X s b := d.rl b mb
  have hn : b ∉ ks := d.out b mb
  have d' : DS X s ls (ks ++ [b]) := by
    refine ⟨?_, fun x hx => ?_, fun x hx c h => ?_, fun x hx => d.rl x (List.mem_append.mpr (.inl hx)), fun x hx h => ?_, (List.pairwise_append.mp d.dn).1, ?_⟩
    · refine List.nodup_append.mpr ⟨d.nd, by simp, fun x hx y hy e => ?_⟩
      rw [List.mem_singleton.mp hy] at e
      exact hn (e ▸ hx)
    · rcases List.mem_append.mp hx with h | h
      · exact d.rk x h
      · rw [List.mem_singleton.mp h]
        exact hb
    · refine List.mem_append.mpr (.inl ?_)
      rcases List.mem_append.mp hx with h' | h'
      · exact d.cl x h' c h
      · rw [List.mem_singleton.mp h'] at h
        exact hc c h
    · rcases List.mem_append.mp h with h' | h'
      · exact d.out x (List.mem_append.mpr (.inl hx)) h'
      · have e := List.mem_singleton.mp h'
        have := (List.pairwise_append.mp d.dn).2.2 x hx b List.mem_cons_self
        rw [e] at this
        omega
    · rcases d.st with h | h
      · exact .inl (List.mem_append.mpr (.inl h))
      · rcases List.mem_append.mp h with h' | h'
        · exact .inr h'
        · exact .inl (List.mem_append.mpr (.inr h'))
  refine ⟨d', ?_⟩
  have l1 := d'.ks_len ok hs
  have l2 := topMu_le ok hs d'.rl
  rw [List.length_append] at l1
  unfold dsM
  rw [List.length_append, topMu_snoc]
  simp only [List.length_cons, List.length_nil] at l1 ⊢
  omega
theorem DS.done {ks : List (List Nat)} (d : DS X s [] ks) : ks.Nodup ∧ ∀ k, k ∈ ks ↔ Rch X s k := by
  refine ⟨d.nd, fun k => ⟨d.rk k, fun r => ?_⟩⟩
  have h0 : s ∈ ks := d.st.resolve_right fun h => nomatch h
  exact r.closed h0 fun b c hb hc => d.cl b hb c hc
end
/-! ### the law's walk: boards met (ms), boards to be looked at (ls) -/
structure LS (X : Pits) (s : List Nat) (ms ls : List (List Nat)) (open_ : List Nat → Prop) : Prop where
  nd : ms.Nodup
  rm : ∀ b ∈ ms, Rch X s b
  st : s ∈ ms
  sub : ∀ b ∈ ls, b ∈ ms
  ll : ls.length ≤ ms.length
  cl : ∀ b ∈ ms, b ∉ ls → open_ b ∨ ∀ c ∈ X.nx b, c ∈ ms
def lsM (ms ls : List (List Nat)) : Nat := 2 * (1000 - ms.length) + ls.length
section
variable {X : Pits} {s : List Nat} (ok : okB X.n X.S = true) (hs : Bd X s)
theorem LS.start : LS X s [s] [s] fun _ => False where
  nd := by simp
  rm := fun b h => by
    rw [List.mem_singleton.mp h]
    exact .refl
  st := List.mem_cons_self
  sub := fun _ h => h
  ll := Nat.le_refl _
  cl := fun b h hn => absurd h hn
theorem LS.pop {ms ls : List (List Nat)} {b : List Nat} (d : LS X s ms (ls ++ [b]) fun _ => False) : LS X s ms ls fun x => x = b where
  nd := d.nd
  rm := d.rm
  st := d.st
  sub := fun x hx => d.sub x (List.mem_append.mpr (.inl hx))
  ll := by
    have := d.ll
    rw [List.length_append] at this
    omega
  cl := fun x hx hn => by
    by_cases e : x = b
    · exact .inl e
    · rcases d.cl x hx (fun h => by
        rcases List.mem_append.mp h with h' | h'
        · exact hn h'
        · exact e (List.mem_singleton.mp h')) with h | h
      · exact h.elim
      · exact .inr h
theorem LS.add {ms ls : List (List Nat)} {b c : List Nat} (d : LS X s ms ls fun x => x = b) (hb : b ∈ ms) (hc : c ∈ X.nx b) (hn : c ∉ ms) : LS X s (ms ++ [c]) (ls ++ [c]) fun x => x = b where
  nd := by
    refine List.nodup_append.mpr ⟨d.nd, by simp, fun x hx y hy e => ?_⟩
    rw [List.mem_singleton.mp hy] at e
    exact hn (e ▸ hx)
  rm := fun x hx => by
    rcases List.mem_append.mp hx with h | h
    · exact d.rm x h
    · rw [List.mem_singleton.mp h]
      exact .step (d.rm b hb) hc
  st := List.mem_append.mpr (.inl d.st)
  sub := fun x hx => by
    rcases List.mem_append.mp hx with h | h
    · exact List.mem_append.mpr (.inl (d.sub x h))
    · exact List.mem_append.mpr (.inr h)
  ll := by
    have := d.ll
    rw [List.length_append, List.length_append]
    omega
  cl := fun x hx hn' => by
    rcases List.mem_append.mp hx with h | h
    · rcases d.cl x h (fun q => hn' (List.mem_append.mpr (.inl q))) with q | q
      · exact .inl q
      · exact .inr fun y hy => List.mem_append.mpr (.inl (q y hy))
    · exact absurd (List.mem_append.mpr (.inr h)) hn'
theorem LS.close {ms ls : List (List Nat)} {b : List Nat} (d : LS X s ms ls fun x => x = b) (h : ∀ c ∈ X.nx b, c ∈ ms) : LS X s ms ls fun _ => False where
  nd := d.nd
  rm := d.rm
  st := d.st
  sub := d.sub
  ll := d.ll
  cl := fun x hx hn => by
    rcases d.cl x hx hn with q | q
    · rw [q]
      exact .inr h
    · exact .inr q
include ok hs in
theorem LS.ms_len {ms ls : List (List Nat)} {o : List Nat → Prop} (d : LS X s ms ls o) : ms.length ≤ 1000 := bds_len ok d.nd fun b hb => (d.rm b hb).bd hs
theorem LS.done {ms : List (List Nat)} (d : LS X s ms [] fun _ => False) : ms.Nodup ∧ ∀ k, k ∈ ms ↔ Rch X s k := by
  refine ⟨d.nd, fun k => ⟨d.rm k, fun r => r.closed d.st fun b c hb hc => ?_⟩⟩
  rcases d.cl b hb (fun h => nomatch h) with q | q
  · exact q.elim
  · exact q c hc
end
end Sw
namespace SwR
open PySem PySem.Spec PyProof.Rows L2
section
variable {X : Cx}
/-! ### reading a cell of a list for an augmented store -/
def rGetL (K : PySem.W.Frag) : V → V → Hp → VK → Prop := fun x y H Q => ∃ p xs, ∃ j : Nat, ∃ v, x = .ref p ∧ y = .int (j : Int) ∧ SqL K H p xs ∧ xs[j]? = some v ∧ Q v H
theorem get_list : PGet X (rGetL X.K) := by
  intro pins s σ H o i ov iv Q I ro ri h
  obtain ⟨p, xs, j, v, rfl, rfl, hq, hj, q⟩ := h
  cases ro
  obtain ⟨t, rfl⟩ := ri
  obtain ⟨its, r, pl, hz⟩ := I.list hq
  obtain ⟨u, hu, ru⟩ := r.get hj
  have hj2 : j < xs.length := (List.getElem?_eq_some_iff.mp hj).1
  have hn := line63
  exact wpAny_getItem_list pl.isList (Int.natCast_nonneg j) (by omega) (by simpa using hu) ⟨v, H, I, ru, q⟩

/-! ### enumerate over a tuple -/
abbrev enumAt (a : Addr) : Obj := { cls := .type "enumerate", data := .fields #[.none, .bool false, .ref a, rawInt 0, .none, .none] }
theorem meets_enum_newT (l : Addr) (items : Array Value) (n : Nat) (dic : Option Addr) (sl : Array (Option Value)) :
    Meets (Builtin.«enumerate.__new__» ⟨[.type "enumerate", .ref l], []⟩) (fun _ R s =>
      s.heap.get? l = some { cls := .type "tuple", dict := dic, data := .seq items n, slots := sl } ∧
      R (.ok (.ret (.ref (s.heap.push { cls := .type "tuple_iterator", data := .fields #[.ref l, .int 0 0] }).objs.size)))
        { s with heap := (s.heap.push { cls := .type "tuple_iterator", data := .fields #[.ref l, .int 0 0] }).push (enumAt s.heap.objs.size) }) :=
  .of_wp fun prog w A R s h => by
    obtain ⟨hp, g, d, tk, os⟩ := s
    obtain ⟨hl, h⟩ := h
    have hsub := sub_enumerate
    have hT : Heap.IsTuple (Shared.heap ⟨hp, g, d, tk, os⟩) l items := ⟨_, hl, rfl, n, rfl⟩
    wp_walk using AutoSeq1.wpAny_loadPart' hl
    refine wpAny_stack_any fun st => wpAny_pure ?_
    split
    · rename_i c _ _ _ _ _
      cases (c == Value.type "enumerate")
      · wp_walk using AutoSeq1.wpAny_loadPart' hl, wpAny_pyIter_tuple hT
        exact ⟨_, rfl, h⟩
      · wp_walk using AutoSeq1.wpAny_loadPart' hl, wpAny_pyIter_tuple hT
        exact ⟨_, rfl, h⟩
    · wp_walk using AutoSeq1.wpAny_loadPart' hl, wpAny_pyIter_tuple hT
      exact ⟨_, rfl, h⟩
theorem call_enumT {prog : Program} {w : World} {A : Around} {E : Value → Shared → Prop} {s : Shared} {l : Addr} {items : Array Value} {Q : Value → Shared → Prop} (isT : s.heap.IsTuple l items)
    (h : ∀ h', IsEnum h' (s.heap.objs.size + 1) s.heap.objs.size 0 .none → h'.IsTupleIter s.heap.objs.size l 0 → h'.objs.size = s.heap.objs.size + 2 →
      (∀ b o, s.heap.get? b = some o → h'.get? b = some o)
      → Q (.ref (s.heap.objs.size + 1)) { s with heap := h' }) :
    wpAny (model prog w) A (call (.type "enumerate") [.ref l]) Q E s := by
  obtain ⟨⟨c, dic, dat, sl⟩, hl, isC, n, isD⟩ := isT
  replace isC : c = .type "tuple" := isC
  replace isD : dat = .seq items n := isD
  subst isC isD
  refine callType_new F.called_enumerate (by decide) (F.typeCall_enumerate_1 _) (F.newCall_enumerate_1 _) (fun obj => F.args_object_init_2 obj _)
    F.entry_enumerate_new (meets_enum_newT l items n dic sl) ⟨hl, ?_⟩
  generalize go0 : s.heap.push { cls := .type "tuple_iterator", data := .fields #[.ref l, .int 0 0] } = g
  have line0 : g.objs.size = s.heap.objs.size + 1 := by
    rw [← go0]
    exact Heap.size_push ..
  have hi : g.get? s.heap.objs.size = some { cls := .type "tuple_iterator", data := .fields #[.ref l, .int 0 0] } := by
    rw [← go0]
    exact Heap.get?_push_size _ rfl
  have kept0 : ∀ b o, s.heap.get? b = some o → g.get? b = some o := fun b o q => by
    rw [← go0]
    exact Heap.get?_push_of_some _ q
  have isE := Heap.get?_push_size g (o := enumAt s.heap.objs.size) rfl
  show _ ∧ _
  rw [line0] at isE ⊢
  exact ⟨⟨_, isE, rfl⟩, h _ isE ⟨_, Heap.get?_push_of_some _ hi, rfl, rfl⟩ (by rw [Heap.size_push, line0]) fun b o q => Heap.get?_push_of_some _ (kept0 b o q)⟩
/-- the tuple at a: at turn i a new pair of i and the i-th item -/
def IteT (K : PySem.W.Frag) (a : Addr) : It where
  go := fun i H => ∃ xs x, SqT K H a xs ∧ xs[i]? = some x
  yld := fun i H v H' => ∃ T x, v = .ref T ∧ H T = none ∧ H' = upd H T (.tup [.int (i : Nat), x]) ∧ ∀ xs, SqT K H a xs → xs[i]? = some x
  stop := fun i H => ∃ xs, SqT K H a xs ∧ xs.length = i
def TnT (a e it : Addr) (i : Nat) (h : Heap) : Prop := (∃ was, IsEnum h e it ((i : Nat) : Int) was) ∧ h.IsTupleIter it a i ∧ e ≠ it
theorem turn_enumT {P : Program} {w : World} {K : PySem.W.Frag} {elts : List Expr} {kk : Nat} {tpos : Pos} (a e it : Addr) : Turn P w K (.Tuple elts kk tpos) (IteT K a) [e, it] e (TnT a e it) where
  mem := by simp
  obj := fun i h st b hb => by
    obtain ⟨⟨was, isE⟩, ⟨o, ho, isC, isD⟩, _⟩ := st
    have z : b = e ∨ b = it := by simpa using hb
    rcases z with rfl | rfl
    · exact ⟨_, isE, fun v q => nomatch q⟩
    · exact ⟨o, ho, fun v q => by rw [isD] at q; cases q⟩
  keep := fun i h h' st k => by
    obtain ⟨⟨was, isE⟩, hi, far⟩ := st
    exact ⟨⟨was, k e (by simp) _ isE⟩, hi.at fun o q => k it (by simp) o q, far⟩
  item := by
    intro X hP hw hK isC i pins s σ H E I hf st go0
    subst hP hw hK
    obtain ⟨⟨was, isE⟩, isI, far⟩ := st
    obtain ⟨xs, x, hq, at_i⟩ := go0
    obtain ⟨held0, vals0, p, line0⟩ := I.tuple hq
    obtain ⟨u, hu, ru⟩ := vals0.get at_i
    have eIn : e < s.heap.objs.size := Heap.lt_size isE
    have itIn : it < s.heap.objs.size := by obtain ⟨_, q, _⟩ := isI; exact Heap.lt_size q
    have a_it : a ≠ it := by
      rintro rfl
      obtain ⟨o1, g1, c1, _⟩ := isI
      obtain ⟨o2, g2, c2, _⟩ := p
      rw [g1] at g2
      cases g2
      rw [c1] at c2
      exact absurd (Value.type.inj c2) (by decide)
    have a_e : a ≠ e := by
      rintro rfl
      obtain ⟨o2, g2, c2, _⟩ := p
      rw [isE] at g2
      cases g2
      exact absurd (Value.type.inj c2) (by decide)
    have hlt : i < held0.toArray.size := by
      have := (List.getElem?_eq_some_iff.mp hu).1
      simpa using this
    have D : Draws X.prog X.w X.A.in1 it [it, a] held0.toArray.size (fun i v => held0.toArray[i]? = some v) (fun i h => h.IsTupleIter it a i ∧ h.IsTuple a held0.toArray) := Draws.tuple (A := X.A.in1) (show X.A.in1.handled = none from I.ok.hd isC) it a a_it held0.toArray
    refine wpAny_pyNext_enum_itemD D isE ⟨isI, p⟩ hlt far (by simp [far, Ne.symm a_e]) fun y h' tk hy ho hst hT sz2 kept0 => ?_
    have y_u : y = u := by
      have hu' : held0.toArray[i]? = some u := by simpa using hu
      exact Option.some.inj (hy.symm.trans hu')
    subst y_u
    refine ⟨_, rfl, wpAny_letOwnedTupleGo_enum (s := { s with heap := h', toks := tk + 1 }) ho fun h'' he' only => ?_⟩
    have tupT : h''.get? s.heap.objs.size = some { cls := .type "tuple", data := .seq #[.int i tk, y] } := (only.2 _ (Nat.ne_of_gt eIn)).trans hT
    have new : ObjOk X.prog X.w (upd H s.heap.objs.size (.tup [.int (i : Nat), x]))
      h'' s.heap.objs.size (.tup [.int (i : Nat), x]) :=
      ⟨by show 2 ≤ sizeLine; decide, [.int i tk, y], .cons ⟨_, rfl⟩ (.cons ru .nil), ⟨_, tupT, rfl, _, rfl⟩⟩
    have I1 := I.turnedNew (t' := tk + 1) (ch := [e, it])
      (fun b ob hb q => (only.2 b (fun z => hb (by simp [z]))).trans (kept0 b ob (fun z => hb (by simp [z])) (fun z => hb (by simp [z])) q)) hf (Nat.le_refl _) new
    refine ⟨.ref s.heap.objs.size, _, I1, rfl, ⟨_, x, rfl, I.hok.fresh (Nat.le_refl _), rfl, fun ys hy => by rw [I.tuple_inj hy hq]; exact at_i⟩,
      ⟨⟨y, ?_⟩, hst.1.at fun o q => (only.2 it (Ne.symm far)).trans q, far⟩, fun b hb => ?_⟩
    · have one1 : ((i + 1 : Nat) : Int) = (i : Int) + 1 := by omega
      rw [one1]
      exact he'
    · have bIn : b < s.heap.objs.size := by
        have z : b = e ∨ b = it := by simpa using hb
        rcases z with rfl | rfl
        · exact eIn
        · exact itIn
      rw [upd_ne (Nat.ne_of_lt bIn)]
      exact (hf b hb).1
  done := by
    intro X hP hw hK isC i pins s σ H E I hf st go0
    subst hP hw hK
    obtain ⟨⟨was, isE⟩, isI, far⟩ := st
    obtain ⟨xs, hq, at_i⟩ := go0
    obtain ⟨held0, vals0, p, line0⟩ := I.tuple hq
    obtain ⟨p0, p1, p2, p3, p4, p5⟩ := hf it (by simp)
    have hl := vals0.length
    have a_it : a ≠ it := by
      rintro rfl
      obtain ⟨o1, g1, c1, _⟩ := isI
      obtain ⟨o2, g2, c2, _⟩ := p
      rw [g1] at g2
      cases g2
      rw [c1] at c2
      exact absurd (Value.type.inj c2) (by decide)
    have ez : held0.toArray.size = i := by rw [List.size_toArray, ← hl]; exact at_i
    have D : Draws X.prog X.w X.A.in1 it [it, a] held0.toArray.size (fun i v => held0.toArray[i]? = some v) (fun i h => h.IsTupleIter it a i ∧ h.IsTuple a held0.toArray) := Draws.tuple (A := X.A.in1) (show X.A.in1.handled = none from I.ok.hd isC) it a a_it held0.toArray
    exact wpAny_pyNext_enum_endD D isE ⟨by rw [ez]; exact isI, p⟩ fun h' eb => ⟨rfl, I.turned (t' := s.toks) (fun b o hb q => eb b o hb q) p0 p1 p3 p4 p5⟩
  self := fun A i s Q E st h => by
    obtain ⟨⟨_, isE⟩, _⟩ := st
    exact wpAny_pyIter_enum isE h
def iEnumT (K : PySem.W.Frag) (ta : TA) : TI := fun σ H R => ta σ H fun vs H1 => ∃ a xs, vs = [.ref a] ∧ SqT K H1 a xs ∧ R (IteT K a) H1
theorem pi_enumT {e : Expr} {ta : TA} {p pos tpos : Pos} {elts : List Expr} {kk : Nat} (go0 : Gl X "enumerate") (hm : X.mg "enumerate" = none) (ha : PA X [e] ta)
    (hs : starEach [e] X.env = [(false, eval e X.env)] := by rfl) : PI X (.Tuple elts kk tpos) (.Call (.Name "enumerate" p) [e] [] pos) (iEnumT X.K ta) := by
  refine ⟨fun pins s σ H R I h => ?_⟩
  refine Call_ (ld_blt I go0 hm boot_enumerate (PyProof.Rows.callWith_type1 (thn (ha.run pos pins s σ H _ I h) fun us s1 ⟨vs, H1, I1, rel1, qq⟩ => ?_) hs rfl))
  obtain ⟨a, xs, ex, hq, q⟩ := qq
  subst ex
  obtain ⟨u, rfl, ru⟩ := vals1 rel1
  cases ru
  obtain ⟨held0, vals0, p', line0⟩ := I1.tuple hq
  refine call_enumT p' fun h' isE isI sz2 kept0 => wpAny_pyIter_enum isE ?_
  have I2 : Inv X pins σ H1 { s1 with heap := h' } := I1.kept (t' := s1.toks) kept0
  refine ⟨s1.heap.objs.size + 1, [s1.heap.objs.size + 1, s1.heap.objs.size], _, _, H1, rfl, I2, turn_enumT a (s1.heap.objs.size + 1) s1.heap.objs.size,
    ⟨⟨.none, isE⟩, isI, Nat.succ_ne_self _⟩, fun b hb => ?_, q⟩
  have z : b = s1.heap.objs.size + 1 ∨ b = s1.heap.objs.size := by simpa using hb
  have above : s1.heap.objs.size ≤ b := by
    rcases z with rfl | rfl
    · exact Nat.le_succ _
    · exact Nat.le_refl _
  exact I1.fpOk above (I1.hok.fresh above)
/-- the loop over a tuple's items and their places: Pv by the turn -/
theorem for_enumT {K : PySem.W.Frag} {a : Addr} {xs : List V} {g : TG} {tb : TS} {D : Ends} {σ : L2.St} {H : Hp} (Pv : Nat → L2.St → Hp → Prop) (h0 : Pv 0 σ H) (hl : ∀ i σ H, i ≤ xs.length → Pv i σ H → SqT K H a xs)
    (hs : ∀ i x T σ H, xs[i]? = some x → Pv i σ H → H T = none → g (.ref T) σ (upd H T (.tup [.int (i : Nat), x])) fun σ2 H2 => tb { D with nx := Pv (i + 1), ct := Pv (i + 1), bk := D.nx } σ2 H2)
    (hd : ∀ σ H, Pv xs.length σ H → D.nx σ H) :
    ∃ W : Nat → Nat → L2.St → Hp → Prop, (∃ m, W 0 m σ H) ∧ ∀ i m σ H, W i m σ H → ((IteT K a).stop i H ∧ D.nx σ H) ∨
      ((IteT K a).go i H ∧ ∃ N : L2.St → Hp → Prop, (∀ σ' H', N σ' H' → ∃ m', m' < m ∧ W (i + 1) m' σ' H') ∧ ∀ x H', (IteT K a).yld i H x H' → g x σ H' fun σ2 H2 => tb { D with nx := N, ct := N, bk := D.nx } σ2 H2) := by
  refine ⟨fun i m σ H => m = xs.length - i ∧ i ≤ xs.length ∧ Pv i σ H, ⟨_, rfl, Nat.zero_le _, h0⟩, ?_⟩
  rintro i m σ H ⟨rfl, hi, p⟩
  have q := hl i σ H hi p
  by_cases hlt : i < xs.length
  · refine .inr ⟨⟨xs, xs[i], q, by simp [hlt]⟩, Pv (i + 1), fun σ' H' p' => ⟨xs.length - (i + 1), by omega, rfl, hlt, p'⟩, ?_⟩
    rintro x H' ⟨T, y, rfl, hT, rfl, hy⟩
    exact hs i y T σ H (hy xs q) p hT
  · have e : i = xs.length := by omega
    subst e
    exact .inl ⟨⟨xs, q, rfl⟩, hd σ H p⟩
end
end SwR
namespace SwR
open PySem PySem.Spec PySem.W PyProof.Rows L2
/-! ### sorted, over tuples of whole numbers -/
def leI (p q : List Int) : Bool := decide (p ≤ q)
def srt (l : List (List Int)) : List (List Int) := l.mergeSort leI
theorem leI_tr (x y z : List Int) (a : leI x y = true) (b : leI y z = true) : leI x z = true :=
  decide_eq_true (List.le_trans (of_decide_eq_true a) (of_decide_eq_true b))
theorem leI_tot (x y : List Int) : (leI x y || leI y x) = true := by
  rw [Bool.or_eq_true]
  rcases List.le_total x y with h | h
  · exact .inl (decide_eq_true h)
  · exact .inr (decide_eq_true h)
theorem leI_anti (x y : List Int) (a : leI x y = true) (b : leI y x = true) : x = y := List.le_antisymm (of_decide_eq_true a) (of_decide_eq_true b)
theorem srt_perm (l : List (List Int)) : (srt l).Perm l := List.mergeSort_perm l leI
/-- the order of what is handed in does not matter -/
theorem srt_eq {l m : List (List Int)} (h : l.Perm m) : srt l = srt m := by
  have hp : (srt l).Pairwise (fun x y => leI x y = true) := List.pairwise_mergeSort leI_tr (fun a b => leI_tot a b) l
  exact Srt.the_of_perm leI leI_tr leI_tot leI_anti ((srt_perm l).trans h) hp
abbrev encT (b : Addr × List Int) : PyData := .tuple (b.2.map .int)
theorem le_enc : dataLe false encT = fun p q => leI p.2 q.2 := by
  funext p q
  show (!dataLt (.tuple (q.2.map .int)) (.tuple (p.2.map .int))) = _
  rw [dataLt_tuple]
  have e := dataLt_ints q.2 p.2
  unfold rowLt at e
  rw [e]
  unfold leI
  by_cases h : q.2 < p.2
  · rw [decide_eq_true h, decide_eq_false (fun r => List.not_lt.mpr r h)]
    rfl
  · rw [decide_eq_false h, decide_eq_true (List.not_lt.mp h)]
    rfl
theorem sort_enc (bs : List (Addr × List Int)) : (bs.mergeSort (dataLe false encT)).map (·.2) = srt (bs.map (·.2)) := by
  rw [le_enc]
  exact sort_maps (s := leI) (fun q : Addr × List Int => q.2) fun _ _ _ _ => rfl
theorem reads_ints {h : Heap} : ∀ {ns : List Int} {us : List Value}, Vals (ns.map V.int) us → ReadsAll h us (ns.map .int) []
  | [], _, r => by
    cases r
    exact .nil
  | n :: ns, _, r => by
    have r' : Vals (V.int n :: ns.map V.int) _ := r
    cases r' with
    | cons r1 r2 =>
      obtain ⟨t, rfl⟩ := r1
      exact .cons (as := []) (bs := []) (.int n t) (reads_ints r2)
def isRef (v : Value) (b : Addr × List Int) : Prop := v = .ref b.1
section
variable {X : Cx} {pins : List (Addr × Obj)} {σ : L2.St} {H : Hp} {s : Shared}
theorem each_tups (I : Inv X pins σ H s) : ∀ {L : List (Addr × List Int)}, (∀ p ∈ L, H p.1 = some (.tup (p.2.map V.int))) → EachIs (fun v b => ∃ as, Reads s.heap v (encT b) as ∧ as = []) (L.map fun p => Value.ref p.1) L
  | [], _ => .nil
  | p :: L, h => by
    obtain ⟨_, its, rv, o, ho, hc, n, hd⟩ := I.hok _ _ (h p List.mem_cons_self)
    refine .cons ⟨[], .tuple ho hc hd ?_, rfl⟩ (each_tups I fun q hq => h q (List.mem_cons_of_mem _ hq))
    exact reads_ints rv
theorem each_isRef : ∀ L : List (Addr × List Int), EachIs isRef (L.map fun p => Value.ref p.1) L
  | [] => .nil
  | _ :: L => .cons rfl (each_isRef L)
theorem isRef_back : ∀ {vs : List Value} {L : List (Addr × List Int)}, EachIs isRef vs L → vs = L.map fun p => Value.ref p.1
  | _, _, .nil => rfl
  | _, _, .cons h t => by
    have e := isRef_back t
    subst e
    have h' : _ = Value.ref _ := h
    subst h'
    rfl
theorem vals_of_refs : ∀ L : List (Addr × List Int), Vals (L.map fun p => V.ref p.1) (L.map fun p => Value.ref p.1)
  | [] => .nil
  | _ :: L => .cons rfl (vals_of_refs L)
theorem refs_vals : ∀ {L : List (Addr × List Int)} {us : List Value}, Vals (L.map fun p => V.ref p.1) us → us = L.map fun p => Value.ref p.1
  | [], _, r => by
    cases r
    rfl
  | p :: L, _, r => by
    have r' : Vals (V.ref p.1 :: L.map fun p => V.ref p.1) _ := r
    cases r' with
    | cons r1 r2 =>
      have e := refs_vals r2
      subst e
      cases r1
      rfl
theorem alike_T (L : List (Addr × List Int)) : AllAlike (L.map encT) := .of fun b b' => by
  show alike (.tuple _) (.tuple _) = true
  simp only [alike]
  exact alike_ints _ _
theorem sortable_T {L : List (Addr × List Int)} (h : ∀ p ∈ L, p.2 ≠ []) : Sortable (L.map encT) := .inl fun d hd => by
  obtain ⟨b, hb, rfl⟩ := List.mem_map.mp hd
  have q := h b hb
  cases e : b.2 with
  | nil => exact absurd e q
  | cons x r => exact ⟨.int x, r.map .int, by show PyData.tuple (b.2.map .int) = _; rw [e]; rfl⟩
theorem depth_T (b : Addr × List Int) : (encT b).depth = 1 := by
  show PyData.depth (.tuple _) = 1
  rw [PyData.depth, depth_ints]
/-- sorted(xs), xs a list of tuples of ints -/
def rSortT (K : PySem.W.Frag) : List V → Hp → VK → Prop := fun vs H Q => ∃ (a : Addr) (L : List (Addr × List Int)), vs = [.ref a] ∧ SqL K H a (L.map fun p => V.ref p.1) ∧ (∀ p ∈ L, H p.1 = some (.tup (p.2.map V.int)) ∧ p.2 ≠ []) ∧
  ∀ (M : List (Addr × List Int)) (p : Addr), M.map (·.2) = srt (L.map (·.2)) → (∀ q ∈ M, q ∈ L) → H p = none → Q (.ref p) (upd H p (.lst (M.map fun q => V.ref q.1)))
theorem cr_sortTups (hu : X.A.units + 64 < cLine) : CallR X (.builtin "sorted") (rSortT X.K) := by
  intro pins s σ H vs us Q I r h
  obtain ⟨a, L, rfl, hseq, tup0, q⟩ := h
  obtain ⟨u, rfl, rel0⟩ := vals1 r
  cases rel0
  obtain ⟨its, vals0, isLst, line0⟩ := I.list hseq
  have ei := refs_vals vals0
  subst ei
  rw [List.length_map] at line0
  have reads0 := each_tups I fun p hp => (tup0 p hp).1
  refine PySem.W.sorted_data (R := isRef) (enc := encT) (bs := L) isLst.isList (each_isRef L) (reads0.mono fun v b ⟨as, x, _⟩ => ⟨as, x⟩) (alike_T L) (sortable_T fun p hp => (tup0 p hp).2) line0 (fun b _ => by rw [depth_T]; omega) fun out atd eo => ?_
  have e1 := isRef_back eo
  obtain ⟨c, hc⟩ := sortedAll_at s.heap (L.map fun p => Value.ref p.1) out.toArray
  have hm : ∀ q ∈ L.mergeSort (dataLe false encT), q ∈ L := fun q hq => (List.mergeSort_perm L _).mem_iff.mp hq
  refine ⟨.ref (s.heap.objs.size + 1), upd H (s.heap.objs.size + 1) (.lst ((L.mergeSort (dataLe false encT)).map fun q => V.ref q.1)), I.laid (t' := s.toks) (fun b o e => sortedAll_old e) (Nat.le_succ _)
    (show ObjOk X.prog X.w _ _ _ (.lst _) from ⟨?_, out, c, ?_, hc⟩), rfl, q _ _ (sort_enc L) hm (I.hok.fresh (Nat.le_succ _))⟩
  · rw [List.length_map, List.length_mergeSort]
    exact line0
  · rw [e1]
    exact vals_of_refs _
/-- what a dict with such keys gives when it is walked -/
theorem keys_list {kvs : List (List L2.Key × V)} {trip : List (List L2.Key × Addr × Value)} (r : KT H kvs trip) : ∀ {Bs : List (List Int)}, kvs.map (·.1) = Bs.map (fun b => b.map Sum.inl) →
    ∃ L : List (Addr × List Int), L.map (·.2) = Bs ∧ (∀ p ∈ L, H p.1 = some (.tup (p.2.map V.int))) ∧ trip.map (fun x => Value.ref x.2.1) = L.map fun p => Value.ref p.1 := by
  induction r with
  | nil =>
    intro Bs e
    cases Bs with
    | nil => exact ⟨[], rfl, (fun _ h => nomatch h), rfl⟩
    | cons b r => cases e
  | @cons p q l m h t ih =>
    intro Bs e
    cases Bs with
    | nil => cases e
    | cons b r =>
      rw [List.map_cons, List.map_cons] at e
      obtain ⟨e1, qe2⟩ := List.cons.inj e
      obtain ⟨L, a1, a2, a3⟩ := ih qe2
      refine ⟨(q.2.1, b) :: L, by rw [List.map_cons, a1], fun zz line0 => ?_, by rw [List.map_cons, List.map_cons, a3]⟩
      rcases List.mem_cons.mp line0 with rfl | line0
      · rw [h.2.1, e1, List.map_map]
        rfl
      · exact a2 zz line0
/-- sorted(d), d a dict whose keys are tuples of ints -/
def rSortDT : List V → Hp → VK → Prop := fun vs H Q => ∃ (d : Addr) (kvs : List (List L2.Key × V)) (Bs : List (List Int)), vs = [.ref d] ∧ Rd H d (.dT kvs) ∧ kvs.map (·.1) = Bs.map (fun b => b.map Sum.inl) ∧ (∀ b ∈ Bs, b ≠ []) ∧
  ∀ (M : List (Addr × List Int)) (p : Addr), M.map (·.2) = srt Bs → (∀ q ∈ M, H q.1 = some (.tup (q.2.map V.int))) → H p = none → Q (.ref p) (upd H p (.lst (M.map fun q => V.ref q.1)))
theorem cr_sortDT (hcalm : X.calm = true) (hu : X.A.units + 64 < cLine) : CallR X (.builtin "sorted") rSortDT := by
  intro pins s σ H vs us Q I r h
  obtain ⟨d, kvs, Bs, rfl, hd, hb, hne, q⟩ := h
  obtain ⟨u, rfl, rel0⟩ := vals1 r
  cases rel0
  obtain ⟨zz, hseq, trip, prs, o, ents, epp, atd, exd, datd, entd, ndk⟩ := (show ObjOk X.prog X.w H s.heap d (.dT kvs) from hd.ok I.hok)
  have len1 : ents.size = trip.length := size_of_entries entd
  have len2 : kvs.length = trip.length := Paired.length prs
  obtain ⟨L, g1, g2, g3⟩ := keys_list prs hb
  have len3 : L.length = trip.length := by
    have e := congrArg List.length g3
    rw [List.length_map, List.length_map] at e
    exact e.symm
  refine Calls.call_function_entry PyProof.Rows.kind_sorted PyProof.Rows.plain_sorted
    PyProof.Rows.entry_sorted (PyProof.Rows.args_sorted1 _) ?_
  unfold Builtin.«sorted»
  refine wpAny_bind (m := checkCount "sorted" 1 1 _) (wpAny_pure ?_)
  refine wpAny_bind (PySem.W.kdu_collect (A := X.A.in1) (kdl_raw hseq exd datd) (I.ok.hd hcalm) atd (by omega) fun g0 tok0 acc kept0 itemsA => ?_)
  have ea : acc.toList = L.map fun p => Value.ref p.1 := by
    rw [← g3]
    have isLst : acc.toList.length = trip.length := by rw [Array.length_toList, itemsA.1]; exact len1
    apply List.ext_getElem?
    intro j
    rw [List.getElem?_map]
    cases qj : acc.toList[j]? with
    | none =>
      have out1 := List.getElem?_eq_none_iff.mp qj
      rw [List.getElem?_eq_none (by omega)]
      rfl
    | some v =>
      obtain ⟨en, qen, hv⟩ := itemsA.2 j v (by rw [← Array.getElem?_toList]; exact qj)
      have qent := entry_at entd j
      rw [qen] at qent
      cases hb : trip[j]? with
      | none =>
        rw [hb] at qent
        exact nomatch (show some en = none from qent)
      | some b =>
        rw [hb] at qent
        have qe2 : en = entryOfKey (tupleKind (mixKind X.prog X.w)) b := Option.some.inj qent
        rw [hv, qe2]
        rfl
  have I0 : Inv X pins σ H { s with heap := g0, toks := tok0 } := I.kept kept0
  have line0 : L.length ≤ sizeLine := by omega
  refine wpAny_bind (wpAny_newList ?_ (by rw [ea, List.length_map]; exact line0))
  rw [ea]
  have newL : (g0.push (seqObj "list" (L.map fun p => Value.ref p.1).toArray 0)).get? g0.objs.size = some (seqObj "list" (L.map fun p => Value.ref p.1).toArray 0) := Heap.get?_push_size _ rfl
  have reads0 := each_tups I0 g2
  have stays0 : ∀ b u, g0.get? b = some u → (g0.push (seqObj "list" (L.map fun p => Value.ref p.1).toArray 0)).get? b = some u := fun b u e => Heap.get?_push_of_some _ e
  show wpAny _ _ _ _ _ { s with heap := g0.push (seqObj "list" (L.map fun p => Value.ref p.1).toArray 0), toks := tok0 }
  refine wpAny_bind (wpAny_holding (list_sort_data (R := isRef) (enc := encT) (bs := L) newL (each_isRef L) (reads0.mono fun v b ⟨as, x, e⟩ => ⟨as, PyProof.Rows.Reads.keeps stays0 x, by rw [e]; exact fun zz => nomatch zz⟩) (alike_T L)
    (sortable_T fun p hp => hne _ (by rw [← g1]; exact List.mem_map.mpr ⟨p, hp, rfl⟩)) line0 (fun b _ => by rw [depth_T]; have : X.A.in1.units = X.A.units + 1 := rfl; omega) fun out ho' eo => ?_))
  have e1 := isRef_back eo
  obtain ⟨c, hc⟩ := sortedHeap_at (vs := L.map fun p => Value.ref p.1) (out := out.toArray) newL
  have hm : ∀ q ∈ L.mergeSort (dataLe false encT), q ∈ L := fun q hq => (List.mergeSort_perm L _).mem_iff.mp hq
  refine wpAny_pure ⟨_, rfl, .ref g0.objs.size, upd H g0.objs.size (.lst ((L.mergeSort (dataLe false encT)).map fun q => V.ref q.1)), I0.laid (t' := tok0) (fun b u e => ?_) (Nat.le_refl _)
    (show ObjOk X.prog X.w _ _ _ (.lst _) from ⟨?_, out, c, ?_, hc⟩), rfl, q _ _ ((sort_enc L).trans (by rw [g1])) (fun p hp => g2 p (hm p hp)) (I0.hok.fresh (Nat.le_refl _))⟩
  · have hb : b < g0.objs.size := Heap.lt_size e
    rw [sortedHeap_old (Nat.ne_of_lt hb) (by rw [size_push']; exact Nat.lt_succ_of_lt hb)]
    exact Heap.get?_push_of_some _ e
  · rw [List.length_map, List.length_mergeSort]
    exact line0
  · rw [e1]
    exact vals_of_refs _
/-- {k: v}, the key a tuple -/
def tDisp1 (tk tv : TE) : TE := fun σ H Q => ∀ p, H p = none → tk σ (upd H p (.dT [])) fun x H1 => tv σ H1 fun y H2 =>
  ∃ b k, x = .ref b ∧ H2 p = some (.dT []) ∧ H2 b = some (.tup (k.map kV)) ∧ Q (.ref p) (upd H2 p (.dT [(k, y)]))
theorem pe_disp1 {pos : Pos} {k v : Expr} {tk tv : TE} (hu : X.A.units + 1 < cLine) (hk : PE X k tk) (hv : PE X v tv) : PE X (.Dict [some k] [v] pos) (tDisp1 tk tv) := by
  refine ⟨fun pins s σ H Q I h => ?_⟩
  have I1 := I.laid (a := s.heap.objs.size) (o := .dT []) (t' := s.toks) (fun _ _ q => Heap.get?_push_of_some _ q) (Nat.le_refl _) (dt_empty s.heap I.big)
  have sh := zip_pairTrees [some k] [v] X.env pos rfl rfl
  have hl := pairTrees_length [some k] [v] X.env pos rfl rfl
  generalize hpt : pairTrees [some k] [v] X.env pos = pt at sh hl
  have h0 : pt ≠ [] := fun e => by rw [e] at hl; cases hl
  have h1 : pt.length = 1 := hl
  rw [arm_eval_Dict, sh, dictDisplay_pairs pt h0 (by omega)]
  refine wpAny_bind (wpAny_standAt (wpAny_bind (wpAny_subDictH (knd := tupleKind (mixKind X.prog X.w)) (by show X.A.units < cLine; omega) (by omega) ?_)))
  rw [← hpt]
  refine pairTrees_cons_walk (thn (hk.run pins _ σ _ _ I1 (h _ I.fresh)) fun u s1 ⟨x, H1, J1, rx, q1⟩ => thn (hv.run pins s1 σ H1 _ J1 q1) fun u2 s2 ⟨y, H2, J2, ry, q2⟩ => pairTrees_nil_walk ?_)
  obtain ⟨b, ks, rfl, hd, hb, q⟩ := q2
  cases rx
  obtain ⟨z, lo, xs, rel, dd⟩ := dt_of J2.hok hd
  cases rel
  refine ⟨[(ks, b, u2)], ⟨rfl, rfl, key_of J2.hok hb, True.intro⟩, dd, fun h' tk dd' hs => wpAny_pure ⟨.ref s.heap.objs.size, _, ?_, rfl, q⟩⟩
  obtain ⟨o, es, ep, ho, h2, h3, h4, _, h5⟩ := dd'
  refine d_write J2 (by rw [hd]; exact True.intro) hs ⟨o, ho⟩ ⟨(by show 1 ≤ sizeLine; decide), lo, [(ks, b, u2)], .cons ⟨rfl, ?_, ry⟩ .nil, o, es, ep, ho, h2, h3, h4, h5⟩
  rw [upd_ne (ne_of hb hd (fun z => nomatch z))]
  exact hb
end
end SwR
namespace SwD
open PySem PySem.Spec PyProof.Rows L2 Sw SwR
/-! ### the text by places -/
def topS (i : Nat) : Stmt := PySem.Challenge.pw_sowring_k30_whole_worths.main.body.getD i (.Pass ⟨0, 0, 0, 0⟩)
/-! ### defs that stand and keep a promise -/
structure Kept (P : Program) (w : World) (K : PySem.W.Frag) (mg : Str → Option Value) (base : Heap) (k : Nat) (name : Str) (ps : List Str) (sp : Sp) : Prop where
  ex : ∃ f fd, FnOk P w K mg base CX0 k f fd ps sp ∧ PySem.W.keepIn K (.ref f) = true ∧ Binds K fd ps [] ∧ mg name = some (.ref f)
structure DefAt (K : PySem.W.Frag) (mg : Str → Option Value) (name : Str) (st : Stmt) (ps : List Str) : Prop where
  ex : ∃ f fd, Fun K name name st f fd ∧ Binds K fd ps [] ∧ mg name = some (.ref f)
section
variable {X : Cx} {P : Program} {w : World} {K : PySem.W.Frag} {mg : Str → Option Value} {base : Heap} {k : Nat} {name : Str} {ps : List Str} {sp : Sp}
theorem pe_kept {p pos : Pos} {e : Expr} {es : List Expr} {t : TA} (G : Kept X.prog X.w X.K X.mg X.base k name ps sp) (hr : Room k X.A) (ha : PA X (e :: es) t) (hg : Gl X name := by rfl)
    (hdb : (name == ("__debug__" : Str)) = false := by decide) (he : starEach (e :: es) X.env = (false, eval e X.env) :: starEach es X.env := by rfl)
    (hpl : ((backTo pos (starEach es X.env)).any fun x => x.1) = false := by rfl) : PE X (.Call (.Name name p) (e :: es) [] pos) (tCall sp [] E0 t) := by
  obtain ⟨f, fd, F, kp, b, g⟩ := G.ex
  have q := pe_call (ds := []) (dvs := []) (p := p) (pos := pos) F hr hg g kp b .nil (pass0 (X := X)) ha (hdb := hdb) (he := he) (hpl := hpl)
  exact q
theorem Kept.mk' {st : Stmt} (D : DefAt K mg name st ps) (h : ∀ f fd, Fun K name name st f fd → FnOk P w K mg base CX0 k f fd ps sp) : Kept P w K mg base k name ps sp := by
  obtain ⟨f, fd, F, b, g⟩ := D.ex
  exact ⟨f, fd, h f fd F, F.kp, b, g⟩
end
/-! ### what the built-in names and the constants are -/
structure Txt (mg : Str → Option Value) : Prop where
  zlen : mg "len" = none
  zmin : mg "min" = none
  zsum : mg "sum" = none
  zrange : mg "range" = none
  zlist : mg "list" = none
  ztuple : mg "tuple" = none
  zenum : mg "enumerate" = none
  zsorted : mg "sorted" = none
  zisi : mg "isinstance" = none
  zint : mg "int" = none
  zbool : mg "bool" = none
  cF : ∃ t, mg "FEWEST_PITS" = some (.int 2 t)
  cM : ∃ t, mg "MOST_PITS" = some (.int 24 t)
  cS : ∃ t, mg "MOST_SEEDS" = some (.int (10 ^ 60) t)
  cB : ∃ t, mg "MOST_BOARDS" = some (.int 1000 t)
/-! ### boards as values -/
def zs (b : List Nat) : List Int := b.map fun n : Nat => (n : Int)
def bV (b : List Nat) : List V := (zs b).map V.int
def bK (b : List Nat) : List L2.Key := (zs b).map Sum.inl
theorem zs_len (b : List Nat) : (zs b).length = b.length := List.length_map _
theorem bV_len (b : List Nat) : (bV b).length = b.length := by
  unfold bV
  rw [List.length_map, zs_len]
theorem zs_sum : ∀ b : List Nat, (zs b).sum = (b.sum : Int)
  | [] => rfl
  | x :: r => by
    show ((x : Int) :: zs r).sum = _
    rw [List.sum_cons, List.sum_cons, zs_sum r]
    omega
theorem bK_kV (b : List Nat) : (bK b).map kV = bV b := by
  unfold bK bV
  rw [List.map_map]
  rfl
theorem zs_inj {a b : List Nat} (h : zs a = zs b) : a = b := by
  unfold zs at h
  exact List.map_inj_right (fun x y e => Int.ofNat.inj e) |>.mp h
theorem bK_inj {a b : List Nat} (h : bK a = bK b) : a = b := by
  unfold bK at h
  exact zs_inj (List.map_inj_right (fun x y e => Sum.inl.inj e) |>.mp h)
theorem bV_at {b : List Nat} {i : Nat} (h : i < b.length) : (bV b)[i]? = some (.int (b.getD i 0 : Nat)) := by
  unfold bV zs
  rw [List.getElem?_map, List.getElem?_map, List.getElem?_eq_getElem h, getD_at b h]
  rfl
theorem bV_of {b : List Nat} {i : Nat} {x : V} (h : (bV b)[i]? = some x) : i < b.length ∧ x = .int (b.getD i 0 : Nat) := by
  have hl : i < b.length := by
    have := (List.getElem?_eq_some_iff.mp h).1
    rwa [bV_len] at this
  rw [bV_at hl] at h
  exact ⟨hl, (Option.some.inj h).symm⟩
theorem bV_set (b : List Nat) (i y : Nat) : (bV b).set i (.int (y : Nat)) = bV (b.set i y) := by
  unfold bV zs
  rw [← List.map_set, ← List.map_set]
theorem bV_snoc (b : List Nat) (x : Nat) : bV b ++ [.int (x : Nat)] = bV (b ++ [x]) := by
  unfold bV zs
  rw [List.map_append, List.map_append]
  rfl
theorem zs_nonneg {b : List Nat} {m : Int} (h : m ∈ zs b) : 0 ≤ m := by
  obtain ⟨n, _, rfl⟩ := List.mem_map.mp h
  exact Int.natCast_nonneg n
theorem len_line {K : PySem.W.Frag} {n : Nat} (h : n ≤ 100000) : n < sizeLine := Nat.lt_of_le_of_lt h (by decide)
theorem same_tup {K : PySem.W.Frag} {H H' : Hp} {a : Addr} {xs : List V} (e : Same H H') (h : SqT K H a xs) : SqT K H' a xs := by
  rcases h with (h | ⟨o, h⟩) | h
  · exact .inl (.inl (e _ _ h))
  · exact .inl (.inr ⟨o, e _ _ h⟩)
  · exact .inr h
theorem same_upd {H : Hp} {p : Addr} {o : HO} (h : H p = none) : Same H (upd H p o) := fun b x e => by
  rw [upd_ne (ne_of_none e h)]
  exact e
/-- a new object may change as it likes -/
theorem same_new {H H' : Hp} {p : Addr} {o : HO} (s : Same H H') (h : H p = none) : Same H (upd H' p o) := fun b x e => by
  rw [upd_ne (ne_of_none e h)]
  exact s b x e
end SwD
namespace SwD
open PySem PySem.Spec PyProof.Rows L2 Sw SwR
theorem dF {c : Prop} [Decidable c] {A B : Prop} (h : ¬ c) (b : B) : if decide c = true then A else B := by
  rw [decide_eq_false h]
  exact iteF b
theorem dT {c : Prop} [Decidable c] {A B : Prop} (h : c) (a : A) : if decide c = true then A else B := by
  rw [decide_eq_true h]
  exact iteT a
abbrev sAskBoard : Stmt := topS 13
abbrev sAskPit : Stmt := topS 14
abbrev sAskSeeds : Stmt := topS 15
abbrev sPutRound : Stmt := topS 16
abbrev sSownPlain : Stmt := topS 17
abbrev sSown : Stmt := topS 18
def spAskBoard (K : PySem.W.Frag) : Sp := fun vs H Q _ => ∃ (a : Addr) (b : List Nat), vs = [.ref a] ∧ SqL K H a (bV b) ∧ (2 ≤ b.length ∧ b.length ≤ 24 ∧ b.sum ≤ 10 ^ 60) ∧ Q .non H
def spAskPit (K : PySem.W.Frag) : Sp := fun vs H Q _ => ∃ (a : Addr) (b : List Nat) (p : Nat), vs = [.ref a, .int (p : Int)] ∧ SqL K H a (bV b) ∧ p < b.length ∧ Q .non H
def spAskSeeds (K : PySem.W.Frag) : Sp := fun vs H Q _ => ∃ (a : Addr) (b : List Nat) (p : Nat), vs = [.ref a, .int (p : Int)] ∧ SqL K H a (bV b) ∧ (2 ≤ b.length ∧ b.length ≤ 24 ∧ b.sum ≤ 10 ^ 60) ∧ p < b.length ∧ 0 < b.getD p 0 ∧ Q .non H
section
variable {P : Program} {w : World} {K : PySem.W.Frag} {mg : Str → Option Value} {base : Heap}
theorem scAskBoard : FnScope ["board"] ["board"] (defScope sAskBoard) := ⟨rfl, rfl, rfl, by decide +kernel, rfl, by decide +kernel, by decide +kernel⟩
theorem k_ask_board (T : Txt mg) (D : DefAt K mg "ask_board" sAskBoard ["board"]) : Kept P w K mg base 1 "ask_board" ["board"] (spAskBoard K) := by
  refine .mk' D fun f fd F => F.ok scAskBoard (fun vs H Q E h => ?_) (fun cdv A outer s H vs Q E hr h => ?_)
  · obtain ⟨a, b, rfl, _⟩ := h
    rfl
  · obtain ⟨a, b, rfl, hS, ⟨h1, h2, h3⟩, q⟩ := h
    obtain ⟨t1, e1⟩ := T.cF
    obtain ⟨t2, e2⟩ := T.cM
    obtain ⟨t3, e3⟩ := T.cS
    refine ⟨_, pss_cons (ps_if (PW.pt (pw_or (pt_cmpR op_lt (pe_callB call_len_seq (by rfl) T.zlen PySem.boot_len (pa_cons (pv 0) pa_nil)) (pe_glob (v := .int 2) (by rfl) e1 ⟨_, rfl⟩) (nomark _))
        (pw_or1 (pt_cmpR op_gt (pe_callB call_len_seq (by rfl) T.zlen PySem.boot_len (pa_cons (pv 0) pa_nil)) (pe_glob (v := .int 24) (by rfl) e2 ⟨_, rfl⟩) (nomark _))))) (pss_one ps_never) pss_nil)
      (pss_one (ps_if (PW.pt (pw_or (pt_cmpR op_lt (pe_callB (cr_min rfl) (by rfl) T.zmin boot_min (pa_cons (pv 0) pa_nil)) pe_int (nomark _))
        (pw_or1 (pt_cmpR op_gt (pe_callB (cr_sum rfl) (by rfl) T.zsum boot_sum (pa_cons (pv 0) pa_nil)) (pe_glob (v := .int (10 ^ 60)) (by rfl) e3 ⟨_, rfl⟩) (nomark _))))) (pss_one ps_never) pss_nil)), ?_⟩
    have hl := bV_len b
    refine ⟨_, rfl, a, _, rfl, .inl hS, _, _, rfl, rfl, _, rfl, dF (by omega) ?_⟩
    refine ⟨_, rfl, a, _, rfl, .inl hS, _, _, rfl, rfl, _, rfl, dF (by omega) ?_⟩
    refine ⟨_, rfl, a, zs b, rfl, hS, by rw [zs_len]; omega, fun m hm _ => ⟨_, _, rfl, rfl, _, rfl, dF (by have := zs_nonneg hm; omega) ?_⟩⟩
    refine ⟨_, rfl, a, zs b, rfl, hS, _, _, rfl, rfl, _, rfl, dF ?_ ?_⟩
    · rw [zs_sum]
      omega
    · exact q
theorem scAskPit : FnScope ["board", "pit"] ["board", "pit"] (defScope sAskPit) := ⟨rfl, rfl, rfl, by decide +kernel, rfl, by decide +kernel, by decide +kernel⟩
theorem k_ask_pit (T : Txt mg) (D : DefAt K mg "ask_pit" sAskPit ["board", "pit"]) : Kept P w K mg base 1 "ask_pit" ["board", "pit"] (spAskPit K) := by
  refine .mk' D fun f fd F => F.ok scAskPit (fun vs H Q E h => ?_) (fun cdv A outer s H vs Q E hr h => ?_)
  · obtain ⟨a, b, p, rfl, _⟩ := h
    rfl
  · obtain ⟨a, b, p, rfl, hS, h1, q⟩ := h
    refine ⟨_, pss_one (ps_if (PW.pt (pw_or (pt_cmpR op_lt (pv 1) pe_int (nomark _))
        (pw_or1 (pt_cmpR op_ge (pv 1) (pe_callB call_len_seq (by rfl) T.zlen PySem.boot_len (pa_cons (pv 0) pa_nil)) (nomark _))))) (pss_one ps_never) pss_nil), ?_⟩
    have hl := bV_len b
    refine ⟨_, rfl, _, _, rfl, rfl, _, rfl, dF (by omega) ?_⟩
    refine ⟨_, rfl, _, rfl, a, _, rfl, .inl hS, _, _, rfl, rfl, _, rfl, dF (by omega) ?_⟩
    exact q
theorem scAskSeeds : FnScope ["board", "pit"] ["board", "pit"] (defScope sAskSeeds) := ⟨rfl, rfl, rfl, by decide +kernel, rfl, by decide +kernel, by decide +kernel⟩
theorem k_ask_seeds (T : Txt mg) (D : DefAt K mg "ask_seeds" sAskSeeds ["board", "pit"]) (G1 : Kept P w K mg base 1 "ask_board" ["board"] (spAskBoard K)) (G2 : Kept P w K mg base 1 "ask_pit" ["board", "pit"] (spAskPit K)) :
    Kept P w K mg base 2 "ask_seeds" ["board", "pit"] (spAskSeeds K) := by
  refine .mk' D fun f fd F => F.ok scAskSeeds (fun vs H Q E h => ?_) (fun cdv A outer s H vs Q E hr h => ?_)
  · obtain ⟨a, b, p, rfl, _⟩ := h
    rfl
  · obtain ⟨a, b, p, rfl, hS, h1, h2, h3, q⟩ := h
    refine ⟨_, pss_cons (ps_expr (pe_kept G1 hr (pa_cons (pv 0) pa_nil))) (pss_cons (ps_expr (pe_kept G2 hr (pa_cons (pv 0) (pa_cons (pv 1) pa_nil))))
      (pss_one (ps_if (pt_cmpR op_eq (pe_ix ix_list (pv 0) (pv 1) (fun _ _ => rfl)) pe_int (nomark _)) (pss_one ps_never) pss_nil))), ?_⟩
    refine ⟨_, rfl, a, b, rfl, hS, h1, ?_⟩
    refine ⟨_, rfl, _, rfl, a, b, p, rfl, hS, h2, ?_⟩
    refine ⟨_, rfl, _, rfl, a, _, _, _, rfl, rfl, hS, atI_nat (bV_at h2), rfl, _, rfl, dF (fun e => ?_) q⟩
    have e' := V.int.inj e
    omega
end
end SwD
namespace SwD
open PySem PySem.Spec PyProof.Rows L2 Sw SwR
theorem fdiv_nat (a b : Nat) : (a : Int).fdiv (b : Int) = ((a / b : Nat) : Int) := by
  rw [Int.fdiv_eq_ediv_of_nonneg _ (Int.natCast_nonneg b)]
  rfl
theorem fmod_nat (a b : Nat) : (a : Int).fmod (b : Int) = ((a % b : Nat) : Int) := by
  rw [Int.fmod_eq_emod_of_nonneg _ (Int.natCast_nonneg b)]
  rfl
theorem ixN_nat {n j : Nat} (h : j < n) : ixN n (j : Int) = some j := by
  unfold ixN
  rw [if_pos (Int.natCast_nonneg j), if_pos (by omega), Int.toNat_natCast]
/-- for_range, the number of turns told in another way -/
theorem for_rangeE {lo : Int} {m n : Nat} (he : m = n) {g : TG} {tb : TS} {D : Ends} {σ : L2.St} {H : Hp} (Pv : Nat → L2.St → Hp → Prop) (h0 : Pv 0 σ H)
    (hs : ∀ i σ H, i < n → Pv i σ H → g (.int (lo + i)) σ H
      fun σ2 H2 => tb { D with nx := Pv (i + 1), ct := Pv (i + 1), bk := D.nx } σ2 H2) (hd : ∀ σ H, Pv n σ H → D.nx σ H) :
    ∃ W : Nat → Nat → L2.St → Hp → Prop, (∃ k, W 0 k σ H) ∧ ∀ i k σ H, W i k σ H →
      ((Itr lo m).stop i H ∧ D.nx σ H) ∨ ((Itr lo m).go i H ∧ ∃ N : L2.St → Hp → Prop, (∀ σ' H', N σ' H' → ∃ k', k' < k ∧ W (i + 1) k' σ' H') ∧ ∀ x H', (Itr lo m).yld i H x H' → g x σ H' fun σ2 H2 => tb { D with nx := N, ct := N, bk := D.nx } σ2 H2) := by
  subst he
  exact for_range Pv h0 hs hd
theorem zs_map (b : List Nat) (f : Nat → Nat) : zs (b.map f) = (zs b).map (fun x => ((f x.toNat : Nat) : Int)) := by
  unfold zs
  rw [List.map_map, List.map_map]
  rfl
theorem bV_take_snoc {b : List Nat} {f : Nat → Nat} {i : Nat} (h : i < b.length) : bV ((b.take i).map f) ++ [.int (f (b.getD i 0) : Nat)] = bV ((b.take (i + 1)).map f) := by
  rw [bV_snoc, List.take_add_one, List.getElem?_eq_getElem h, List.map_append, getD_at b h]
  rfl
def spPutRound (K : PySem.W.Frag) : Sp := fun vs H Q _ => ∃ (a : Addr) (c : List Nat) (p h : Nat), vs = [.ref a, .int (p : Int), .int (h : Int)] ∧ SqL K H a (bV c) ∧ (0 < c.length ∧ c.length ≤ 24) ∧
  ∀ H' m, Same H H' → H m = none → H' m = some (.lst (bV (bumps c (p + 1) h))) → Q (.ref m) H'
section
variable {P : Program} {w : World} {K : PySem.W.Frag} {mg : Str → Option Value} {base : Heap}
theorem scPutRound : FnScope ["board", "pit", "seeds", "pits", "made", "step", "held"] ["board", "pit", "seeds"] (defScope sPutRound) := ⟨rfl, rfl, rfl, by decide +kernel, rfl, by decide +kernel, by decide +kernel⟩
theorem k_put_round (T : Txt mg) (D : DefAt K mg "put_round" sPutRound ["board", "pit", "seeds"]) : Kept P w K mg base 1 "put_round" ["board", "pit", "seeds"] (spPutRound K) := by
  refine .mk' D fun f fd F => F.ok scPutRound (fun vs H Q E h => ?_) (fun cdv A outer s H vs Q E hr h => ?_)
  · obtain ⟨a, c, p, h, rfl, _⟩ := h
    rfl
  · obtain ⟨a, c, p, h, rfl, hS, ⟨h1, h2⟩, q⟩ := h
    have nd := scPutRound.nd
    refine ⟨_, pss_cons (ps_set (i := 3) nd rfl (.inr rfl) (pe_callB call_len_seq (by rfl) T.zlen PySem.boot_len (pa_cons (pv 0) pa_nil)))
      (pss_cons (ps_setLc (i := 4) (own := [("held", 6)]) (g := gName 6) (tt := tYes) (by rfl) nd rfl rfl (sw_true rfl rfl rfl (by decide +kernel)) (pi_list (pv 0))
        (blkOk_by (own := [("held", 6)]) (N := ["board", "pit", "seeds", "pits", "made", "step", "held"]) (sc := defScope sPutRound) (by decide +kernel))
        (fun _ _ _ _ _ => pg_name (i := 6) nd rfl (.inl rfl)) (fun _ _ _ _ _ => pts_nil) (fun _ _ _ _ _ => pe_op op_add (pv 6) (pe_op op_fdivN (pv 2) (pv 3))))
      (pss_cons (ps_for PassesOwn.never rfl (pi_range2 (by rfl) T.zrange (pa_cons pe_int (pa_cons (pe_op op_add (pe_op op_modN (pv 2) (pv 3)) pe_int) pa_nil)))
        (pg_name (i := 5) nd rfl (.inl rfl)) (pss_one (ps_augS (pv 4) (pe_op op_modN (pe_op op_add (pv 1) (pv 5)) (pv 3)) get_list pe_int ip_add set_list)))
      (pss_one (ps_ret (pv 4))))), ?_⟩
    have hl := bV_len c
    have n0 : ((c.length : Nat) : Int) ≠ 0 := by omega
    -- pits = len(board)
    refine ⟨_, rfl, a, _, rfl, .inl hS, ?_⟩
    rw [hl]
    -- made = [..]
    refine ⟨_, rfl, a, rfl, ⟨_, hS⟩, fun m hm => lc_list (K := K) (a := a) (xs := bV c) (fun i H' => H' = upd H m (.lst (bV ((c.take i).map (· + h / c.length))))) rfl ?_ ?_ ?_⟩
    · rintro i H' _ rfl
      exact (same_upd hm).seq hS
    · rintro i x H' hx rfl
      obtain ⟨hi, rfl⟩ := bV_of hx
      refine ⟨rfl, _, rfl, _, rfl, _, rfl, _, _, rfl, rfl, ⟨n0, by omega⟩, _, _, rfl, rfl, _, upd_same, ?_, ?_⟩
      · rw [bV_len, List.length_map, List.length_take]
        exact len_line (K := K) (by omega)
      · rw [upd_upd, fdiv_nat, ← bV_take_snoc hi]
        congr 3
    · rintro H' rfl
      have e0 : c.take (bV c).length = c := by
        rw [hl]
        exact List.take_length
      rw [e0]
      have l1 : (c.map (· + h / c.length)).length = c.length := List.length_map _
      -- the loop
      refine ⟨_, rfl, _, rfl, _, _, rfl, rfl, n0, _, _, rfl, rfl, _, _, rfl, ⟨by decide, by decide, ?_, ?_⟩, for_rangeE (n := h % c.length) ?_
        (fun i σ H' => ∃ v, σ = [some (.ref a), some (.int (p : Int)), some (.int (h : Int)), some (.int (c.length : Int)), some (.ref m), v, none] ∧ Same H H' ∧ H' m = some (.lst (bV (bumps (c.map (· + h / c.length)) (p + 1) i))))
        ⟨none, rfl, same_upd hm, upd_same⟩ ?_ ?_⟩
      · rw [fmod_nat]
        omega
      · have : h % c.length < c.length := Nat.mod_lt _ h1
        rw [fmod_nat]
        omega
      · rw [fmod_nat]
        omega
      · rintro i σ H' hi ⟨v, rfl, sm, hm'⟩
        have ej : ((p : Int) + (1 + (i : Int))).fmod (c.length : Int) = (((p + 1 + i) % c.length : Nat) : Int) := by
          rw [show (p : Int) + (1 + (i : Int)) = ((p + 1 + i : Nat) : Int) by omega, fmod_nat]
        have hj : (p + 1 + i) % c.length < (bumps (c.map (· + h / c.length)) (p + 1) i).length := by
          rw [bumps_len, l1]
          exact Nat.mod_lt _ h1
        refine ⟨_, rfl, _, rfl, _, rfl, _, _, rfl, rfl, _, rfl, _, _, rfl, rfl, n0, m, _, (p + 1 + i) % c.length, _, rfl, congrArg V.int ej, .of hm', bV_at hj, _, _, rfl, rfl, m, _, _, (p + 1 + i) % c.length, rfl, rfl, hm', ?_, ?_⟩
        · rw [ej, bV_len]
          exact ixN_nat hj
        · refine ⟨_, rfl, same_new sm hm, ?_⟩
          rw [upd_same]
          show some (HO.lst ((bV _).set _ (.int (((_ : Nat) : Int) + 1)))) = _
          rw [show ∀ z : Nat, ((z : Int) + 1) = ((z + 1 : Nat) : Int) from fun z => rfl, bV_set]
          show _ = some (HO.lst (bV (bump (bumps (c.map (· + h / c.length)) (p + 1) i) ((p + 1 + i) % (c.map (· + h / c.length)).length))))
          rw [l1]
          rfl
      · rintro σ H' ⟨v, rfl, sm, hm'⟩
        refine ⟨_, rfl, q H' m sm hm ?_⟩
        rw [hm', ← put_eq c (p + 1) h h1]
end
end SwD
namespace SwD
open PySem PySem.Spec PyProof.Rows L2 Sw SwR
def sowTo (b : List Nat) (p : Nat) (H : Hp) (Q : VK) : Prop := ∀ H' m t z, Same H H' → H t = none → H' t = some (.tup [.ref m, .int z]) → H' m = some (.lst (bV (sow b p))) → Q (.ref t) H'
def spSownPlain (K : PySem.W.Frag) : Sp := fun vs H Q _ => ∃ (a : Addr) (b : List Nat) (p : Nat), vs = [.ref a, .int (p : Int)] ∧ SqL K H a (bV b) ∧ (2 ≤ b.length ∧ b.length ≤ 24) ∧ p < b.length ∧ sowTo b p H Q
def spSown (K : PySem.W.Frag) : Sp := fun vs H Q _ => ∃ (a : Addr) (b : List Nat) (p : Nat), vs = [.ref a, .int (p : Int)] ∧ SqL K H a (bV b) ∧ (2 ≤ b.length ∧ b.length ≤ 24 ∧ b.sum ≤ 10 ^ 60) ∧ p < b.length ∧ 0 < b.getD p 0 ∧ sowTo b p H Q
section
variable {P : Program} {w : World} {K : PySem.W.Frag} {mg : Str → Option Value} {base : Heap}
theorem scSownPlain : FnScope ["board", "pit", "emptied"] ["board", "pit"] (defScope sSownPlain) := ⟨rfl, rfl, rfl, by decide +kernel, rfl, by decide +kernel, by decide +kernel⟩
theorem k_sown_plain (T : Txt mg) (D : DefAt K mg "sown_plain" sSownPlain ["board", "pit"]) (G : Kept P w K mg base 1 "put_round" ["board", "pit", "seeds"] (spPutRound K)) :
    Kept P w K mg base 2 "sown_plain" ["board", "pit"] (spSownPlain K) := by
  refine .mk' D fun f fd F => F.ok scSownPlain (fun vs H Q E h => ?_) (fun cdv A outer s H vs Q E hr h => ?_)
  · obtain ⟨a, b, p, rfl, _⟩ := h
    rfl
  · obtain ⟨a, b, p, rfl, hS, ⟨h1, h2⟩, h3, q⟩ := h
    have nd := scSownPlain.nd
    refine ⟨_, pss_cons (ps_set (i := 2) nd rfl (.inl rfl) (pe_callTy call_list_of (by rfl) T.zlist boot_list (pa_cons (pv 0) pa_nil)))
      (pss_cons (ps_asg pe_int (pg_sub (pv 2) (pv 1) set_list))
      (pss_one (ps_ret (pe_tup (pa_cons (pe_kept G hr (pa_cons (pv 2) (pa_cons (pv 1) (pa_cons (pe_ix ix_list (pv 0) (pv 1) (fun _ _ => rfl)) pa_nil))))
        (pa_cons (pe_op op_modN (pe_op op_add (pv 1) (pe_ix ix_list (pv 0) (pv 1) (fun _ _ => rfl))) (pe_callB call_len_seq (by rfl) T.zlen PySem.boot_len (pa_cons (pv 0) pa_nil))) pa_nil)))))), ?_⟩
    have hl := bV_len b
    -- emptied = list(board)
    refine ⟨_, rfl, a, _, rfl, .inl hS, fun e he => ?_⟩
    -- emptied[pit] = 0
    have s1 : Same H (upd H e (.lst (bV b))) := same_upd he
    refine ⟨_, rfl, _, rfl, e, _, _, p, rfl, rfl, upd_same, by rw [hl]; exact ixN_nat h3, ?_⟩
    rw [upd_upd, show (V.int 0 : V) = .int ((0 : Nat) : Int) from rfl, bV_set]
    have s2 : Same H (upd H e (.lst (bV (b.set p 0)))) := same_upd he
    have hS2 := s2.seq hS
    have lc : (b.set p 0).length = b.length := List.length_set
    -- put_round(emptied, pit, board[pit])
    refine ⟨_, rfl, _, rfl, _, rfl, _, rfl, a, _, _, _, rfl, rfl, hS2, atI_nat (bV_at h3), e, b.set p 0, p, b.getD p 0, rfl, .of upd_same, ⟨by omega, by omega⟩, fun H3 m s3 nm hm => ?_⟩
    have s4 := s2.trans s3
    have hS3 := s4.seq hS
    -- (pit + board[pit]) % len(board)
    refine ⟨_, rfl, _, rfl, _, rfl, a, _, _, _, rfl, rfl, hS3, atI_nat (bV_at h3), _, _, rfl, rfl, _, rfl, a, _, rfl, .inl hS3, _, _, rfl, rfl, by rw [hl]; omega, (by show 2 ≤ sizeLine; decide), fun t ht => ?_⟩
    refine q _ m t _ (s4.trans (same_upd ht)) (s4.free ht) upd_same ?_
    rw [upd_ne (ne_of_none hm ht)]
    exact hm
theorem scSown : FnScope ["board", "pit"] ["board", "pit"] (defScope sSown) := ⟨rfl, rfl, rfl, by decide +kernel, rfl, by decide +kernel, by decide +kernel⟩
theorem k_sown (T : Txt mg) (D : DefAt K mg "sown" sSown ["board", "pit"]) (G1 : Kept P w K mg base 2 "ask_seeds" ["board", "pit"] (spAskSeeds K)) (G2 : Kept P w K mg base 2 "sown_plain" ["board", "pit"] (spSownPlain K)) :
    Kept P w K mg base 3 "sown" ["board", "pit"] (spSown K) := by
  refine .mk' D fun f fd F => F.ok scSown (fun vs H Q E h => ?_) (fun cdv A outer s H vs Q E hr h => ?_)
  · obtain ⟨a, b, p, rfl, _⟩ := h
    rfl
  · obtain ⟨a, b, p, rfl, hS, h1, h2, h3, q⟩ := h
    refine ⟨_, pss_cons (ps_expr (pe_kept G1 hr (pa_cons (pv 0) (pa_cons (pv 1) pa_nil)))) (pss_one (ps_ret (pe_kept G2 hr (pa_cons (pv 0) (pa_cons (pv 1) pa_nil))))), ?_⟩
    refine ⟨_, rfl, _, rfl, a, b, p, rfl, hS, h1, h2, h3, ?_⟩
    exact ⟨_, rfl, _, rfl, a, b, p, rfl, hS, ⟨h1.1, h1.2.1⟩, h2, q⟩
end
end SwD
namespace SwD
open PySem PySem.Spec PyProof.Rows L2 Sw SwR
abbrev sAskSizes : Stmt := topS 20
abbrev sWays : Stmt := topS 21
abbrev sCount : Stmt := topS 22
abbrev sAskFew : Stmt := topS 25
abbrev sAskBarred : Stmt := topS 28
abbrev sAskAll : Stmt := topS 30
def spSizes : Sp := fun vs H Q _ => ∃ n S : Nat, vs = [.int (n : Int), .int (S : Int)] ∧ okB n S = true ∧ Q .non H
def spWays : Sp := fun vs H Q _ => ∃ n S : Nat, vs = [.int (n : Int), .int (S : Int)] ∧ okB n S = true ∧ Q (.int (wl S (n - 1) : Nat)) H
def spAskFew (K : PySem.W.Frag) : Sp := fun vs H Q _ => ∃ (a : Addr) (b : List Nat), vs = [.ref a] ∧ SqL K H a (bV b) ∧ okB b.length b.sum = true ∧ Q .non H
/-- rising places of n pits, one at least, not all -/
structure Barred (n : Nat) (bar : List Nat) : Prop where
  up : bar.Pairwise (· < ·)
  lt : ∀ p ∈ bar, p < n
  some : 0 < bar.length
  few : bar.length < n
def spAskBarred (K : PySem.W.Frag) : Sp := fun vs H Q _ => ∃ (a c : Addr) (b bar : List Nat), vs = [.ref a, .ref c] ∧ SqL K H a (bV b) ∧ SqL K H c (bV bar) ∧ Barred b.length bar ∧ Q .non H
def spAskAll (K : PySem.W.Frag) : Sp := fun vs H Q _ => ∃ (a c : Addr) (b bar : List Nat), vs = [.ref a, .ref c] ∧ SqL K H a (bV b) ∧ SqL K H c (bV bar) ∧ Barred b.length bar ∧ okB b.length b.sum = true ∧ Q .non H
section
variable {P : Program} {w : World} {K : PySem.W.Frag} {mg : Str → Option Value} {base : Heap}
theorem scSizes : FnScope ["pits", "seeds"] ["pits", "seeds"] (defScope sAskSizes) := ⟨rfl, rfl, rfl, by decide +kernel, rfl, by decide +kernel, by decide +kernel⟩
theorem k_ask_sizes (T : Txt mg) (D : DefAt K mg "ask_sizes" sAskSizes ["pits", "seeds"]) : Kept P w K mg base 1 "ask_sizes" ["pits", "seeds"] spSizes := by
  refine .mk' D fun f fd F => F.ok scSizes (fun vs H Q E h => ?_) (fun cdv A outer s H vs Q E hr h => ?_)
  · obtain ⟨n, S, rfl, _⟩ := h
    rfl
  · obtain ⟨n, S, rfl, ok, q⟩ := h
    obtain ⟨h1, h2, h3⟩ := okB_lt ok
    obtain ⟨t1, e1⟩ := T.cF
    obtain ⟨t2, e2⟩ := T.cM
    obtain ⟨t3, e3⟩ := T.cS
    refine ⟨_, pss_cons (ps_if (PW.pt (pw_or (pt_cmpR op_lt (pv 0) (pe_glob (v := .int 2) (by rfl) e1 ⟨_, rfl⟩) (nomark _))
        (pw_or1 (pt_cmpR op_gt (pv 0) (pe_glob (v := .int 24) (by rfl) e2 ⟨_, rfl⟩) (nomark _))))) (pss_one ps_never) pss_nil)
      (pss_one (ps_if (PW.pt (pw_or (pt_cmpR op_lt (pv 1) pe_int (nomark _))
        (pw_or1 (pt_cmpR op_gt (pv 1) (pe_glob (v := .int (10 ^ 60)) (by rfl) e3 ⟨_, rfl⟩) (nomark _))))) (pss_one ps_never) pss_nil)), ?_⟩
    refine ⟨_, rfl, _, _, rfl, rfl, _, rfl, dF (by omega) ?_⟩
    refine ⟨_, rfl, _, _, rfl, rfl, _, rfl, dF (by omega) ?_⟩
    refine ⟨_, rfl, _, _, rfl, rfl, _, rfl, dF (by omega) ?_⟩
    refine ⟨_, rfl, _, _, rfl, rfl, _, rfl, dF (by omega) ?_⟩
    exact q
theorem scWays : FnScope ["pits", "seeds", "found", "k"] ["pits", "seeds"] (defScope sWays) := ⟨rfl, rfl, rfl, by decide +kernel, rfl, by decide +kernel, by decide +kernel⟩
theorem k_ways (T : Txt mg) (D : DefAt K mg "ways_to_lay" sWays ["pits", "seeds"]) : Kept P w K mg base 1 "ways_to_lay" ["pits", "seeds"] spWays := by
  refine .mk' D fun f fd F => F.ok scWays (fun vs H Q E h => ?_) (fun cdv A outer s H vs Q E hr h => ?_)
  · obtain ⟨n, S, rfl, _⟩ := h
    rfl
  · obtain ⟨n, S, rfl, ok, q⟩ := h
    obtain ⟨h1, h2, h3⟩ := okB_lt ok
    have nd := scWays.nd
    refine ⟨_, pss_cons (ps_set (i := 2) nd rfl (.inl rfl) pe_int)
      (pss_cons (ps_for PassesOwn.never rfl (pi_range2 (by rfl) T.zrange (pa_cons pe_int (pa_cons (pv 0) pa_nil))) (pg_name (i := 3) nd rfl (.inl rfl))
        (pss_one (ps_set (i := 2) nd rfl (.inl rfl) (pe_op op_fdivN (pe_op op_mul (pv 2) (pe_op op_add (pv 1) (pv 3))) (pv 3)))))
      (pss_one (ps_ret (pv 2)))), ?_⟩
    refine ⟨_, rfl, _, _, rfl, ⟨by decide, by decide, by omega, by omega⟩, for_rangeE (n := n - 1) (by omega)
      (fun i σ H' => ∃ v, σ = [some (.int (n : Int)), some (.int (S : Int)), some (.int (wl S i : Nat)), v] ∧ H' = H) ⟨none, rfl, rfl⟩ ?_ ?_⟩
    · rintro i σ H' hi ⟨v, rfl, rfl⟩
      have hw := ok_wl ok (j := i) (by omega)
      refine ⟨_, rfl, _, rfl, _, rfl, _, _, rfl, rfl, _, _, rfl, rfl, .inl ⟨by omega, by omega⟩, _, rfl, _, _, rfl, rfl, ⟨by omega, by omega⟩, some (.int (1 + (i : Int))), ?_, rfl⟩
      have e : ((wl S i : Nat) : Int) * ((S : Int) + (1 + (i : Int))) = ((wl S i * (S + (i + 1)) : Nat) : Int) := by
        rw [show (S : Int) + (1 + (i : Int)) = ((S + (i + 1) : Nat) : Int) by omega]
        exact (Int.natCast_mul _ _).symm
      have e2 : (((wl S i : Nat) : Int) * ((S : Int) + (1 + (i : Int)))).fdiv (1 + (i : Int)) = ((wl S (i + 1) : Nat) : Int) := by
        rw [e, show (1 + (i : Int)) = ((i + 1 : Nat) : Int) by omega, fdiv_nat]
        rfl
      show [some (V.int (n : Int)), some (V.int (S : Int)), some (V.int ((((wl S i : Nat) : Int) * ((S : Int) + (1 + (i : Int)))).fdiv (1 + (i : Int)))), some (V.int (1 + (i : Int)))] = _
      rw [e2]
    · rintro σ H' ⟨v, rfl, rfl⟩
      exact ⟨_, rfl, q⟩
theorem scCount : FnScope ["pits", "seeds"] ["pits", "seeds"] (defScope sCount) := ⟨rfl, rfl, rfl, by decide +kernel, rfl, by decide +kernel, by decide +kernel⟩
theorem k_count (T : Txt mg) (D : DefAt K mg "board_count" sCount ["pits", "seeds"]) (G1 : Kept P w K mg base 1 "ask_sizes" ["pits", "seeds"] spSizes) (G2 : Kept P w K mg base 1 "ways_to_lay" ["pits", "seeds"] spWays) :
    Kept P w K mg base 2 "board_count" ["pits", "seeds"] spWays := by
  refine .mk' D fun f fd F => F.ok scCount (fun vs H Q E h => ?_) (fun cdv A outer s H vs Q E hr h => ?_)
  · obtain ⟨n, S, rfl, _⟩ := h
    rfl
  · obtain ⟨n, S, rfl, ok, q⟩ := h
    refine ⟨_, pss_cons (ps_expr (pe_kept G1 hr (pa_cons (pv 0) (pa_cons (pv 1) pa_nil)))) (pss_one (ps_ret (pe_kept G2 hr (pa_cons (pv 0) (pa_cons (pv 1) pa_nil))))), ?_⟩
    exact ⟨_, rfl, _, rfl, n, S, rfl, ok, _, rfl, _, rfl, n, S, rfl, ok, q⟩
theorem scAskFew : FnScope ["board"] ["board"] (defScope sAskFew) := ⟨rfl, rfl, rfl, by decide +kernel, rfl, by decide +kernel, by decide +kernel⟩
theorem k_ask_few (T : Txt mg) (D : DefAt K mg "ask_few" sAskFew ["board"]) (G : Kept P w K mg base 2 "board_count" ["pits", "seeds"] spWays) : Kept P w K mg base 3 "ask_few" ["board"] (spAskFew K) := by
  refine .mk' D fun f fd F => F.ok scAskFew (fun vs H Q E h => ?_) (fun cdv A outer s H vs Q E hr h => ?_)
  · obtain ⟨a, b, rfl, _⟩ := h
    rfl
  · obtain ⟨a, b, rfl, hS, ok, q⟩ := h
    obtain ⟨t1, e1⟩ := T.cB
    refine ⟨_, pss_one (ps_if (pt_cmpR op_gt (pe_kept G hr (pa_cons (pe_callB call_len_seq (by rfl) T.zlen PySem.boot_len (pa_cons (pv 0) pa_nil))
      (pa_cons (pe_callB (cr_sum rfl) (by rfl) T.zsum boot_sum (pa_cons (pv 0) pa_nil)) pa_nil))) (pe_glob (v := .int 1000) (by rfl) e1 ⟨_, rfl⟩) (nomark _)) (pss_one ps_never) pss_nil), ?_⟩
    obtain ⟨h1, h2, h3⟩ := okB_lt ok
    have hw := ok_wl ok (j := b.length - 1) (by omega)
    refine ⟨_, rfl, a, _, rfl, .inl hS, _, rfl, a, zs b, rfl, hS, b.length, b.sum, ?_, ok, _, _, rfl, rfl, _, rfl, dF (by omega) q⟩
    rw [bV_len, zs_sum]
    rfl
theorem scAskBarred : FnScope ["board", "barred", "last", "pit"] ["board", "barred"] (defScope sAskBarred) := ⟨rfl, rfl, rfl, by decide +kernel, rfl, by decide +kernel, by decide +kernel⟩
theorem k_ask_barred (T : Txt mg) (D : DefAt K mg "ask_barred" sAskBarred ["board", "barred"]) : Kept P w K mg base 1 "ask_barred" ["board", "barred"] (spAskBarred K) := by
  refine .mk' D fun f fd F => F.ok scAskBarred (fun vs H Q E h => ?_) (fun cdv A outer s H vs Q E hr h => ?_)
  · obtain ⟨a, c, b, bar, rfl, _⟩ := h
    rfl
  · obtain ⟨a, c, b, bar, rfl, hS, hC, hb, q⟩ := h
    have nd := scAskBarred.nd
    refine ⟨_, pss_cons (ps_set (i := 2) nd rfl (.inl rfl) (pe_un un_neg pe_int))
      (pss_cons (ps_for PassesOwn.never rfl (pi_list (pv 1)) (pg_name (i := 3) nd rfl (.inl rfl))
        (pss_cons (ps_if (PW.pt (pw_or (pt_cmpR op_le (pv 3) (pv 2) (nomark _)) (pw_or1 (pt_cmpR op_ge (pv 3) (pe_callB call_len_seq (by rfl) T.zlen PySem.boot_len (pa_cons (pv 0) pa_nil)) (nomark _))))) (pss_one ps_never) pss_nil)
        (pss_one (ps_set (i := 2) nd rfl (.inl rfl) (pv 3)))))
      (pss_one (ps_if (PW.pt (pw_or (pt_cmpR op_eq (pe_callB call_len_seq (by rfl) T.zlen PySem.boot_len (pa_cons (pv 1) pa_nil)) pe_int (nomark _))
        (pw_or1 (pt_cmpR op_eq (pe_callB call_len_seq (by rfl) T.zlen PySem.boot_len (pa_cons (pv 1) pa_nil)) (pe_callB call_len_seq (by rfl) T.zlen PySem.boot_len (pa_cons (pv 0) pa_nil)) (nomark _))))) (pss_one ps_never) pss_nil))), ?_⟩
    have hl := bV_len b
    have hlb := bV_len bar
    refine ⟨_, rfl, ?_⟩
    refine ⟨_, rfl, c, rfl, ⟨_, hC⟩, for_list (K := K) (a := c) (xs := bV bar)
      (fun i σ H' => ∃ (z : Int) (v : Option V), σ = [some (.ref a), some (.ref c), some (.int z), v] ∧ H' = H ∧ ∀ j, i ≤ j → j < bar.length → z < (bar.getD j 0 : Nat)) ⟨-1, none, rfl, rfl, fun j _ _ => by omega⟩ (fun i σ H' _ ⟨z, v, _, e, _⟩ => by rw [e]; exact hC) ?_ ?_⟩
    · rintro i x σ H' hx ⟨z, v, rfl, rfl, hz⟩
      obtain ⟨hi, rfl⟩ := bV_of hx
      have h1 := hz i (Nat.le_refl _) hi
      have h2 : bar.getD i 0 < b.length := hb.lt _ (by rw [getD_at bar hi]; exact List.getElem_mem hi)
      refine ⟨_, rfl, _, rfl, _, _, rfl, rfl, _, rfl, dF (by omega) ?_⟩
      refine ⟨_, rfl, _, rfl, a, _, rfl, .inl hS, _, _, rfl, rfl, _, rfl, dF (by omega) ?_⟩
      refine ⟨_, rfl, _, _, rfl, rfl, fun j h3 h4 => ?_⟩
      have := List.pairwise_iff_getElem.mp hb.up i j hi h4 (by omega)
      rw [getD_at bar hi, getD_at bar h4]
      omega
    · rintro σ H' ⟨z, v, rfl, rfl, hz⟩
      have h1 := hb.some
      have h2 := hb.few
      refine ⟨_, rfl, c, _, rfl, .inl hC, rfl, _, rfl, dF (fun e => ?_) ?_⟩
      · have e' := V.int.inj e
        omega
      refine ⟨_, rfl, c, _, rfl, .inl hC, _, rfl, a, _, rfl, .inl hS, rfl, _, rfl, dF (fun e => ?_) ?_⟩
      · have e' := V.int.inj e
        omega
      exact q
theorem scAskAll : FnScope ["board", "barred"] ["board", "barred"] (defScope sAskAll) := ⟨rfl, rfl, rfl, by decide +kernel, rfl, by decide +kernel, by decide +kernel⟩
theorem k_ask_all (T : Txt mg) (D : DefAt K mg "ask_all" sAskAll ["board", "barred"]) (G1 : Kept P w K mg base 1 "ask_board" ["board"] (spAskBoard K)) (G2 : Kept P w K mg base 1 "ask_barred" ["board", "barred"] (spAskBarred K)) (G3 : Kept P w K mg base 3 "ask_few" ["board"] (spAskFew K)) :
    Kept P w K mg base 4 "ask_all" ["board", "barred"] (spAskAll K) := by
  refine .mk' D fun f fd F => F.ok scAskAll (fun vs H Q E h => ?_) (fun cdv A outer s H vs Q E hr h => ?_)
  · obtain ⟨a, c, b, bar, rfl, _⟩ := h
    rfl
  · obtain ⟨a, c, b, bar, rfl, hS, hC, hb, ok, q⟩ := h
    obtain ⟨h1, h2, h3⟩ := okB_lt ok
    refine ⟨_, pss_cons (ps_expr (pe_kept G1 (hr.mono (by decide)) (pa_cons (pv 0) pa_nil))) (pss_cons (ps_expr (pe_kept G2 (hr.mono (by decide)) (pa_cons (pv 0) (pa_cons (pv 1) pa_nil))))
      (pss_one (ps_expr (pe_kept G3 hr (pa_cons (pv 0) pa_nil))))), ?_⟩
    refine ⟨_, rfl, a, b, rfl, hS, ⟨h1, by omega, by omega⟩, ?_⟩
    refine ⟨_, rfl, _, rfl, a, c, b, bar, rfl, hS, hC, hb, ?_⟩
    exact ⟨_, rfl, a, b, rfl, hS, ok, q⟩
end
end SwD
namespace SwD
open PySem PySem.Spec PyProof.Rows L2 Sw SwR
abbrev sNext : Stmt := topS 26
abbrev sFree : Stmt := topS 29
theorem paired_app {α β : Type} {F : α → β → Prop} : ∀ {l l' : List α} {m m' : List β}, Paired F l m → Paired F l' m' → Paired F (l ++ l') (m ++ m')
  | _, _, _, _, .nil, s => s
  | _, _, _, _, .cons h t, s => .cons h (paired_app t s)
theorem paired_snoc {α β : Type} {F : α → β → Prop} {l : List α} {m : List β} {x : α} {y : β} (r : Paired F l m) (h : F x y) : Paired F (l ++ [x]) (m ++ [y]) := paired_app r (.cons h .nil)
theorem paired_get {α β : Type} {F : α → β → Prop} : ∀ {l : List α} {m : List β} {i : Nat} {x : α}, Paired F l m → l[i]? = some x → ∃ y, m[i]? = some y ∧ F x y
  | _, _, _, _, .nil, e => by simp at e
  | _, _, 0, _, .cons r _, e => by
    have e' := Option.some.inj e
    subst e'
    exact ⟨_, rfl, r⟩
  | _, _, i + 1, _, .cons _ t, e => by
    obtain ⟨y, h1, h2⟩ := paired_get (i := i) t (by simpa using e)
    exact ⟨y, by simpa using h1, h2⟩
theorem filter_one {α : Type} {f : α → Bool} {x : α} (h : f x = true) : [x].filter f = [x] := by simp [h]
theorem filter_none {α : Type} {f : α → Bool} {x : α} (h : f x = false) : [x].filter f = [] := by simp [h]
theorem flat_bV (b : List Nat) : (bV b).all flatV = true := by
  unfold bV
  rw [List.all_eq_true]
  intro x hx
  obtain ⟨n, _, rfl⟩ := List.mem_map.mp hx
  rfl
theorem inV_bV (p : Nat) (b : List Nat) : inV (.int (p : Int)) (bV b) = decide (p ∈ b) := by
  unfold inV bV zs
  rw [List.any_map, List.any_map]
  by_cases h : p ∈ b
  · rw [decide_eq_true h, List.any_eq_true]
    exact ⟨p, h, beq_self_eq_true _⟩
  · rw [decide_eq_false h, List.any_eq_false]
    intro x hx e
    have e' : ((x : Int) == (p : Int)) = true := e
    have e2 : x = p := Int.ofNat.inj (eq_of_beq e')
    exact h (e2 ▸ hx)
/-- a pair of a pit and the board behind its sowing -/
def PrAt (b : List Nat) (H : Hp) (t : Addr) (p : Nat) : Prop := ∃ c, H t = some (.tup [.int (p : Int), .ref c]) ∧ H c = some (.tup (bV (sow b p)))
theorem PrAt.same {b : List Nat} {H H' : Hp} {t : Addr} {p : Nat} (s : Same H H') (h : PrAt b H t p) : PrAt b H' t p := by
  obtain ⟨c, h1, h2⟩ := h
  exact ⟨c, s _ _ h1, s _ _ h2⟩
/-- kept at the new tuples: nothing but one list changed -/
theorem PrAt.upd {b : List Nat} {H : Hp} {t l : Addr} {p : Nat} {xs : List V} {o : HO} (hl : H l = some (.lst xs)) (h : PrAt b H t p) : PrAt b (upd H l o) t p := by
  obtain ⟨c, h1, h2⟩ := h
  refine ⟨c, ?_, ?_⟩
  · rw [upd_ne (ne_of h1 hl (fun z => nomatch z))]
    exact h1
  · rw [upd_ne (ne_of h2 hl (fun z => nomatch z))]
    exact h2
def seeded (b : List Nat) (p : Nat) : Bool := decide (0 < b.getD p 0)
def spNext (K : PySem.W.Frag) : Sp := fun vs H Q _ => ∃ (a : Addr) (b : List Nat), vs = [.ref a] ∧ SqT K H a (bV b) ∧ (2 ≤ b.length ∧ b.length ≤ 24 ∧ b.sum ≤ 10 ^ 60) ∧
  ∀ H' l (ts : List Addr), Same H H' → H l = none → H' l = some (.lst (ts.map V.ref)) → Paired (PrAt b H') ts ((List.range b.length).filter (seeded b)) → Q (.ref l) H'
def spFree (K : PySem.W.Frag) : Sp := fun vs H Q _ => ∃ (a c : Addr) (b bar : List Nat), vs = [.ref a, .ref c] ∧ SqT K H a (bV b) ∧ SqL K H c (bV bar) ∧ (2 ≤ b.length ∧ b.length ≤ 24 ∧ b.sum ≤ 10 ^ 60) ∧
  ∀ H' l (ts : List Addr), Same H H' → H l = none → H' l = some (.lst (ts.map V.ref)) → Paired (PrAt b H') ts ((List.range b.length).filter (free bar b)) → Q (.ref l) H'
section
variable {P : Program} {w : World} {K : PySem.W.Frag} {mg : Str → Option Value} {base : Heap}
theorem scNext : FnScope ["board", "told", "pit", "number"] ["board"] (defScope sNext) := ⟨rfl, rfl, rfl, by decide +kernel, rfl, by decide +kernel, by decide +kernel⟩
theorem k_next (T : Txt mg) (D : DefAt K mg "next_sowings" sNext ["board"]) (G : Kept P w K mg base 3 "sown" ["board", "pit"] (spSown K)) : Kept P w K mg base 4 "next_sowings" ["board"] (spNext K) := by
  refine .mk' D fun f fd F => F.ok scNext (fun vs H Q E h => ?_) (fun cdv A outer s H vs Q E hr h => ?_)
  · obtain ⟨a, b, rfl, _⟩ := h
    rfl
  · obtain ⟨a, b, rfl, hT, hb, q⟩ := h
    have nd := scNext.nd
    refine ⟨_, pss_cons (ps_set (i := 1) nd rfl (.inl rfl) (pe_lst pa_nil))
      (pss_cons (ps_for PassesOwn.never rfl (pi_enumT (by rfl) T.zenum (pa_cons (pv 0) pa_nil))
        (pg_tup rfl (pgs_cons (pg_name (i := 2) nd rfl (.inl rfl)) (pgs_cons (pg_name (i := 3) nd rfl (.inl rfl)) pgs_nil)))
        (pss_one (ps_if (pt_cmpR op_gt (pv 3) pe_int (nomark _))
          (pss_one (ps_expr (pe_bm PySem.F.plainAttrs_list PySem.F.slot_list_append PySem.F.type_list_append mt_append (pv 1)
            (pa_cons (pe_tup (pa_cons (pv 2) (pa_cons (pe_callTy call_tuple_of (by rfl) T.ztuple boot_tuple (pa_cons (pe_ix ix_tup
              (pe_kept G hr (pa_cons (pe_callTy call_list_of (by rfl) T.zlist boot_list (pa_cons (pv 0) pa_nil)) (pa_cons (pv 2) pa_nil))) pe_int (fun _ _ => rfl)) pa_nil)) pa_nil))) pa_nil)))) pss_nil)))
      (pss_one (ps_ret (pv 1)))), ?_⟩
    -- told = []
    refine ⟨Nat.zero_le _, fun l hl => ?_⟩
    have hbl := bV_len b
    -- the loop
    refine ⟨_, rfl, a, bV b, rfl, same_tup (same_upd hl) hT, for_enumT (K := K) (a := a) (xs := bV b)
      (fun i σ H' => ∃ (v2 v3 : Option V) (ts : List Addr), σ = [some (.ref a), some (.ref l), v2, v3] ∧ Same H H' ∧ H' l = some (.lst (ts.map V.ref)) ∧ Paired (PrAt b H') ts ((List.range i).filter (seeded b)))
      ⟨none, none, [], rfl, same_upd hl, upd_same, .nil⟩ (fun i σ H' _ ⟨_, _, _, _, s1, _⟩ => same_tup s1 hT) ?_ ?_⟩
    · rintro i x U σ H' hx ⟨v2, v3, ts, rfl, s1, h1, h2⟩ hU
      obtain ⟨hi, rfl⟩ := bV_of hx
      have sU : Same H' (upd H' U (.tup [.int (i : Nat), .int (b.getD i 0 : Nat)])) := same_upd hU
      generalize hHU : upd H' U (.tup [.int (i : Nat), .int (b.getD i 0 : Nat)]) = HU at sU
      have hUU : HU U = some (.tup [.int (i : Nat), .int (b.getD i 0 : Nat)]) := by rw [← hHU, upd_same]
      refine ⟨U, _, rfl, .of hUU, rfl, _, _, rfl, _, _, rfl, rfl, ?_⟩
      have s2 := s1.trans sU
      have h1' := sU _ _ h1
      have h2' : Paired (PrAt b HU) ts ((List.range i).filter (seeded b)) := L2.Paired.mapP h2 fun t p h => h.same sU
      -- if number > 0
      refine ⟨_, rfl, _, _, rfl, rfl, _, rfl, ?_⟩
      by_cases h0 : 0 < b.getD i 0
      · refine dT (by omega) ?_
        refine ⟨.ref l, rfl, .inl ⟨rfl, _, .of h1'⟩, _, rfl, _, rfl, a, _, rfl, .inr (same_tup s2 hT), fun e he => ?_⟩
        have s3 := same_upd (o := .lst (bV b)) he
        refine ⟨_, rfl, e, b, i, rfl, .of upd_same, hb, hi, h0, fun H3 m t z s4 nt ht hm => ?_⟩
        have s5 := s3.trans s4
        refine ⟨t, _, 0, _, rfl, rfl, .of ht, rfl, m, _, rfl, .inl ⟨.of hm, fun c hc => ⟨(by show 2 ≤ sizeLine; decide), fun t2 ht2 => ?_⟩⟩⟩
        have s6 := same_upd (o := .tup (bV (sow b i))) hc
        have s7 := same_upd (o := .tup [.int (i : Int), .ref c]) ht2
        generalize hH5 : upd (upd H3 c (.tup (bV (sow b i)))) t2 (.tup [.int (i : Int), .ref c]) = H5 at s7
        have hc5 : H5 c = some (.tup (bV (sow b i))) := s7 _ _ upd_same
        have ht5 : H5 t2 = some (.tup [.int (i : Int), .ref c]) := by rw [← hH5, upd_same]
        have s8 := (s5.trans s6).trans s7
        have hl5 := s8 _ _ h1'
        have p5 : Paired (PrAt b H5) ts ((List.range i).filter (seeded b)) := L2.Paired.mapP h2' fun t p h => h.same s8
        refine ⟨l, _, _, rfl, rfl, hl5, ?_, ?_⟩
        · have e1 := Paired.length p5
          have e2 := List.length_filter_le (seeded b) (List.range i)
          rw [List.length_range] at e2
          rw [List.length_map]
          exact len_line (K := K) (by omega)
        · refine ⟨_, _, ts ++ [t2], rfl, same_new (s2.trans s8) hl, ?_, ?_⟩
          · rw [upd_same, List.map_append]
            rfl
          · rw [List.range_succ, List.filter_append]
            have e3 : [i].filter (seeded b) = [i] := filter_one (decide_eq_true h0)
            rw [e3]
            exact L2.Paired.mapP (paired_snoc p5 ⟨c, ht5, hc5⟩) fun t p h => h.upd hl5
      · refine dF (by omega) ?_
        refine ⟨_, _, ts, rfl, s2, h1', ?_⟩
        rw [List.range_succ, List.filter_append]
        have e3 : [i].filter (seeded b) = [] := filter_none (decide_eq_false h0)
        rw [e3, List.append_nil]
        exact h2'
    · rintro σ H' ⟨v2, v3, ts, rfl, s1, h1, h2⟩
      rw [hbl] at h2
      exact ⟨_, rfl, q H' l ts s1 hl h1 h2⟩
theorem scFree : FnScope ["board", "barred", "pair"] ["board", "barred"] (defScope sFree) := ⟨rfl, rfl, rfl, by decide +kernel, rfl, by decide +kernel, by decide +kernel⟩
theorem free_eq (bar b : List Nat) : ((List.range b.length).filter (seeded b)).filter (fun p => !decide (p ∈ bar)) = (List.range b.length).filter (free bar b) := by
  rw [List.filter_filter]
  congr 1
  funext p
  show (!decide (p ∈ bar) && seeded b p) = (seeded b p && !decide (p ∈ bar))
  exact Bool.and_comm _ _
theorem k_free (T : Txt mg) (D : DefAt K mg "free_sowings" sFree ["board", "barred"]) (G : Kept P w K mg base 4 "next_sowings" ["board"] (spNext K)) : Kept P w K mg base 5 "free_sowings" ["board", "barred"] (spFree K) := by
  refine .mk' D fun f fd F => F.ok scFree (fun vs H Q E h => ?_) (fun cdv A outer s H vs Q E hr h => ?_)
  · obtain ⟨a, c, b, bar, rfl, _⟩ := h
    rfl
  · obtain ⟨a, c, b, bar, rfl, hT, hC, hb, q⟩ := h
    have nd := scFree.nd
    refine ⟨_, pss_one (ps_ret (pe_lc (own := [("pair", 2)]) (g := gName 2) (by rfl) nd (pi_list (pe_kept G hr (pa_cons (pv 0) pa_nil)))
      (blkOk_by (own := [("pair", 2)]) (N := ["board", "barred", "pair"]) (sc := defScope sFree) (by decide +kernel))
      (fun _ _ _ _ _ => pg_name (i := 2) nd rfl (.inl rfl)) (fun _ _ _ _ _ => pts_one (pt_cmpR (r := rIn K true) op_notIn_seq (pe_ix (r := rIxT K) ix_tup (pv 2) pe_int (fun _ _ => rfl)) (pv 1) (by rfl))) (fun _ _ _ _ _ => pv 2))), ?_⟩
    refine ⟨_, rfl, a, b, rfl, hT, hb, fun H1 l ts s1 nl hl hp => ?_⟩
    have ep := Paired.length hp
    have le := List.length_filter_le (seeded b) (List.range b.length)
    rw [List.length_range] at le
    refine ⟨l, rfl, ⟨_, .of hl⟩, fun M hM => lc_list (K := K) (a := l) (xs := ts.map V.ref)
      (fun i H' => Same H1 H' ∧ ∃ us : List Addr, H' M = some (.lst (us.map V.ref)) ∧ us.length ≤ i ∧ Paired (PrAt b H') us ((((List.range b.length).filter (seeded b)).take i).filter (fun p => !decide (p ∈ bar))))
      ⟨same_upd hM, [], upd_same, Nat.le_refl _, .nil⟩ (fun i H' _ ⟨s2, _⟩ => s2.seq (.of hl)) ?_ ?_⟩
    · rintro i x H' hx ⟨s2, us, h1, h3, h2⟩
      rw [List.getElem?_map] at hx
      cases ht : ts[i]? with
      | none =>
        rw [ht] at hx
        cases hx
      | some t =>
        rw [ht] at hx
        cases hx
        obtain ⟨p, hpi, hpr⟩ := paired_get hp ht
        have hi := (List.getElem?_eq_some_iff.mp ht).1
        have hpr2 := hpr.same s2
        obtain ⟨cc, g1, g2⟩ := id hpr2
        have et : ((List.range b.length).filter (seeded b)).take (i + 1) = ((List.range b.length).filter (seeded b)).take i ++ [p] := by
          rw [List.take_add_one, hpi]
          rfl
        refine ⟨rfl, _, rfl, t, _, 0, _, rfl, rfl, .of g1, rfl, _, rfl, c, _, rfl, .inl ((s1.trans s2).seq hC), rfl, flat_bV bar, _, rfl, ?_⟩
        rw [inV_bV]
        by_cases hm : p ∈ bar
        · rw [decide_eq_true hm]
          refine ⟨s2, us, h1, by omega, ?_⟩
          rw [et, List.filter_append, filter_none (by rw [decide_eq_true hm]; rfl), List.append_nil]
          exact h2
        · rw [decide_eq_false hm]
          refine ⟨_, rfl, _, h1, ?_, same_new s2 hM, us ++ [t], ?_, ?_, ?_⟩
          · rw [List.length_map]
            exact len_line (K := K) (by omega)
          · rw [upd_same, List.map_append]
            rfl
          · rw [List.length_append]
            show us.length + 1 ≤ i + 1
            omega
          · rw [et, List.filter_append, filter_one (by rw [decide_eq_false hm]; rfl)]
            exact L2.Paired.mapP (paired_snoc h2 hpr2) fun t p h => h.upd h1
    · rintro H' ⟨s2, us, h1, h3, h2⟩
      rw [List.length_map, ep, List.take_length, free_eq] at h2
      exact q H' M us (s1.trans s2) (s1.free hM) h1 h2
end
end SwD
namespace SwD
open PySem PySem.Spec PyProof.Rows L2 Sw SwR
abbrev sLeast : Stmt := topS 32
abbrev sLLeast : Stmt := topS 45
def spLeast (K : PySem.W.Frag) : Sp := fun vs H Q _ => ∃ (a : Addr) (ms : List Nat), vs = [.ref a] ∧ SqL K H a (bV ms) ∧ Q (.int (mex ms : Nat)) H
section
variable {P : Program} {w : World} {K : PySem.W.Frag} {mg : Str → Option Value} {base : Heap}
/-- what both loops keep -/
def LeastW (a : Addr) (ms : List Nat) (H : Hp) (m : Nat) (σ : L2.St) (H' : Hp) : Prop := ∃ k : Nat, σ = [some (.ref a), some (.int (k : Int))] ∧ H' = H ∧ (∀ j, j < k → j ∈ ms) ∧ m + k = ms.length + 1
theorem scLeast : FnScope ["numbers", "least"] ["numbers"] (defScope sLeast) := ⟨rfl, rfl, rfl, by decide +kernel, rfl, by decide +kernel, by decide +kernel⟩
theorem k_least (D : DefAt K mg "least_lacking" sLeast ["numbers"]) : Kept P w K mg base 1 "least_lacking" ["numbers"] (spLeast K) := by
  refine .mk' D fun f fd F => F.ok scLeast (fun vs H Q E h => ?_) (fun cdv A outer s H vs Q E hr h => ?_)
  · obtain ⟨a, ms, rfl, _⟩ := h
    rfl
  · obtain ⟨a, ms, rfl, hS, q⟩ := h
    have nd := scLeast.nd
    refine ⟨_, pss_cons (ps_set (i := 1) nd rfl (.inl rfl) pe_int)
      (pss_cons (ps_while PassesOwn.never (pt_cmpR op_in_seq (pv 1) (pv 0) (by rfl)) (pss_one (ps_aug (i := 1) nd rfl (.inl rfl) pe_int ip_add)))
      (pss_one (ps_ret (pv 1)))), ?_⟩
    refine ⟨LeastW a ms H, ⟨ms.length + 1, 0, rfl, rfl, fun j hj => absurd hj (Nat.not_lt_zero j), rfl⟩, ?_⟩
    rintro m σ H' ⟨k, rfl, rfl, hk, hm⟩
    refine ⟨_, rfl, _, rfl, a, _, rfl, .inl hS, rfl, flat_bV ms, _, rfl, ?_⟩
    rw [show (if false = true then !inV (.int (k : Int)) (bV ms) else inV (.int (k : Int)) (bV ms)) = decide (k ∈ ms) from inV_bV k ms]
    by_cases h : k ∈ ms
    · refine dT h ⟨fun σ' H2 => ∃ m', m' < m ∧ LeastW a ms H' m' σ' H2, fun _ _ z => z, _, rfl, _, _, rfl, rfl, ?_⟩
      have hb : ∀ j, j < k + 1 → j ∈ ms := fun j hj => by
        by_cases e : j = k
        · rw [e]
          exact h
        · exact hk j (by omega)
      have := below_len hb
      exact ⟨m - 1, by omega, k + 1, rfl, rfl, hb, by omega⟩
    · refine dF h ⟨_, rfl, ?_⟩
      rw [show k = mex ms from IsMex.uniq ⟨h, hk⟩ (mex_ok ms)]
      exact q
theorem scLLeast : FnScope ["numbers", "least"] ["numbers"] (defScope sLLeast) := ⟨rfl, rfl, rfl, by decide +kernel, rfl, by decide +kernel, by decide +kernel⟩
theorem k_lleast (D : DefAt K mg "_law_least" sLLeast ["numbers"]) : Kept P w K mg base 1 "_law_least" ["numbers"] (spLeast K) := by
  refine .mk' D fun f fd F => F.ok scLLeast (fun vs H Q E h => ?_) (fun cdv A outer s H vs Q E hr h => ?_)
  · obtain ⟨a, ms, rfl, _⟩ := h
    rfl
  · obtain ⟨a, ms, rfl, hS, q⟩ := h
    have nd := scLLeast.nd
    refine ⟨_, pss_cons (ps_set (i := 1) nd rfl (.inl rfl) pe_int)
      (pss_cons (ps_while PassesOwn.never (pt_cmpR op_in_seq (pv 1) (pv 0) (by rfl)) (pss_one (ps_set (i := 1) nd rfl (.inl rfl) (pe_op op_add (pv 1) pe_int))))
      (pss_one (ps_ret (pv 1)))), ?_⟩
    refine ⟨LeastW a ms H, ⟨ms.length + 1, 0, rfl, rfl, fun j hj => absurd hj (Nat.not_lt_zero j), rfl⟩, ?_⟩
    rintro m σ H' ⟨k, rfl, rfl, hk, hm⟩
    refine ⟨_, rfl, _, rfl, a, _, rfl, .inl hS, rfl, flat_bV ms, _, rfl, ?_⟩
    rw [show (if false = true then !inV (.int (k : Int)) (bV ms) else inV (.int (k : Int)) (bV ms)) = decide (k ∈ ms) from inV_bV k ms]
    by_cases h : k ∈ ms
    · refine dT h ⟨fun σ' H2 => ∃ m', m' < m ∧ LeastW a ms H' m' σ' H2, fun _ _ z => z, _, rfl, _, _, rfl, rfl, ?_⟩
      have hb : ∀ j, j < k + 1 → j ∈ ms := fun j hj => by
        by_cases e : j = k
        · rw [e]
          exact h
        · exact hk j (by omega)
      have := below_len hb
      exact ⟨m - 1, by omega, k + 1, rfl, rfl, hb, by omega⟩
    · refine dF h ⟨_, rfl, ?_⟩
      rw [show k = mex ms from IsMex.uniq ⟨h, hk⟩ (mex_ok ms)]
      exact q
end
end SwD
namespace SwD
open PySem PySem.Spec PyProof.Rows L2 Sw SwR
abbrev sBy : Stmt := topS 33
/-! ### tables keyed by boards -/
def tab (f : List Nat → V) (ks : List (List Nat)) : List (List L2.Key × V) := ks.map fun k => (bK k, f k)
theorem valV_tab (f : List Nat → V) (b : List Nat) : ∀ ks : List (List Nat), valV (tab f ks) (bK b) = if b ∈ ks then some (f b) else none
  | [] => by
    rw [if_neg (fun h => nomatch h)]
    rfl
  | k :: ks => by
    by_cases e : k = b
    · rw [if_pos (by rw [e]; exact List.mem_cons_self), ← e]
      exact valV_pos (p := (bK k, f k)) (r := tab f ks) rfl
    · have e1 : valV (tab f (k :: ks)) (bK b) = valV (tab f ks) (bK b) := valV_neg (p := (bK k, f k)) (r := tab f ks) fun q => e (bK_inj q)
      rw [e1, valV_tab f b ks]
      by_cases m : b ∈ ks
      · rw [if_pos m, if_pos (List.mem_cons_of_mem _ m)]
      · rw [if_neg m, if_neg fun h => (List.mem_cons.mp h).elim (fun q => e q.symm) m]
theorem putK_tab {f : List Nat → V} {b : List Nat} {ks : List (List Nat)} (h : b ∉ ks) : putK (tab f ks) (bK b) (f b) = tab f (ks ++ [b]) := by
  rw [putK_new _ (by rw [valV_tab, if_neg h])]
  unfold tab
  rw [List.map_append]
  rfl
theorem tab_len (f : List Nat → V) (ks : List (List Nat)) : (tab f ks).length = ks.length := List.length_map _
theorem tab_keys (f : List Nat → V) (ks : List (List Nat)) : (tab f ks).map (·.1) = (ks.map zs).map fun b => b.map Sum.inl := by
  unfold tab
  rw [List.map_map, List.map_map]
  rfl
/-! ### tuples that are boards -/
def BdAt (H : Hp) (t : Addr) (b : List Nat) : Prop := H t = some (.tup (bV b))
theorem BdAt.same {H H' : Hp} {t : Addr} {b : List Nat} (s : Same H H') (h : BdAt H t b) : BdAt H' t b := s _ _ h
theorem BdAt.upd {H : Hp} {t l : Addr} {b : List Nat} {o u : HO} (hl : H l = some o) (ho : ∀ ys, HO.tup ys ≠ o) (h : BdAt H t b) : BdAt (upd H l u) t b := by
  unfold BdAt
  rw [upd_ne (ne_of h hl (ho _))]
  exact h
theorem BdAt.key {H : Hp} {t : Addr} {b : List Nat} (h : BdAt H t b) : H t = some (.tup ((bK b).map kV)) := by
  rw [bK_kV]
  exact h
theorem paired_last {α β : Type} {F : α → β → Prop} : ∀ {m : List β} {l : List α} {y : β}, Paired F l (m ++ [y]) → ∃ l0 x, l = l0 ++ [x] ∧ Paired F l0 m ∧ F x y
  | [], _, _, .cons h .nil => ⟨[], _, rfl, .nil, h⟩
  | _ :: m, _, _, .cons h t => by
    obtain ⟨l0, x, rfl, r, q⟩ := paired_last (m := m) t
    exact ⟨_ :: l0, x, rfl, .cons h r, q⟩
theorem paired_nil {α β : Type} {F : α → β → Prop} {l : List α} (h : Paired F l []) : l = [] := by
  cases h
  rfl
theorem ref_at {ts : List Addr} {i : Nat} {x : V} (h : (ts.map V.ref)[i]? = some x) : ∃ t, ts[i]? = some t ∧ x = .ref t := by
  rw [List.getElem?_map] at h
  cases e : ts[i]? with
  | none =>
    rw [e] at h
    cases h
  | some t =>
    rw [e] at h
    exact ⟨t, rfl, (Option.some.inj h).symm⟩
theorem take_at {α : Type} {l : List α} {i : Nat} {x : α} (h : l[i]? = some x) : l.take (i + 1) = l.take i ++ [x] := by
  rw [List.take_add_one, h]
  rfl
def grV (X : Pits) (k : List Nat) : V := .int (X.gr k : Nat)
def spBy (K : PySem.W.Frag) : Sp := fun vs H Q _ => ∃ (a c : Addr) (b : List Nat) (X : Pits), vs = [.ref a, .ref c] ∧ SqL K H a (bV b) ∧ SqL K H c (bV X.bar) ∧ Bd X b ∧ okB X.n X.S = true ∧
  ∀ H' d ks, Same H H' → H d = none → H' d = some (.dT (tab (grV X) ks)) → ks.Nodup → (∀ k, k ∈ ks ↔ Rch X b k) → Q (.ref d) H'
section
variable {P : Program} {w : World} {K : PySem.W.Frag} {mg : Str → Option Value} {base : Heap}
theorem scBy : FnScope ["board", "barred", "table", "line", "after", "waiting", "pair", "one"] ["board", "barred"] (defScope sBy) := ⟨rfl, rfl, rfl, by decide +kernel, rfl, by decide +kernel, by decide +kernel⟩
/-- what holds between two turns -/
def ByW (X : Pits) (s : List Nat) (a c d l : Addr) (H : Hp) (m : Nat) (σ : L2.St) (H' : Hp) : Prop := ∃ (v4 v5 : Option V) (ts : List Addr) (ls ks : List (List Nat)),
  σ = [some (.ref a), some (.ref c), some (.ref d), some (.ref l), v4, v5, none, none] ∧ Same H H' ∧ H' d = some (.dT (tab (grV X) ks)) ∧ H' l = some (.lst (ts.map V.ref)) ∧ Paired (BdAt H') ts ls ∧ DS X s ls ks ∧ m = dsM X ls ks
theorem k_by (T : Txt mg) (D : DefAt K mg "worths_by" sBy ["board", "barred"]) (G : Kept P w K mg base 5 "free_sowings" ["board", "barred"] (spFree K)) (GL : Kept P w K mg base 1 "least_lacking" ["numbers"] (spLeast K)) :
    Kept P w K mg base 6 "worths_by" ["board", "barred"] (spBy K) := by
  refine .mk' D fun f fd F => F.ok scBy (fun vs H Q E h => ?_) (fun cdv A outer s H vs Q E hr h => ?_)
  · obtain ⟨a, c, b, X, rfl, _⟩ := h
    rfl
  · obtain ⟨a, c, s0, X, rfl, hS, hC, hs, ok, q⟩ := h
    have nd := scBy.nd
    have hu := hu_of hr
    have hr1 : Room 1 _ := hr.mono (by decide)
    refine ⟨_, pss_cons (ps_set (i := 2) nd rfl (.inr rfl) pe_dnewT)
      (pss_cons (ps_set (i := 3) nd rfl (.inl rfl) (pe_lst (pa_cons (pe_callTy call_tuple_of (by rfl) T.ztuple boot_tuple (pa_cons (pv 0) pa_nil)) pa_nil)))
      (pss_cons (ps_while PassesOwn.never (pt_cmpR op_gt (pe_callB call_len_seq (by rfl) T.zlen PySem.boot_len (pa_cons (pv 3) pa_nil)) pe_int (nomark _))
        (pss_cons (ps_setLc (i := 4) (own := [("pair", 6)]) (g := gName 6) (tt := tYes) (by rfl) nd rfl rfl (sw_true rfl rfl rfl (by decide +kernel))
          (pi_list (pe_kept G hr (pa_cons (pe_ix ix_list (pv 3) (pe_un un_neg pe_int) (fun _ _ => rfl)) (pa_cons (pv 1) pa_nil))))
          (blkOk_by (own := [("pair", 6)]) (N := ["board", "barred", "table", "line", "after", "waiting", "pair", "one"]) (sc := defScope sBy) (by decide +kernel))
          (fun _ _ _ _ _ => pg_name (i := 6) nd rfl (.inl rfl)) (fun _ _ _ _ _ => pts_nil) (fun _ _ _ _ _ => pe_ix (r := rIxT K) ix_tup (pv 6) pe_int (fun _ _ => rfl)))
        (pss_cons (ps_setLc (i := 5) (own := [("one", 7)]) (g := gName 7) (by rfl) nd rfl rfl (sw_true rfl rfl rfl (by decide +kernel)) (pi_list (pv 4))
          (blkOk_by (own := [("one", 7)]) (N := ["board", "barred", "table", "line", "after", "waiting", "pair", "one"]) (sc := defScope sBy) (by decide +kernel))
          (fun _ _ _ _ _ => pg_name (i := 7) nd rfl (.inl rfl)) (fun _ _ _ _ _ => pts_one (pt_cmp (pc_dnotin hu (pv 7) (pv 2)))) (fun _ _ _ _ _ => pv 7))
        (pss_one (ps_if (pt_cmpR op_gt (pe_callB call_len_seq (by rfl) T.zlen PySem.boot_len (pa_cons (pv 5) pa_nil)) pe_int (nomark _))
          (pss_one (ps_expr (pe_bm PySem.F.plainAttrs_list PySem.F.slot_list_append PySem.F.type_list_append mt_append (pv 3) (pa_cons (pe_ix ix_list (pv 5) pe_int (fun _ _ => rfl)) pa_nil))))
          (pss_cons (ps_dput hu (pv 2) (pe_ix ix_list (pv 3) (pe_un un_neg pe_int) (fun _ _ => rfl)) (pe_kept GL hr1 (pa_cons (pe_lc (own := [("one", 7)]) (g := gName 7) (tt := tYes) (by rfl) nd (pi_list (pv 4))
              (blkOk_by (own := [("one", 7)]) (N := ["board", "barred", "table", "line", "after", "waiting", "pair", "one"]) (sc := defScope sBy) (by decide +kernel))
              (fun _ _ _ _ _ => pg_name (i := 7) nd rfl (.inl rfl)) (fun _ _ _ _ _ => pts_nil) (fun _ _ _ _ _ => pe_dget hu (pv 2) (pv 7) (fun _ _ => rfl))) pa_nil)) rfl)
          (pss_one (ps_expr (pe_bm0 PySem.F.plainAttrs_list PySem.F.slot_list_pop PySem.F.type_list_pop mt_pop (pv 3))))))))))
      (pss_one (ps_ret (pv 2))))), ?_⟩
    obtain ⟨n1, n2, n3⟩ := okB_lt ok
    -- table = {}
    intro d hd
    have sd : Same H (upd H d (.dT [])) := same_upd hd
    -- line = [tuple(board)]
    refine ⟨_, rfl, a, _, rfl, .inl ⟨sd.seq hS, fun t0 ht0 => ⟨(by show 1 ≤ sizeLine; decide), fun l hl => ?_⟩⟩⟩
    have st0 := same_upd (o := .tup (bV s0)) ht0
    have sl0 := same_upd (o := .lst [.ref t0]) hl
    have dl0 : d ≠ l := ne_of_none (st0 _ _ upd_same) hl
    have hl0 : H l = none := (sd.trans st0).free hl
    refine ⟨ByW X s0 a c d l H, ⟨_, none, none, [t0], [s0], [], rfl, sd.trans (st0.trans sl0), st0.trans sl0 _ _ upd_same, upd_same, .cons (sl0 _ _ upd_same) .nil, DS.start ok hs, rfl⟩, ?_⟩
    rintro m σ H' ⟨v4, v5, ts, ls, ks, rfl, sm, hd', hl', hp, ds, rfl⟩
    refine ⟨_, rfl, l, _, rfl, .inl (.of hl'), _, _, rfl, rfl, _, rfl, ?_⟩
    have hk := ds.ks_len ok hs
    have hls := ds.ls_len ok hs
    rcases List.eq_nil_or_concat ls with rfl | ⟨l0, b, el⟩
    · obtain rfl := paired_nil hp
      refine dF (by decide) ⟨_, rfl, q H' d ks sm hd hd' (ds.done ok hs).1 (ds.done ok hs).2⟩
    · rw [List.concat_eq_append] at el
      subst el
      obtain ⟨ts0, t, rfl, hp0, ht⟩ := paired_last hp
      have hb : Bd X b := (ds.rl b (List.mem_append.mpr (.inr List.mem_cons_self))).bd hs
      have hbl := hb.len
      have hbs := hb.sum
      have lts := Paired.length hp
      have sv : atI ((ts0 ++ [t]).map V.ref) (-1) = some (.ref t) := by
        rw [List.map_append]
        exact atI_last _ _
      refine dT (by rw [List.length_map, List.length_append]; show (0 : Int) < ((_ + 1 : Nat) : Int); omega)
        ⟨fun σ' H2 => ∃ m', m' < dsM X (l0 ++ [b]) ks ∧ ByW X s0 a c d l H m' σ' H2, fun _ _ z => z, ?_⟩
      -- after = [..]
      refine ⟨_, rfl, _, rfl, l, _, _, _, rfl, rfl, .of hl', sv, _, rfl, t, c, b, X.bar, rfl, .of ht, sm.seq hC, ⟨by omega, by omega, by omega⟩, fun H1 u us s1 nu hu1 hpr => ?_⟩
      refine ⟨u, rfl, ⟨_, .of hu1⟩, fun A1 hA1 => lc_list (K := K) (a := u) (xs := us.map V.ref)
        (fun i H2 => Same H1 H2 ∧ ∃ ws : List Addr, H2 A1 = some (.lst (ws.map V.ref)) ∧ ws.length ≤ i ∧ Paired (BdAt H2) ws ((((List.range b.length).filter (free X.bar b)).take i).map (sow b)))
        ⟨same_upd hA1, [], upd_same, Nat.le_refl _, .nil⟩ (fun i H2 _ ⟨s2, _⟩ => s2.seq (.of hu1)) ?_ ?_⟩
      · rintro i x H2 hx ⟨s2, ws, h1, h3, h2⟩
        obtain ⟨t', ht', rfl⟩ := ref_at hx
        obtain ⟨p, hpi, hpr'⟩ := paired_get hpr ht'
        obtain ⟨cc, g1, g2⟩ := hpr'.same s2
        have e1 := Paired.length hpr
        have e2 := List.length_filter_le (free X.bar b) (List.range b.length)
        have e3 := (List.getElem?_eq_some_iff.mp ht').1
        rw [List.length_range] at e2
        refine ⟨rfl, _, rfl, t', _, 1, _, rfl, rfl, .of g1, rfl, _, h1, ?_, same_new s2 hA1, ws ++ [cc], ?_, ?_, ?_⟩
        · rw [List.length_map]
          exact len_line (K := K) (by omega)
        · rw [upd_same, List.map_append]
          rfl
        · rw [List.length_append]
          show ws.length + 1 ≤ i + 1
          omega
        · rw [take_at hpi, List.map_append]
          exact L2.Paired.mapP (paired_snoc h2 (show BdAt H2 cc (sow b p) from g2)) fun t y h => h.upd h1 fun ys e => nomatch e
      · rintro H2 ⟨s2, ws, hA2, _, hpw⟩
        have hpw : Paired (BdAt H2) ws (X.nx b) := by
          rw [List.length_map, Paired.length hpr, List.take_length] at hpw
          exact hpw
        have s12 : Same H' H2 := s1.trans s2
        -- waiting = [..]
        refine ⟨_, rfl, A1, rfl, ⟨_, .of hA2⟩, fun W1 hW1 => lc_list (K := K) (a := A1) (xs := ws.map V.ref)
          (fun i H3 => Same H2 H3 ∧ ∃ vs : List Addr, H3 W1 = some (.lst (vs.map V.ref)) ∧ vs.length ≤ i ∧ Paired (BdAt H3) vs (((X.nx b).take i).filter fun y => !decide (y ∈ ks)))
          ⟨same_upd hW1, [], upd_same, Nat.le_refl _, .nil⟩ (fun i H3 _ ⟨s3, _⟩ => s3.seq (.of hA2)) ?_ ?_⟩
        · rintro i x H3 hx ⟨s3, vs, h1, h3, h2⟩
          obtain ⟨t', ht', rfl⟩ := ref_at hx
          obtain ⟨y, hyi, hy⟩ := paired_get hpw ht'
          have hy3 := hy.same s3
          have e1 := Paired.length hpw
          have e2 : (X.nx b).length ≤ b.length := by
            unfold Pits.nx succs
            rw [List.length_map]
            have := List.length_filter_le (free X.bar b) (List.range b.length)
            rwa [List.length_range] at this
          have e3 := (List.getElem?_eq_some_iff.mp ht').1
          refine ⟨rfl, _, rfl, _, rfl, d, _, rfl, .t (k := bK y) (s3 _ _ (s12 _ _ hd')) hy3.key, _, rfl, ?_⟩
          rw [valV_tab]
          by_cases my : y ∈ ks
          · rw [if_pos my]
            refine ⟨s3, vs, h1, by omega, ?_⟩
            rw [take_at hyi, List.filter_append, filter_none (by rw [decide_eq_true my]; rfl), List.append_nil]
            exact h2
          · rw [if_neg my]
            refine ⟨_, rfl, _, h1, ?_, same_new s3 hW1, vs ++ [t'], ?_, ?_, ?_⟩
            · rw [List.length_map]
              exact len_line (K := K) (by omega)
            · rw [upd_same, List.map_append]
              rfl
            · rw [List.length_append]
              show vs.length + 1 ≤ i + 1
              omega
            · rw [take_at hyi, List.filter_append, filter_one (by rw [decide_eq_false my]; rfl)]
              exact L2.Paired.mapP (paired_snoc h2 hy3) fun t y h => h.upd h1 fun ys e => nomatch e
        · rintro H3 ⟨s3, vs, hW3, _, hpv⟩
          rw [List.length_map, Paired.length hpw, List.take_length] at hpv
          have s13 : Same H' H3 := s12.trans s3
          have hd3 := s13 _ _ hd'
          have hl3 := s13 _ _ hl'
          have hA3 := s3 _ _ hA2
          have hp3 : Paired (BdAt H3) ts0 l0 := L2.Paired.mapP hp0 fun t y h => h.same s13
          have ht3 : BdAt H3 t b := ht.same s13
          have hpw3 : Paired (BdAt H3) ws (X.nx b) := L2.Paired.mapP hpw fun t y h => h.same s3
          have sm3 : Same H H3 := sm.trans s13
          -- if len(waiting) > 0
          refine ⟨_, rfl, W1, _, rfl, .inl (.of hW3), _, _, rfl, rfl, _, rfl, ?_⟩
          cases hw : (X.nx b).filter fun y => !decide (y ∈ ks) with
          | nil =>
            rw [hw] at hpv
            obtain rfl := paired_nil hpv
            have hall : ∀ y ∈ X.nx b, y ∈ ks := fun y hy => by
              have z := List.filter_eq_nil_iff.mp hw y hy
              by_cases my : y ∈ ks
              · exact my
              · exact absurd (by rw [decide_eq_false my]; rfl) z
            refine dF (by decide) ?_
            -- table[line[-1]] = ..
            refine ⟨_, rfl, A1, rfl, ⟨_, .of hA3⟩, fun G1 hG1 => lc_list (K := K) (a := A1) (xs := ws.map V.ref) (fun i H4 => H4 = upd H3 G1 (.lst (bV (((X.nx b).take i).map X.gr)))) rfl
              (fun i H4 _ e => by rw [e]; exact (same_upd hG1).seq (.of hA3)) ?_ ?_⟩
            · rintro i x H4 hx rfl
              obtain ⟨t', ht', rfl⟩ := ref_at hx
              obtain ⟨y, hyi, hy⟩ := paired_get hpw3 ht'
              have s4 := same_upd (o := .lst (bV (((X.nx b).take i).map X.gr))) hG1
              have ev : valV (tab (grV X) ks) (bK y) = some (grV X y) := by rw [valV_tab, if_pos (hall y (List.mem_of_getElem? hyi))]
              have e1 := Paired.length hpw3
              have e2 : (X.nx b).length ≤ b.length := by
                unfold Pits.nx succs
                rw [List.length_map]
                have := List.length_filter_le (free X.bar b) (List.range b.length)
                rwa [List.length_range] at this
              refine ⟨rfl, _, rfl, _, rfl, d, grV X y, rfl, ?_, _, upd_same, ?_, ?_⟩
              · rw [← ev]
                exact .t (k := bK y) (s4 _ _ hd3) (hy.same s4).key
              · rw [bV_len, List.length_map, List.length_take]
                exact len_line (K := K) (by omega)
              · rw [upd_upd, take_at hyi, List.map_append]
                unfold grV
                rw [bV_snoc]
                rfl
            · rintro H4 rfl
              rw [List.length_map, Paired.length hpw3, List.take_length]
              refine ⟨G1, _, rfl, .of upd_same, ?_⟩
              rw [← gr_eq hb]
              have s4 := same_upd (o := .lst (bV ((X.nx b).map X.gr))) hG1
              generalize upd H3 G1 (.lst (bV ((X.nx b).map X.gr))) = H4 at s4
              have hd4 := s4 _ _ hd3
              have hl4 := s4 _ _ hl3
              have ht4 : BdAt H4 t b := ht3.same s4
              refine ⟨_, rfl, _, rfl, _, rfl, l, _, _, _, rfl, rfl, .of hl4, sv, d, _, rfl, .t (k := bK b) hd4 ht4.key (by rw [tab_len]; exact len_line (K := K) (by omega)), ?_⟩
              have hn : b ∉ ks := ds.out b (List.mem_append.mpr (.inr List.mem_cons_self))
              rw [show putK (tab (grV X) ks) (bK b) (V.int (X.gr b : Nat)) = tab (grV X) (ks ++ [b]) from putK_tab (f := grV X) hn]
              have hl5 : upd H4 d (.dT (tab (grV X) (ks ++ [b]))) l = some (.lst ((ts0 ++ [t]).map V.ref)) := by
                rw [upd_ne (Ne.symm dl0)]
                exact hl4
              -- line.pop()
              refine ⟨_, rfl, .inl ⟨rfl, _, .of hl5⟩, l, _, .ref t, rfl, rfl, hl5, ?_, ?_⟩
              · rw [List.map_append]
                simp
              · obtain ⟨ds', lt⟩ := ds.pop ok hs hall
                refine ⟨_, lt, _, _, ts0, l0, ks ++ [b], rfl, same_new (same_new (sm3.trans s4) hd) hl0, ?_, ?_, ?_, ds', rfl⟩
                · rw [upd_ne dl0, upd_same]
                · rw [upd_same, List.map_append]
                  simp
                · exact L2.Paired.mapP hp3 fun t' y h => ((h.same s4).upd hd4 fun ys e => nomatch e).upd hl5 fun ys e => nomatch e
          | cons y r =>
            rw [hw] at hpv
            have hym : y ∈ (X.nx b).filter fun y => !decide (y ∈ ks) := by
              rw [hw]
              exact List.mem_cons_self
            obtain ⟨hy1, hy2⟩ := List.mem_filter.mp hym
            have hy3 : y ∉ ks := fun e => by
              rw [decide_eq_true e] at hy2
              exact absurd hy2 (by decide)
            cases hpv with
            | @cons v0 _ vs' _ hv0 _ =>
              refine dT (by rw [List.length_map, List.length_cons]; omega) ?_
              -- line.append(waiting[0])
              refine ⟨_, rfl, .inl ⟨rfl, _, .of hl3⟩, _, rfl, W1, _, _, .ref v0, rfl, rfl, .of hW3, atI_nat (j := 0) rfl, l, _, _, rfl, rfl, hl3, ?_, ?_⟩
              · rw [List.length_map]
                exact len_line (K := K) (by omega)
              · obtain ⟨ds', lt⟩ := ds.push ok hs hy1 hy3
                refine ⟨_, lt, _, _, ts0 ++ [t] ++ [v0], l0 ++ [b] ++ [y], ks, rfl, same_new sm3 hl0, ?_, ?_, ?_, ds', rfl⟩
                · rw [upd_ne dl0]
                  exact hd3
                · rw [upd_same, List.map_append (l₂ := [v0])]
                  rfl
                · exact L2.Paired.mapP (paired_snoc (paired_snoc hp3 ht3) hv0) fun t' y h => h.upd hl3 fun ys e => nomatch e
end
end SwD
namespace SwD
open PySem PySem.Spec PyProof.Rows L2 Sw SwR
abbrev sWorths : Stmt := topS 34
/-- all boards that s leads to, in rising order -/
def RList (X : Pits) (s : List Nat) (bs : List (List Nat)) : Prop := ∃ ks : List (List Nat), ks.Nodup ∧ (∀ k, k ∈ ks ↔ Rch X s k) ∧ bs.map zs = srt (ks.map zs)
theorem map_zs_inj : ∀ {l m : List (List Nat)}, l.map zs = m.map zs → l = m
  | [], [], _ => rfl
  | [], _ :: _, h => by cases h
  | _ :: _, [], h => by cases h
  | a :: l, b :: m, h => by
    rw [List.map_cons, List.map_cons] at h
    obtain ⟨h1, h2⟩ := List.cons.inj h
    rw [zs_inj h1, map_zs_inj h2]
theorem perm_of {α : Type} [DecidableEq α] {l m : List α} (h1 : l.Nodup) (h2 : m.Nodup) (h : ∀ x, x ∈ l ↔ x ∈ m) : l.Perm m := by
  exact (List.perm_ext_iff_of_nodup h1 h2).mpr h
theorem RList.uniq {X : Pits} {s : List Nat} {bs cs : List (List Nat)} (h : RList X s bs) (g : RList X s cs) : bs = cs := by
  obtain ⟨ks, a1, a2, a3⟩ := h
  obtain ⟨ms, b1, b2, b3⟩ := g
  refine map_zs_inj ?_
  rw [a3, b3]
  exact srt_eq ((perm_of a1 b1 fun x => (a2 x).trans (b2 x).symm).map zs)
theorem RList.perm {X : Pits} {s : List Nat} {bs : List (List Nat)} (h : RList X s bs) : bs.Nodup ∧ ∀ k, k ∈ bs ↔ Rch X s k := by
  obtain ⟨ks, a1, a2, a3⟩ := h
  have p : (bs.map zs).Perm (ks.map zs) := by
    rw [a3]
    exact srt_perm _
  have nz : (ks.map zs).Nodup := by
    unfold List.Nodup
    rw [List.pairwise_map]
    exact a1.imp fun h e => h (zs_inj e)
  have nb : (bs.map zs).Nodup := p.nodup_iff.mpr nz
  refine ⟨?_, fun k => ?_⟩
  · unfold List.Nodup at nb
    rw [List.pairwise_map] at nb
    exact nb.imp fun h e => h (congrArg zs e)
  · rw [← a2 k]
    have e : zs k ∈ bs.map zs ↔ zs k ∈ ks.map zs := p.mem_iff
    constructor
    · intro m
      obtain ⟨x, hx, ex⟩ := List.mem_map.mp (e.mp (List.mem_map.mpr ⟨k, m, rfl⟩))
      rw [← zs_inj ex]
      exact hx
    · intro m
      obtain ⟨x, hx, ex⟩ := List.mem_map.mp (e.mpr (List.mem_map.mpr ⟨k, m, rfl⟩))
      rw [← zs_inj ex]
      exact hx
/-- lists of whole numbers that are boards -/
theorem unz : ∀ {l : List (List Int)}, (∀ x ∈ l, ∃ b, x = zs b) → ∃ bs : List (List Nat), l = bs.map zs
  | [], _ => ⟨[], rfl⟩
  | x :: l, h => by
    obtain ⟨b, rfl⟩ := h x List.mem_cons_self
    obtain ⟨bs, rfl⟩ := unz (l := l) fun y hy => h y (List.mem_cons_of_mem _ hy)
    exact ⟨b :: bs, rfl⟩
theorem srt_boards (ks : List (List Nat)) : ∃ bs : List (List Nat), srt (ks.map zs) = bs.map zs := unz fun x hx => by
  obtain ⟨b, _, e⟩ := List.mem_map.mp ((srt_perm (ks.map zs)).mem_iff.mp hx)
  exact ⟨b, e.symm⟩
theorem bds_of {H : Hp} : ∀ {M : List (Addr × List Int)} {bs : List (List Nat)}, M.map (·.2) = bs.map zs → (∀ q ∈ M, H q.1 = some (.tup (q.2.map V.int))) → Paired (BdAt H) (M.map (·.1)) bs
  | [], [], _, _ => .nil
  | [], _ :: _, h, _ => by cases h
  | _ :: _, [], h, _ => by cases h
  | q :: M, b :: bs, h, g => by
    rw [List.map_cons, List.map_cons] at h
    obtain ⟨h1, h2⟩ := List.cons.inj h
    refine .cons ?_ (bds_of h2 fun r hr => g r (List.mem_cons_of_mem _ hr))
    have e := g q List.mem_cons_self
    rw [h1] at e
    exact e
theorem paired_mem {α β : Type} {F G : α → β → Prop} : ∀ {l : List α} {m : List β}, Paired F l m → (∀ x y, x ∈ l → F x y → G x y) → Paired G l m
  | _, _, .nil, _ => .nil
  | _, _, .cons h t, g => .cons (g _ _ List.mem_cons_self h) (paired_mem t fun x y hx => g x y (List.mem_cons_of_mem _ hx))
/-- a told pair: a board as a list, and its worth -/
def FdAt (f : List Nat → Nat) (H : Hp) (r : Addr × Addr) (b : List Nat) : Prop := H r.1 = some (.tup [.ref r.2, .int (f b : Nat)]) ∧ H r.2 = some (.lst (bV b))
theorem FdAt.same {f : List Nat → Nat} {H H' : Hp} {r : Addr × Addr} {b : List Nat} (s : Same H H') (h : FdAt f H r b) : FdAt f H' r b := ⟨s _ _ h.1, s _ _ h.2⟩
abbrev rListOf (K : PySem.W.Frag) : List V → Hp → VK → Prop := fun xs H Q => ∃ p ys, xs = [.ref p] ∧ (SqL K H p ys ∨ SqT K H p ys) ∧ ∀ l, H l = none → Q (.ref l) (upd H l (.lst ys))
abbrev refs1 (rs : List (Addr × Addr)) : List V := rs.map fun r => V.ref r.1
structure Told (X : Pits) (s : List Nat) (H H' : Hp) (l : Addr) (rs : List (Addr × Addr)) (bs : List (List Nat)) : Prop where
  same : Same H H'
  new : H l = none
  lst : H' l = some (.lst (refs1 rs))
  all : Paired (FdAt X.gr H') rs bs
  rl : RList X s bs
  nd : (rs.map (·.2)).Nodup
  news : ∀ r ∈ rs, H r.1 = none ∧ H r.2 = none ∧ r.2 ≠ l
def spWorths (K : PySem.W.Frag) : Sp := fun vs H Q _ => ∃ (a c : Addr) (b : List Nat) (X : Pits), vs = [.ref a, .ref c] ∧ SqL K H a (bV b) ∧ SqL K H c (bV X.bar) ∧ Bd X b ∧ Barred X.n X.bar ∧ okB X.n X.S = true ∧
  ∀ H' l rs bs, Told X b H H' l rs bs → Q (.ref l) H'
section
variable {P : Program} {w : World} {K : PySem.W.Frag} {mg : Str → Option Value} {base : Heap}
theorem scWorths : FnScope ["board", "barred", "table", "one"] ["board", "barred"] (defScope sWorths) := ⟨rfl, rfl, rfl, by decide +kernel, rfl, by decide +kernel, by decide +kernel⟩
theorem k_worths (T : Txt mg) (D : DefAt K mg "worths" sWorths ["board", "barred"]) (GA : Kept P w K mg base 4 "ask_all" ["board", "barred"] (spAskAll K)) (GB : Kept P w K mg base 6 "worths_by" ["board", "barred"] (spBy K)) :
    Kept P w K mg base 7 "worths" ["board", "barred"] (spWorths K) := by
  refine .mk' D fun f fd F => F.ok scWorths (fun vs H Q E h => ?_) (fun cdv A outer s H vs Q E hr h => ?_)
  · obtain ⟨a, c, b, X, rfl, _⟩ := h
    rfl
  · obtain ⟨a, c, s0, X, rfl, hS, hC, hs, hbar, ok, q⟩ := h
    have nd := scWorths.nd
    have hu := hu_of hr
    refine ⟨_, pss_cons (ps_expr (pe_kept GA (hr.mono (by decide)) (pa_cons (pv 0) (pa_cons (pv 1) pa_nil))))
      (pss_cons (ps_set (i := 2) nd rfl (.inr rfl) (pe_kept GB hr (pa_cons (pv 0) (pa_cons (pv 1) pa_nil))))
      (pss_one (ps_ret (pe_lc (own := [("one", 3)]) (g := gName 3) (tt := tYes) (by rfl) nd (pi_list (pe_callB (cr_sortDT rfl hr.units) (by rfl) T.zsorted boot_sorted (pa_cons (pv 2) pa_nil)))
        (blkOk_by (own := [("one", 3)]) (N := ["board", "barred", "table", "one"]) (sc := defScope sWorths) (by decide +kernel))
        (fun _ _ _ _ _ => pg_name (i := 3) nd rfl (.inl rfl)) (fun _ _ _ _ _ => pts_nil)
        (fun _ _ _ _ _ => pe_tup (pa_cons (pe_callTy (r := rListOf K) call_list_of (by rfl) T.zlist boot_list (pa_cons (pv 3) pa_nil)) (pa_cons (pe_dget hu (pv 2) (pv 3) (fun _ _ => rfl)) pa_nil))))))), ?_⟩
    obtain ⟨n1, n2, n3⟩ := okB_lt ok
    have hbl := hs.len
    have hbs := hs.sum
    refine ⟨_, rfl, _, rfl, a, c, s0, X.bar, rfl, hS, hC, by rw [hbl]; exact hbar, by rw [hbl, hbs]; exact ok, ?_⟩
    refine ⟨_, rfl, _, rfl, a, c, s0, X, rfl, hS, hC, hs, ok, fun H1 d ks s1 nd1 hd hk1 hk2 => ?_⟩
    have hbd : ∀ k ∈ ks, Bd X k := fun k hk => ((hk2 k).mp hk).bd hs
    -- sorted(table)
    refine ⟨_, rfl, d, _, ks.map zs, rfl, .of hd, tab_keys _ _, fun b hb => ?_, fun M u hM hMs hu1 => ?_⟩
    · obtain ⟨k, hk, rfl⟩ := List.mem_map.mp hb
      intro e
      have e1 := congrArg List.length e
      rw [zs_len, (hbd k hk).len] at e1
      have e2 : X.n = 0 := e1
      omega
    obtain ⟨bs, ebs⟩ := srt_boards ks
    have hbds : Paired (BdAt H1) (M.map (·.1)) bs := bds_of (hM.trans ebs) hMs
    have rl : RList X s0 bs := ⟨ks, hk1, hk2, ebs.symm⟩
    have lks : bs.length ≤ 1000 := bds_len ok rl.perm.1 fun b hb => ((rl.perm.2 b).mp hb).bd hs
    have lM := Paired.length hbds
    have eM : (M.map fun q => V.ref q.1) = (M.map (·.1)).map V.ref := by rw [List.map_map]; rfl
    rw [eM]
    generalize M.map (·.1) = ts at hbds lM
    have su := same_upd (o := .lst (ts.map V.ref)) hu1
    generalize hH2 : upd H1 u (.lst (ts.map V.ref)) = H2 at su
    have hu2 : H2 u = some (.lst (ts.map V.ref)) := by rw [← hH2, upd_same]
    have s2 := s1.trans su
    refine ⟨u, rfl, ⟨_, .of hu2⟩, fun l hl => lc_list (K := K) (a := u) (xs := ts.map V.ref)
      (fun i H' => Same H2 H' ∧ ∃ rs : List (Addr × Addr), H' l = some (.lst (refs1 rs)) ∧ rs.length = i ∧ Paired (FdAt X.gr H') rs (bs.take i) ∧ (rs.map (·.2)).Nodup ∧ ∀ r ∈ rs, H r.1 = none ∧ H r.2 = none ∧ r.2 ≠ l)
      ⟨same_upd hl, [], upd_same, rfl, .nil, List.nodup_nil, fun _ h => nomatch h⟩ (fun i H' _ ⟨s3, _⟩ => s3.seq (.of hu2)) ?_ ?_⟩
    · rintro i x H' hx ⟨s3, rs, h1, h2, h3, h4, h5⟩
      obtain ⟨t, ht, rfl⟩ := ref_at hx
      obtain ⟨b, hbi, hb⟩ := paired_get hbds ht
      have hi := (List.getElem?_eq_some_iff.mp ht).1
      have hb' : BdAt H' t b := (hb.same su).same s3
      have hd' := s3 _ _ (su _ _ hd)
      have hmem : b ∈ ks := (hk2 b).mpr ((rl.perm.2 b).mp (List.mem_of_getElem? hbi))
      refine ⟨rfl, _, rfl, t, _, rfl, .inr (.of hb'), fun e he => ?_⟩
      have s4 := same_upd (o := .lst (bV b)) he
      have ev : valV (tab (grV X) ks) (bK b) = some (grV X b) := by rw [valV_tab, if_pos hmem]
      refine ⟨_, rfl, _, rfl, d, grV X b, rfl, by rw [← ev]; exact .t (k := bK b) (s4 _ _ hd') (hb'.same s4).key, (by show 2 ≤ sizeLine; decide), fun p hp => ?_⟩
      have s5 := same_upd (o := .tup [.ref e, grV X b]) hp
      have hel : e ≠ l := Ne.symm (ne_of_none h1 he)
      have hpe : p ≠ e := Ne.symm (ne_of_none (upd_same (H := H') (a := e) (o := .lst (bV b))) hp)
      have s6 := s4.trans s5
      have hl6 := s6 _ _ h1
      have he6 := s5 _ _ (upd_same (H := H') (a := e) (o := .lst (bV b)))
      have hpl : p ≠ l := Ne.symm (ne_of_none (s4 _ _ h1) hp)
      have he0 : H e = none := s2.free (s3.free he)
      have hp0 : H p = none := s2.free (s3.free (s4.free hp))
      generalize hH6 : upd (upd H' e (.lst (bV b))) p (.tup [.ref e, grV X b]) = H6 at s5 s6 hl6 he6
      have hp6 : H6 p = some (.tup [.ref e, grV X b]) := by rw [← hH6, upd_same]
      refine ⟨_, hl6, ?_, ?_⟩
      · unfold refs1
        rw [List.length_map]
        exact len_line (K := K) (by omega)
      · have up : ∀ (r : Addr × Addr) (y : List Nat) (o : HO), r.2 ≠ l → FdAt X.gr H6 r y → FdAt X.gr (upd H6 l o) r y := fun r y o n g => by
          refine ⟨?_, ?_⟩
          · rw [upd_ne (ne_of g.1 hl6 (fun z => nomatch z))]
            exact g.1
          · rw [upd_ne n]
            exact g.2
        refine ⟨same_new (s3.trans s6) hl, rs ++ [(p, e)], ?_, ?_, ?_, ?_, ?_⟩
        · rw [upd_same]
          unfold refs1
          rw [List.map_append]
          rfl
        · rw [List.length_append, h2]
          rfl
        · rw [take_at hbi]
          have h3' : ∀ r ∈ rs, r.2 ≠ l := fun r hr => (h5 r hr).2.2
          have g3 : Paired (FdAt X.gr H6) (rs ++ [(p, e)]) (bs.take i ++ [b]) := paired_snoc (L2.Paired.mapP h3 fun r y h => h.same s6) ⟨hp6, he6⟩
          exact paired_mem g3 fun r y hr g => up r y _ (by
            rcases List.mem_append.mp hr with h | h
            · exact h3' r h
            · rw [List.mem_singleton.mp h]
              exact hel) g
        · rw [List.map_append]
          refine List.nodup_append.mpr ⟨h4, by simp, fun x hx y hy e' => ?_⟩
          obtain ⟨r, hr, rfl⟩ := List.mem_map.mp hx
          have ey : y = e := by simpa using hy
          obtain ⟨j, hj⟩ := List.getElem?_of_mem hr
          obtain ⟨z, _, hz⟩ := paired_get h3 hj
          exact ne_of_none hz.2 he (e'.trans ey)
        · intro r hr
          rcases List.mem_append.mp hr with h | h
          · exact h5 r h
          · rw [List.mem_singleton.mp h]
            exact ⟨hp0, he0, hel⟩
    · rintro H' ⟨s3, rs, h1, h2, h3, h4, h5⟩
      rw [List.length_map, lM, List.take_length] at h3
      exact q H' l rs bs ⟨s2.trans s3, s2.free hl, h1, h3, rl, h4, h5⟩
end
end SwD
namespace SwD
open PySem PySem.Spec PyProof.Rows L2 Sw SwR
/-! ### numbers from 0 on -/
section
variable {X : Cx}
theorem pe_nat (n : Nat) {i : Int} {j : Nat} {pos : Pos} (h : i = (n : Int) := by rfl) : PE X (.Constant (.int i) j pos) (tC (.int (n : Int))) := by
  subst h
  exact pe_int
def rNadd : R2 := fun x y H Q => ∃ i j : Nat, x = .int (i : Int) ∧ y = .int (j : Int) ∧ Q (.int (i + j : Nat)) H
def rNmul : R2 := fun x y H Q => ∃ i j : Nat, x = .int (i : Int) ∧ y = .int (j : Int) ∧ (i < 2 ^ 64 ∨ j < 2 ^ 64) ∧ Q (.int (i * j : Nat)) H
def rNdiv : R2 := fun x y H Q => ∃ i j : Nat, x = .int (i : Int) ∧ y = .int (j : Int) ∧ (0 < j ∧ j < 1000000) ∧ Q (.int (i / j : Nat)) H
def rNmod : R2 := fun x y H Q => ∃ i j : Nat, x = .int (i : Int) ∧ y = .int (j : Int) ∧ 0 < j ∧ Q (.int (i % j : Nat)) H
theorem on_add : OpR X (binaryOp .Add) rNadd := by
  intro pins s σ H x y v u Q I rx ry h
  obtain ⟨i, j, e1, e2, q⟩ := h
  exact op_add pins s σ H x y v u Q I rx ry ⟨_, _, e1, e2, q⟩
theorem on_mul : OpR X (binaryOp .Mult) rNmul := by
  intro pins s σ H x y v u Q I rx ry h
  obtain ⟨i, j, e1, e2, c, q⟩ := h
  rw [Int.natCast_mul] at q
  exact op_mul pins s σ H x y v u Q I rx ry ⟨_, _, e1, e2, c.imp (fun c => ⟨by omega, by omega⟩) (fun c => ⟨by omega, by omega⟩), q⟩
theorem on_div : OpR X (binaryOp .FloorDiv) rNdiv := by
  intro pins s σ H x y v u Q I rx ry h
  obtain ⟨i, j, e1, e2, c, q⟩ := h
  rw [← fdiv_nat] at q
  exact op_fdivN pins s σ H x y v u Q I rx ry ⟨_, _, e1, e2, ⟨by omega, by omega⟩, q⟩
theorem on_mod : OpR X (binaryOp .Mod) rNmod := by
  intro pins s σ H x y v u Q I rx ry h
  obtain ⟨i, j, e1, e2, c, q⟩ := h
  rw [← fmod_nat] at q
  exact op_modN pins s σ H x y v u Q I rx ry ⟨_, _, e1, e2, by omega, q⟩
theorem ipn_add : PIp X .Add (fun x y H Q => ∃ i j : Nat, x = .int (i : Int) ∧ y = .int (j : Int) ∧ Q (.int (i + j : Nat)) H) := by
  intro pins s σ H x y v u Q I rx ry h
  obtain ⟨i, j, e1, e2, q⟩ := h
  exact ip_add pins s σ H x y v u Q I rx ry ⟨_, _, e1, e2, q⟩
/-- a cell of a list of such numbers -/
def rIxN (K : PySem.W.Frag) : R2 := fun x y H Q => ∃ (p : Addr) (b : List Nat) (i : Nat), x = .ref p ∧ y = .int (i : Int) ∧ (SqL K H p (bV b)) ∧ i < b.length ∧ Q (.int (b.getD i 0 : Nat)) H
theorem ixn_list : IxR X (rIxN X.K) := by
  intro value slice pins s σ H x y v u Q I rx ry h hs
  obtain ⟨p, b, i, e1, e2, h1, h2, q⟩ := h
  exact ix_list value slice pins s σ H x y v u Q I rx ry ⟨p, _, _, _, e1, e2, h1, atI_nat (bV_at h2), q⟩ hs
def rIxNT (K : PySem.W.Frag) : R2 := fun x y H Q => ∃ (p : Addr) (b : List Nat) (i : Nat), x = .ref p ∧ y = .int (i : Int) ∧ (SqT K H p (bV b)) ∧ i < b.length ∧ Q (.int (b.getD i 0 : Nat)) H
theorem ixn_tup : IxR X (rIxNT X.K) := by
  intro value slice pins s σ H x y v u Q I rx ry h hs
  obtain ⟨p, b, i, e1, e2, h1, h2, q⟩ := h
  exact ix_tup value slice pins s σ H x y v u Q I rx ry ⟨p, _, _, _, e1, e2, h1, atI_nat (bV_at h2), q⟩ hs
def rGetN (K : PySem.W.Frag) : V → V → Hp → VK → Prop := fun x y H Q => ∃ (p : Addr) (b : List Nat) (i : Nat), x = .ref p ∧ y = .int (i : Int) ∧ (SqL K H p (bV b)) ∧ i < b.length ∧ Q (.int (b.getD i 0 : Nat)) H
theorem getn_list : PGet X (rGetN X.K) := by
  intro pins s σ H o i ov iv Q I ro ri h
  obtain ⟨p, b, j, e1, e2, h1, h2, q⟩ := h
  exact get_list pins s σ H o i ov iv Q I ro ri ⟨p, _, j, _, e1, e2, h1, bV_at h2, q⟩
def rSetN : V → V → V → Hp → (Hp → Prop) → Prop := fun o i v H Q => ∃ (p : Addr) (b : List Nat) (j y : Nat), o = .ref p ∧ i = .int (j : Int) ∧ v = .int (y : Int) ∧ H p = some (.lst (bV b)) ∧ j < b.length ∧ Q (upd H p (.lst (bV (b.set j y))))
theorem setn_list : PSet X rSetN := by
  intro pins s σ H o i v ov iv u Q I ro ri rv h
  obtain ⟨p, b, j, y, e1, e2, e3, h1, h2, q⟩ := h
  exact set_list pins s σ H o i v ov iv u Q I ro ri rv ⟨p, _, _, j, e1, e2, h1, by rw [bV_len]; exact ixN_nat h2, by rw [e3, bV_set]; exact q⟩
end
theorem lenn {X : Cx} : CallR X (.builtin "len") (fun xs H Q => ∃ (p : Addr) (b : List Nat), xs = [.ref p] ∧ (SqL X.K H p (bV b) ∨ SqT X.K H p (bV b)) ∧ Q (.int (b.length : Nat)) H) := by
  intro pins s σ H xs us Q I r h
  obtain ⟨p, b, e, h1, q⟩ := h
  exact call_len_seq pins s σ H xs us Q I r ⟨p, _, e, h1, by rw [bV_len]; exact q⟩
/-- for k in range(n): k a number from 0 on -/
theorem for_rangeN {j : Int} {n : Nat} (he : j.toNat = n) {g : TG} {tb : TS} {D : Ends} {σ : L2.St} {H : Hp} (Pv : Nat → L2.St → Hp → Prop) (h0 : Pv 0 σ H)
    (hs : ∀ i σ H, i < n → Pv i σ H → g (.int (i : Nat)) σ H fun σ2 H2 => tb { D with nx := Pv (i + 1), ct := Pv (i + 1), bk := D.nx } σ2 H2) (hd : ∀ σ H, Pv n σ H → D.nx σ H) :
    ∃ W : Nat → Nat → L2.St → Hp → Prop, (∃ k, W 0 k σ H) ∧ ∀ i k σ H, W i k σ H →
      ((Itr 0 j.toNat).stop i H ∧ D.nx σ H) ∨ ((Itr 0 j.toNat).go i H ∧ ∃ N : L2.St → Hp → Prop, (∀ σ' H', N σ' H' → ∃ k', k' < k ∧ W (i + 1) k' σ' H') ∧ ∀ x H', (Itr 0 j.toNat).yld i H x H' → g x σ H' fun σ2 H2 => tb { D with nx := N, ct := N, bk := D.nx } σ2 H2) :=
  for_rangeE he Pv h0 (fun i σ H hi p => by rw [Int.zero_add]; exact hs i σ H hi p) hd
/-- two ways that meet again -/
theorem if_two {b : Bool} {t : TS} {D : Ends} {σ : L2.St} {H : Hp} (S : L2.St → Hp → Prop) (hS : ∀ σ' H', S σ' H' → D.nx σ' H') (h1 : b = true → (∀ σ' H', S σ' H' → D.nx σ' H') → t D σ H) (h2 : b = false → S σ H) :
    if b = true then t D σ H else tNext D σ H := by
  cases b with
  | true => exact iteT (h1 rfl hS)
  | false => exact iteF (hS _ _ (h2 rfl))
abbrev sLNum : Stmt := topS 36
abbrev sLSown : Stmt := topS 39
abbrev sLAfter : Stmt := topS 40
def spLNum (K : PySem.W.Frag) : Sp := fun vs H Q _ => ∃ (a : Addr) (ns : List Int), vs = [.ref a, .int 63] ∧ SqL K H a (ns.map V.int) ∧ ns.length ≤ 63 ∧
  ∀ H' l (ms : List Nat), Same H H' → H l = none → H' l = some (.lst (bV ms)) → ms.length = 63 → Q (.ref l) H'
def spLSown (K : PySem.W.Frag) : Sp := fun vs H Q _ => ∃ (a : Addr) (b : List Nat) (p : Nat), vs = [.ref a, .int (p : Int)] ∧ SqT K H a (bV b) ∧ p < b.length ∧ b.getD p 0 < 1000 ∧ b.length ≤ 24 ∧
  ∀ H' t, Same H H' → H t = none → BdAt H' t (sow b p) → Q (.ref t) H'
def spLAfter (K : PySem.W.Frag) : Sp := fun vs H Q _ => ∃ (a c : Addr) (b bar : List Nat), vs = [.ref a, .ref c] ∧ SqT K H a (bV b) ∧ SqL K H c (bV bar) ∧ b.length ≤ 24 ∧ b.sum < 1000 ∧
  ∀ H' l (ts : List Addr), Same H H' → H l = none → H' l = some (.lst (ts.map V.ref)) → Paired (BdAt H') ts (succs bar b) → Q (.ref l) H'
section
variable {P : Program} {w : World} {K : PySem.W.Frag} {mg : Str → Option Value} {base : Heap}
theorem scLNum : FnScope ["script", "many", "found", "step", "k"] ["script", "many"] (defScope sLNum) := ⟨rfl, rfl, rfl, by decide +kernel, rfl, by decide +kernel, by decide +kernel⟩
theorem k_lnum (T : Txt mg) (D : DefAt K mg "_law_numbers" sLNum ["script", "many"]) : Kept P w K mg base 1 "_law_numbers" ["script", "many"] (spLNum K) := by
  refine .mk' D fun f fd F => F.ok scLNum (fun vs H Q E h => ?_) (fun cdv A outer s H vs Q E hr h => ?_)
  · obtain ⟨a, ns, rfl, _⟩ := h
    rfl
  · obtain ⟨a, ns, rfl, hS, hn, q⟩ := h
    have nd := scLNum.nd
    refine ⟨_, pss_cons (ps_set (i := 2) nd rfl (.inl rfl) (pe_lst pa_nil))
      (pss_cons (ps_set (i := 3) nd rfl (.inl rfl) (pe_nat 1))
      (pss_cons (ps_if (pt_cmpR op_gt (pe_callB call_len_seq (by rfl) T.zlen PySem.boot_len (pa_cons (pv 0) pa_nil)) pe_int (nomark _))
        (pss_one (ps_set (i := 3) nd rfl (.inl rfl) (pe_op op_add pe_int (pe_op op_modN (pe_ix ix_list (pv 0) pe_int (fun _ _ => rfl)) pe_int)))) pss_nil)
      (pss_cons (ps_for PassesOwn.never rfl (pi_range1 (by rfl) T.zrange (pa_cons (pv 1) pa_nil)) (pg_name (i := 4) nd rfl (.inl rfl))
        (pss_cons (ps_set (i := 3) nd rfl (.inl rfl) (pe_op on_mod (pe_op on_mul (pv 3) (pe_nat 48271)) (pe_nat 2147483647)))
        (pss_one (ps_expr (pe_bm PySem.F.plainAttrs_list PySem.F.slot_list_append PySem.F.type_list_append mt_append (pv 2) (pa_cons (pe_op on_mod (pe_op on_div (pv 3) (pe_nat 16)) (pe_nat 1000000)) pa_nil))))))
      (pss_cons (ps_for PassesOwn.never rfl (pi_range1 (by rfl) T.zrange (pa_cons (pe_callB call_len_seq (by rfl) T.zlen PySem.boot_len (pa_cons (pv 0) pa_nil)) pa_nil)) (pg_name (i := 4) nd rfl (.inl rfl))
        (pss_one (ps_asg (pe_op op_modN (pe_op op_add (pe_ix ixn_list (pv 2) (pe_op on_mod (pv 4) (pv 1)) (fun _ _ => rfl)) (pe_ix ix_list (pv 0) (pv 4) (fun _ _ => rfl))) pe_int) (pg_sub (pv 2) (pe_op on_mod (pv 4) (pv 1)) setn_list))))
      (pss_one (ps_ret (pv 2))))))), ?_⟩
    have hnl : (ns.map V.int).length = ns.length := List.length_map _
    refine ⟨Nat.zero_le _, fun l hl => ?_⟩
    have s1 := same_upd (o := .lst []) hl
    have hS1 := s1.seq hS
    refine ⟨_, rfl, a, _, rfl, .inl hS1, _, _, rfl, rfl, _, rfl, ?_⟩
    refine if_two (fun σ' H' => ∃ st : Nat, σ' = [some (.ref a), some (.int 63), some (.ref l), some (.int (st : Int)), none] ∧ H' = upd H l (.lst [])) ?_ ?_ ?_
    · rintro σ' H' ⟨st, rfl, rfl⟩
      refine ⟨_, rfl, 63, rfl, by decide, by decide, for_rangeE (n := 63) rfl
        (fun i σ H' => ∃ (st : Nat) (v : Option V) (ms : List Nat), σ = [some (.ref a), some (.int 63), some (.ref l), some (.int (st : Int)), v] ∧ Same H H' ∧ H' l = some (.lst (bV ms)) ∧ ms.length = i)
        ⟨st, none, [], rfl, s1, upd_same, rfl⟩ ?_ ?_⟩
      · rintro i σ H' hi ⟨st, v, ms, rfl, s2, h1, h2⟩
        refine ⟨_, rfl, st, 48271, rfl, rfl, .inr (by decide), _, 2147483647, rfl, rfl, by decide, ?_⟩
        refine ⟨_, rfl, .inl ⟨rfl, _, .of h1⟩, _, rfl, _, 16, rfl, rfl, ⟨by decide, by decide⟩, _, 1000000, rfl, rfl, by decide, l, _, _, rfl, rfl, h1, ?_, ?_⟩
        · rw [bV_len]
          exact len_line (K := K) (by omega)
        · refine ⟨_, _, ms ++ [st * 48271 % 2147483647 / 16 % 1000000], rfl, same_new s2 hl, ?_, ?_⟩
          · rw [upd_same, bV_snoc]
          · rw [List.length_append, h2]
            rfl
      · rintro σ H' ⟨st, v, ms, rfl, s2, h1, h2⟩
        have hS2 := s2.seq hS
        refine ⟨_, rfl, a, _, rfl, .inl hS2, _, rfl, by omega, by omega, for_rangeE (n := ns.length) (by omega)
          (fun i σ H' => ∃ (v : Option V) (ms : List Nat), σ = [some (.ref a), some (.int 63), some (.ref l), some (.int (st : Int)), v] ∧ Same H H' ∧ H' l = some (.lst (bV ms)) ∧ ms.length = 63)
          ⟨v, ms, rfl, s2, h1, h2⟩ ?_ ?_⟩
        · rintro i σ H' hi ⟨v, ms, rfl, s3, g1, g2⟩
          have hx : (ns.map V.int)[i]? = some (.int ns[i]) := by
            rw [List.getElem?_map, List.getElem?_eq_getElem hi]
            rfl
          have him : i % 63 < ms.length := by omega
          obtain ⟨z, ez⟩ : ∃ z : Nat, (((ms.getD (i % 63) 0 : Nat) : Int) + ns[i]).fmod 1000000 = (z : Int) := Int.eq_ofNat_of_zero_le (Int.fmod_nonneg_of_pos _ (show (0 : Int) < 1000000 by decide))
          refine ⟨_, rfl, _, rfl, _, rfl, i, 63, by rw [Int.zero_add], rfl, by decide, l, ms, i % 63, rfl, rfl, .of g1, him, ?_⟩
          refine ⟨_, rfl, _, rfl, a, _, _, _, rfl, rfl, s3.seq hS, by rw [Int.zero_add]; exact atI_nat hx, _, _, rfl, rfl, _, _, rfl, rfl, (show (1000000 : Int) ≠ 0 by decide), ?_⟩
          refine ⟨_, rfl, _, rfl, _, rfl, i, 63, by rw [Int.zero_add], rfl, by decide, l, ms, _, z, rfl, rfl, congrArg V.int ez, g1, him, ?_⟩
          refine ⟨_, _, rfl, same_new s3 hl, upd_same, ?_⟩
          rw [List.length_set]
          exact g2
        · rintro σ H' ⟨v, ms, rfl, s3, g1, g2⟩
          exact ⟨_, rfl, q H' l ms s3 hl g1 g2⟩
    · intro hb hh
      have h0 : 0 < ns.length := by
        have := of_decide_eq_true hb
        omega
      have hx : (ns.map V.int)[0]? = some (.int ns[0]) := by
        rw [List.getElem?_map, List.getElem?_eq_getElem h0]
        rfl
      obtain ⟨z, ez⟩ : ∃ z : Nat, (1 : Int) + (ns[0]).fmod 2147483646 = (z : Int) := by
        have h1 : 0 ≤ (ns[0]).fmod 2147483646 := Int.fmod_nonneg_of_pos (ns[0]) (by decide)
        exact Int.eq_ofNat_of_zero_le (by omega)
      refine ⟨_, rfl, a, _, _, _, rfl, rfl, hS1, atI_nat (j := 0) hx, _, _, rfl, rfl, (show (2147483646 : Int) ≠ 0 by decide), _, _, rfl, rfl, ?_⟩
      refine hh _ _ ⟨z, ?_, rfl⟩
      rw [← ez]
      rfl
    · intro _
      exact ⟨1, rfl, rfl⟩
theorem scLSown : FnScope ["board", "pit", "rest", "hand", "k"] ["board", "pit"] (defScope sLSown) := ⟨rfl, rfl, rfl, by decide +kernel, rfl, by decide +kernel, by decide +kernel⟩
theorem k_lsown (T : Txt mg) (D : DefAt K mg "_law_sown" sLSown ["board", "pit"]) : Kept P w K mg base 1 "_law_sown" ["board", "pit"] (spLSown K) := by
  refine .mk' D fun f fd F => F.ok scLSown (fun vs H Q E h => ?_) (fun cdv A outer s H vs Q E hr h => ?_)
  · obtain ⟨a, b, p, rfl, _⟩ := h
    rfl
  · obtain ⟨a, b, p, rfl, hT, hp, hm, hbl, q⟩ := h
    have nd := scLSown.nd
    refine ⟨_, pss_cons (ps_set (i := 2) nd rfl (.inl rfl) (pe_callTy call_list_of (by rfl) T.zlist boot_list (pa_cons (pv 0) pa_nil)))
      (pss_cons (ps_set (i := 3) nd rfl (.inl rfl) (pe_ix ixn_list (pv 2) (pv 1) (fun _ _ => rfl)))
      (pss_cons (ps_asg (pe_nat 0) (pg_sub (pv 2) (pv 1) setn_list))
      (pss_cons (ps_for PassesOwn.never rfl (pi_range1 (by rfl) T.zrange (pa_cons (pv 3) pa_nil)) (pg_name (i := 4) nd rfl (.inl rfl))
        (pss_one (ps_augS (pv 2) (pe_op on_mod (pe_op on_add (pe_op on_add (pv 1) (pe_nat 1)) (pv 4)) (pe_callB lenn (by rfl) T.zlen PySem.boot_len (pa_cons (pv 2) pa_nil))) getn_list (pe_nat 1) ipn_add setn_list)))
      (pss_one (ps_ret (pe_callTy call_tuple_of (by rfl) T.ztuple boot_tuple (pa_cons (pv 2) pa_nil))))))), ?_⟩
    refine ⟨_, rfl, a, _, rfl, .inr hT, fun l hl => ?_⟩
    have s1 := same_upd (o := .lst (bV b)) hl
    refine ⟨_, rfl, _, rfl, l, b, p, rfl, rfl, .of upd_same, hp, ?_⟩
    refine ⟨_, rfl, _, rfl, l, b, p, 0, rfl, rfl, rfl, upd_same, hp, ?_⟩
    rw [upd_upd]
    refine ⟨_, rfl, _, rfl, by omega, by omega, for_rangeN (n := b.getD p 0) rfl
      (fun i σ H' => ∃ v, σ = [some (.ref a), some (.int (p : Int)), some (.ref l), some (.int (b.getD p 0 : Nat)), v] ∧ Same H H' ∧ H' l = some (.lst (bV (bumps (b.set p 0) (p + 1) i))))
      ⟨none, rfl, same_upd hl, upd_same⟩ ?_ ?_⟩
    · rintro i σ H' hi ⟨v, rfl, s2, h1⟩
      have l1 : (bumps (b.set p 0) (p + 1) i).length = b.length := by rw [bumps_len, List.length_set]
      have hj : (p + 1 + i) % (bumps (b.set p 0) (p + 1) i).length < (bumps (b.set p 0) (p + 1) i).length := Nat.mod_lt _ (by omega)
      refine ⟨_, rfl, _, rfl, p, 1, rfl, rfl, _, rfl, p + 1, i, rfl, rfl, _, rfl, l, _, rfl, .inl (.of h1), _, _, rfl, rfl, by omega, l, _, _, rfl, rfl, .of h1, hj, _, 1, rfl, rfl, l, _, _, _, rfl, rfl, rfl, h1, hj, ?_⟩
      refine ⟨_, rfl, same_new s2 hl, ?_⟩
      rw [upd_same, bumps_len]
      rfl
    · rintro σ H' ⟨v, rfl, s2, h1⟩
      refine ⟨_, rfl, l, _, rfl, .inl ⟨.of h1, fun t ht => q _ t (s2.trans (same_upd ht)) (s2.free ht) ?_⟩⟩
      exact upd_same
theorem scLAfter : FnScope ["board", "barred", "after", "pit"] ["board", "barred"] (defScope sLAfter) := ⟨rfl, rfl, rfl, by decide +kernel, rfl, by decide +kernel, by decide +kernel⟩
theorem k_lafter (T : Txt mg) (D : DefAt K mg "_law_after" sLAfter ["board", "barred"]) (G : Kept P w K mg base 1 "_law_sown" ["board", "pit"] (spLSown K)) : Kept P w K mg base 2 "_law_after" ["board", "barred"] (spLAfter K) := by
  refine .mk' D fun f fd F => F.ok scLAfter (fun vs H Q E h => ?_) (fun cdv A outer s H vs Q E hr h => ?_)
  · obtain ⟨a, c, b, bar, rfl, _⟩ := h
    rfl
  · obtain ⟨a, c, b, bar, rfl, hT, hC, hbl, hbs, q⟩ := h
    have nd := scLAfter.nd
    refine ⟨_, pss_cons (ps_set (i := 2) nd rfl (.inl rfl) (pe_lst pa_nil))
      (pss_cons (ps_for PassesOwn.never rfl (pi_range1 (by rfl) T.zrange (pa_cons (pe_callB lenn (by rfl) T.zlen PySem.boot_len (pa_cons (pv 0) pa_nil)) pa_nil)) (pg_name (i := 3) nd rfl (.inl rfl))
        (pss_one (ps_if (PW.pt (pw_and (pt_cmpR op_gt (pe_ix ixn_tup (pv 0) (pv 3) (fun _ _ => rfl)) pe_int (nomark _)) (pw_and1 (pt_cmpR op_notIn_seq (pv 3) (pv 1) (by rfl)))))
          (pss_one (ps_expr (pe_bm PySem.F.plainAttrs_list PySem.F.slot_list_append PySem.F.type_list_append mt_append (pv 2) (pa_cons (pe_kept G hr (pa_cons (pv 0) (pa_cons (pv 3) pa_nil))) pa_nil)))) pss_nil)))
      (pss_one (ps_ret (pv 2)))), ?_⟩
    refine ⟨Nat.zero_le _, fun l hl => ?_⟩
    have s1 := same_upd (o := .lst []) hl
    refine ⟨_, rfl, a, b, rfl, .inr (same_tup s1 hT), _, rfl, by omega, by omega, for_rangeN (n := b.length) rfl
      (fun i σ H' => ∃ (v : Option V) (ts : List Addr), σ = [some (.ref a), some (.ref c), some (.ref l), v] ∧ Same H H' ∧ H' l = some (.lst (ts.map V.ref)) ∧ ts.length ≤ i ∧ Paired (BdAt H') ts (((List.range i).filter (free bar b)).map (sow b)))
      ⟨none, [], rfl, s1, upd_same, Nat.le_refl _, .nil⟩ ?_ ?_⟩
    · rintro i σ H' hi ⟨v, ts, rfl, s2, h1, h3, h2⟩
      refine ⟨_, rfl, _, rfl, a, b, i, rfl, rfl, same_tup s2 hT, hi, _, _, rfl, rfl, _, rfl, ?_⟩
      have er : (List.range (i + 1)).filter (free bar b) = (List.range i).filter (free bar b) ++ [i].filter (free bar b) := by rw [List.range_succ, List.filter_append]
      by_cases h0 : 0 < b.getD i 0
      · refine dT (by omega) ?_
        refine ⟨_, rfl, _, rfl, c, _, rfl, .inl (s2.seq hC), rfl, flat_bV bar, _, rfl, ?_⟩
        rw [show (if true = true then !inV (.int (i : Int)) (bV bar) else inV (.int (i : Int)) (bV bar)) = !decide (i ∈ bar) from congrArg (fun z => !z) (inV_bV i bar)]
        by_cases hm : i ∈ bar
        · rw [decide_eq_true hm]
          refine ⟨_, ts, rfl, s2, h1, by omega, ?_⟩
          rw [er, filter_none (by unfold free; rw [decide_eq_true hm, Bool.not_true, Bool.and_false]), List.append_nil]
          exact h2
        · rw [decide_eq_false hm]
          have hb := getD_le_sum b i
          refine ⟨_, rfl, .inl ⟨rfl, _, .of h1⟩, _, rfl, _, rfl, a, b, i, rfl, same_tup s2 hT, hi, by omega, hbl, fun H3 t s3 nt ht => ?_⟩
          have hl3 := s3 _ _ h1
          refine ⟨l, _, _, rfl, rfl, hl3, ?_, ?_⟩
          · rw [List.length_map]
            exact len_line (K := K) (by omega)
          · refine ⟨_, ts ++ [t], rfl, same_new (s2.trans s3) hl, ?_, ?_, ?_⟩
            · rw [upd_same, List.map_append]
              rfl
            · rw [List.length_append]
              show ts.length + 1 ≤ i + 1
              omega
            · rw [er, filter_one (by unfold free; rw [decide_eq_false hm, decide_eq_true h0]; rfl), List.map_append]
              exact L2.Paired.mapP (paired_snoc (L2.Paired.mapP h2 fun t y h => h.same s3) ht) fun t y h => h.upd hl3 fun ys e => nomatch e
      · refine dF (by omega) ?_
        refine ⟨_, ts, rfl, s2, h1, by omega, ?_⟩
        rw [er, filter_none (by unfold free; rw [decide_eq_false h0]; rfl), List.append_nil]
        exact h2
    · rintro σ H' ⟨v, ts, rfl, s2, h1, h3, h2⟩
      exact ⟨_, rfl, q H' l ts s2 hl h1 h2⟩
end
end SwD
namespace SwD
open PySem PySem.Spec PyProof.Rows L2 Sw SwR
abbrev sLBoard : Stmt := topS 37
theorem bump_sum {b : List Nat} {i : Nat} (h : i < b.length) : (bump b i).sum = b.sum + 1 := by
  have e := wsum_bump b (fun _ => 1) i h
  rw [wsum_one, wsum_one] at e
  exact e
theorem rep_bV : ∀ n : Nat, (List.replicate n [V.int ((0 : Nat) : Int)]).flatten = bV (List.replicate n 0)
  | 0 => rfl
  | n + 1 => by
    rw [List.replicate_succ, List.flatten_cons, rep_bV n, List.replicate_succ]
    rfl
theorem sum_rep : ∀ n : Nat, (List.replicate n 0).sum = 0
  | 0 => rfl
  | n + 1 => by rw [List.replicate_succ, List.sum_cons, sum_rep n]
theorem sum_le8 : ∀ {l : List Nat}, (∀ x ∈ l, x ≤ 8) → l.sum ≤ l.length * 8
  | [], _ => Nat.zero_le _
  | x :: r, h => by
    have h1 := h x List.mem_cons_self
    have h2 := sum_le8 fun y hy => h y (List.mem_cons_of_mem x hy)
    rw [List.sum_cons, List.length_cons]
    omega
theorem okB_two {S : Nat} (h : S ≤ 78) : okB 2 S = true := by
  unfold okB
  simp [h]
theorem okB_three {S : Nat} (h : S ≤ 24) : okB 3 S = true := by
  unfold okB
  simp [h]
theorem okB_few {n S : Nat} (h1 : 2 ≤ n) (h2 : n ≤ 5) (h : S ≤ 8) : okB n S = true := by
  unfold okB
  simp [h, h1, h2]
theorem okB_many {n : Nat} (h1 : 6 ≤ n) (h2 : n ≤ 24) : okB n 2 = true := by
  unfold okB
  simp [h1, h2]
def spLBoard (K : PySem.W.Frag) : Sp := fun vs H Q _ => ∃ (a : Addr) (ms : List Nat), vs = [.ref a, .int 0] ∧ SqL K H a (bV ms) ∧ ms.length = 63 ∧
  ∀ H' l (b : List Nat), Same H H' → H l = none → H' l = some (.lst (bV b)) → okB b.length b.sum = true → Q (.ref l) H'
section
variable {P : Program} {w : World} {K : PySem.W.Frag} {mg : Str → Option Value} {base : Heap}
theorem scLBoard : FnScope ["numbers", "first", "way", "pits", "board", "k"] ["numbers", "first"] (defScope sLBoard) := ⟨rfl, rfl, rfl, by decide +kernel, rfl, by decide +kernel, by decide +kernel⟩
theorem k_lboard (T : Txt mg) (D : DefAt K mg "_law_board" sLBoard ["numbers", "first"]) : Kept P w K mg base 1 "_law_board" ["numbers", "first"] (spLBoard K) := by
  refine .mk' D fun f fd F => F.ok scLBoard (fun vs H Q E h => ?_) (fun cdv A outer s H vs Q E hr h => ?_)
  · obtain ⟨a, ms, rfl, _⟩ := h
    rfl
  · obtain ⟨a, ms, rfl, hS, hm, q⟩ := h
    have nd := scLBoard.nd
    refine ⟨_, pss_cons (ps_set (i := 2) nd rfl (.inl rfl) (pe_op on_mod (pe_op on_div (pe_ix ixn_list (pv 0) (pe_nat 1) (fun _ _ => rfl)) (pe_op on_add (pe_nat 1) (pe_op on_mul (pe_nat 7) (pv 1)))) (pe_nat 8)))
      (pss_cons (ps_set (i := 3) nd rfl (.inl rfl) (pe_op on_add (pe_nat 2) (pe_op on_mod (pe_op on_div (pe_ix ixn_list (pv 0) (pe_nat 0) (fun _ _ => rfl)) (pe_op on_add (pe_nat 1) (pe_op on_mul (pe_nat 4) (pv 1)))) (pe_nat 4))))
      (pss_cons (ps_if (pt_cmpR op_eq (pv 2) pe_int (nomark _))
        (pss_cons (ps_set (i := 3) nd rfl (.inl rfl) (pe_op on_add (pe_nat 6) (pe_op on_mod (pe_op on_div (pe_ix ixn_list (pv 0) (pe_nat 0) (fun _ _ => rfl)) (pe_op on_add (pe_nat 1) (pe_op on_mul (pe_nat 4) (pv 1)))) (pe_nat 19))))
        (pss_cons (ps_set (i := 4) nd rfl (.inl rfl) (pe_op op_rep (pe_lst (pa_cons (pe_nat 0) pa_nil)) (pv 3)))
        (pss_cons (ps_augS (pv 4) (pe_op on_mod (pe_ix ixn_list (pv 0) (pe_op on_add (pe_nat 20) (pv 1)) (fun _ _ => rfl)) (pv 3)) getn_list (pe_nat 1) ipn_add setn_list)
        (pss_cons (ps_augS (pv 4) (pe_op on_mod (pe_ix ixn_list (pv 0) (pe_op on_add (pe_nat 22) (pv 1)) (fun _ _ => rfl)) (pv 3)) getn_list (pe_nat 1) ipn_add setn_list)
        (pss_one (ps_ret (pv 4))))))) pss_nil)
      (pss_cons (ps_if (pt_cmpR op_eq (pv 2) pe_int (nomark _))
        (pss_one (ps_ret (pe_lst (pa_cons (pe_op on_mod (pe_ix ixn_list (pv 0) (pe_op on_add (pe_nat 20) (pv 1)) (fun _ _ => rfl)) (pe_nat 40))
          (pa_cons (pe_op on_mod (pe_ix ixn_list (pv 0) (pe_op on_add (pe_nat 22) (pv 1)) (fun _ _ => rfl)) (pe_nat 40)) pa_nil))))) pss_nil)
      (pss_cons (ps_if (pt_cmpR op_eq (pv 2) pe_int (nomark _))
        (pss_one (ps_ret (pe_lc (own := [("k", 5)]) (g := gName 5) (tt := tYes) (by rfl) nd (pi_range1 (by rfl) T.zrange (pa_cons pe_int pa_nil))
          (blkOk_by (own := [("k", 5)]) (N := ["numbers", "first", "way", "pits", "board", "k"]) (sc := defScope sLBoard) (by decide +kernel))
          (fun _ _ _ _ _ => pg_name (i := 5) nd rfl (.inl rfl)) (fun _ _ _ _ _ => pts_nil)
          (fun _ _ _ _ _ => pe_op on_mod (pe_op on_div (pe_ix (r := rIxN K) ixn_list (pv 0) (pe_op on_add (pe_op on_add (pe_nat 20) (pe_op on_mul (pe_nat 2) (pv 1))) (pv 5)) (fun _ _ => rfl)) (pe_nat 3)) (pe_nat 9))))) pss_nil)
      (pss_cons (ps_set (i := 4) nd rfl (.inl rfl) (pe_op op_rep (pe_lst (pa_cons (pe_nat 0) pa_nil)) (pv 3)))
      (pss_cons (ps_for PassesOwn.never rfl (pi_range1 (by rfl) T.zrange (pa_cons (pe_op on_mod (pe_op on_div (pe_ix ixn_list (pv 0) (pe_nat 4) (fun _ _ => rfl)) (pe_op on_add (pe_nat 1) (pe_op on_mul (pe_nat 9) (pv 1)))) (pe_nat 9)) pa_nil)) (pg_name (i := 5) nd rfl (.inl rfl))
        (pss_one (ps_augS (pv 4) (pe_op on_mod (pe_op on_div (pe_ix ixn_list (pv 0) (pe_op on_add (pe_op on_add (pe_nat 24) (pe_op on_mul (pe_nat 9) (pv 1))) (pv 5)) (fun _ _ => rfl)) (pe_nat 5)) (pv 3)) getn_list (pe_nat 1) ipn_add setn_list)))
      (pss_one (ps_ret (pv 4))))))))), ?_⟩
    -- way, pits
    refine ⟨_, rfl, a, ms, 1, rfl, rfl, hS, by omega, _, rfl, 7, 0, rfl, rfl, .inl (by decide), 1, _, rfl, rfl, _, _, rfl, rfl, ⟨by decide, by decide⟩, _, 8, rfl, rfl, by decide, ?_⟩
    refine ⟨_, rfl, a, ms, 0, rfl, rfl, hS, by omega, _, rfl, 4, 0, rfl, rfl, .inl (by decide), 1, _, rfl, rfl, _, _, rfl, rfl, ⟨by decide, by decide⟩, _, 4, rfl, rfl, by decide, 2, _, rfl, rfl, ?_⟩
    have hn2 : ∀ x : Nat, 2 ≤ 2 + x / (1 + 4 * 0) % 4 ∧ 2 + x / (1 + 4 * 0) % 4 ≤ 5 := fun x => by omega
    generalize ms.getD 1 0 / (1 + 7 * 0) % 8 = way
    have hn := hn2 (ms.getD 0 0)
    generalize 2 + ms.getD 0 0 / (1 + 4 * 0) % 4 = n at hn
    -- if way == 1
    refine ⟨_, rfl, rfl, _, rfl, ite2 (fun _ => ?_) (fun _ => ?_)⟩
    · refine ⟨_, rfl, a, ms, 0, rfl, rfl, hS, by omega, _, rfl, 4, 0, rfl, rfl, .inl (by decide), 1, _, rfl, rfl, _, _, rfl, rfl, ⟨by decide, by decide⟩, _, 19, rfl, rfl, by decide, 6, _, rfl, rfl, ?_⟩
      have hn3 : 6 ≤ 6 + ms.getD 0 0 / (1 + 4 * 0) % 19 ∧ 6 + ms.getD 0 0 / (1 + 4 * 0) % 19 ≤ 24 := by omega
      generalize 6 + ms.getD 0 0 / (1 + 4 * 0) % 19 = n at hn3
      refine ⟨(by show 1 ≤ sizeLine; decide), fun e he => ?_⟩
      have s1 := same_upd (o := .lst [V.int ((0 : Nat) : Int)]) he
      refine ⟨_, rfl, e, _, _, rfl, rfl, upd_same, by omega, by omega, ?_, fun l hl => ?_⟩
      · show 1 * ((n : Nat) : Int).toNat ≤ sizeLine
        rw [Int.toNat_natCast, Nat.one_mul]
        exact Nat.le_of_lt (len_line (K := K) (by omega))
      rw [Int.toNat_natCast, rep_bV]
      have s2 := s1.trans (same_upd (o := .lst (bV (List.replicate n 0))) hl)
      have l0 : (List.replicate n 0).length = n := List.length_replicate
      have hS2 := s2.seq hS
      have hl0 : H l = none := s1.free hl
      have hi : ms.getD (20 + 0) 0 % n < (List.replicate n 0).length := by rw [l0]; exact Nat.mod_lt _ (by omega)
      refine ⟨_, rfl, _, rfl, _, rfl, 20, 0, rfl, rfl, a, ms, _, rfl, rfl, hS2, by omega, _, rfl, _, n, rfl, rfl, by omega, l, _, _, rfl, rfl, .of upd_same, hi, _, 1, rfl, rfl, l, _, _, _, rfl, rfl, rfl, upd_same, hi, ?_⟩
      rw [upd_upd]
      have s3 := s1.trans (same_upd (o := .lst (bV (bump (List.replicate n 0) (ms.getD (20 + 0) 0 % n)))) hl)
      have l1 : (bump (List.replicate n 0) (ms.getD (20 + 0) 0 % n)).length = n := by rw [bump_len, l0]
      have hj : ms.getD (22 + 0) 0 % n < (bump (List.replicate n 0) (ms.getD (20 + 0) 0 % n)).length := by rw [l1]; exact Nat.mod_lt _ (by omega)
      refine ⟨_, rfl, _, rfl, _, rfl, 22, 0, rfl, rfl, a, ms, _, rfl, rfl, s3.seq hS, by omega, _, rfl, _, n, rfl, rfl, by omega, l, (bump (List.replicate n 0) (ms.getD (20 + 0) 0 % n)), _, rfl, rfl, .of upd_same, hj, _, 1, rfl, rfl, l, (bump (List.replicate n 0) (ms.getD (20 + 0) 0 % n)), _, _, rfl, rfl, rfl, upd_same, hj, ?_⟩
      rw [upd_upd]
      have e2 : (bump (bump (List.replicate n 0) (ms.getD (20 + 0) 0 % n)) (ms.getD (22 + 0) 0 % n)).sum = 2 := by rw [bump_sum hj, bump_sum hi, sum_rep]
      refine ⟨_, rfl, q _ l (bump (bump (List.replicate n 0) (ms.getD (20 + 0) 0 % n)) (ms.getD (22 + 0) 0 % n)) (s1.trans (same_upd hl)) hl0 upd_same ?_⟩
      rw [e2, bump_len, l1]
      exact okB_many hn3.1 hn3.2
    -- if way == 2
    · refine ⟨_, rfl, rfl, _, rfl, ite2 (fun _ => ?_) (fun _ => ?_)⟩
      · refine ⟨_, rfl, _, rfl, 20, 0, rfl, rfl, a, ms, _, rfl, rfl, hS, by omega, _, 40, rfl, rfl, by decide, _, rfl, _, rfl, 22, 0, rfl, rfl, a, ms, _, rfl, rfl, hS, by omega, _, 40, rfl, rfl, by decide, (by show 2 ≤ sizeLine; decide), fun l hl => ?_⟩
        refine q _ l [ms.getD (20 + 0) 0 % 40, ms.getD (22 + 0) 0 % 40] (same_upd hl) hl upd_same ?_
        show okB 2 (ms.getD (20 + 0) 0 % 40 + (ms.getD (22 + 0) 0 % 40 + 0)) = true
        exact okB_two (by omega)
      -- if way == 3
      · refine ⟨_, rfl, rfl, _, rfl, ite2 (fun _ => ?_) (fun _ => ?_)⟩
        · refine ⟨3, rfl, by decide, by decide, fun l hl => lc_range (lo := 0) (n := 3) (fun i H' => ∃ b : List Nat, b.length = i ∧ (∀ x ∈ b, x ≤ 8) ∧ H' = upd H l (.lst (bV b))) ⟨[], rfl, fun _ h => (nomatch h), rfl⟩ ?_ ?_⟩
          · rintro i H' hi ⟨b, h1, h2, rfl⟩
            refine ⟨rfl, _, rfl, _, rfl, 2, 0, rfl, rfl, .inl (by decide), 20, _, rfl, rfl, _, rfl, _, i, rfl, by rw [Int.zero_add], a, ms, _, rfl, rfl, (same_upd hl).seq hS, by omega, _, 3, rfl, rfl, ⟨by decide, by decide⟩, _, 9, rfl, rfl, by decide, _, upd_same, ?_, ?_⟩
            · rw [bV_len]
              exact len_line (K := K) (by omega)
            · refine ⟨b ++ [ms.getD (20 + 2 * 0 + i) 0 / 3 % 9], by rw [List.length_append, h1]; rfl, fun x hx => ?_, by rw [upd_upd, bV_snoc]⟩
              rcases List.mem_append.mp hx with h | h
              · exact h2 x h
              · rw [List.mem_singleton.mp h]
                omega
          · rintro H' ⟨b, h1, h2, rfl⟩
            refine q _ l b (same_upd hl) hl upd_same ?_
            have h3 := sum_le8 h2
            rw [h1] at h3 ⊢
            exact okB_three h3
        · -- board = [0] * pits
          refine ⟨(by show 1 ≤ sizeLine; decide), fun e he => ?_⟩
          have s1 := same_upd (o := .lst [V.int ((0 : Nat) : Int)]) he
          refine ⟨_, rfl, e, _, _, rfl, rfl, upd_same, by omega, by omega, ?_, fun l hl => ?_⟩
          · show 1 * ((n : Nat) : Int).toNat ≤ sizeLine
            rw [Int.toNat_natCast, Nat.one_mul]
            exact Nat.le_of_lt (len_line (K := K) (by omega))
          rw [Int.toNat_natCast, rep_bV]
          have s2 := s1.trans (same_upd (o := .lst (bV (List.replicate n 0))) hl)
          have hl0 : H l = none := s1.free hl
          refine ⟨_, rfl, a, ms, 4, rfl, rfl, s2.seq hS, by omega, _, rfl, 9, 0, rfl, rfl, .inl (by decide), 1, _, rfl, rfl, _, _, rfl, rfl, ⟨by decide, by decide⟩, _, 9, rfl, rfl, by decide, _, rfl, ?_, ?_, for_rangeN (n := ms.getD 4 0 / (1 + 9 * 0) % 9) rfl
            (fun i σ H' => ∃ (v : Option V) (b : List Nat), σ = [some (.ref a), some (.int 0), some (.int (way : Int)), some (.int (n : Int)), some (.ref l), v] ∧ Same H H' ∧ H' l = some (.lst (bV b)) ∧ b.length = n ∧ b.sum = i)
            ⟨none, List.replicate n 0, rfl, s2, upd_same, List.length_replicate, sum_rep n⟩ ?_ ?_⟩
          · omega
          · omega
          · rintro i σ H' hi ⟨v, b, rfl, s3, h1, h2, h3⟩
            have hj : ms.getD (24 + 9 * 0 + i) 0 / 5 % n < b.length := by rw [h2]; exact Nat.mod_lt _ (by omega)
            refine ⟨_, rfl, _, rfl, _, rfl, 9, 0, rfl, rfl, .inl (by decide), 24, _, rfl, rfl, _, rfl, _, i, rfl, rfl, a, ms, _, rfl, rfl, s3.seq hS, by omega, _, 5, rfl, rfl, ⟨by decide, by decide⟩, _, rfl, _, n, rfl, rfl, by omega, l, b, _, rfl, rfl, .of h1, hj, _, 1, rfl, rfl, l, b, _, _, rfl, rfl, rfl, h1, hj, ?_⟩
            refine ⟨_, bump b (ms.getD (24 + 9 * 0 + i) 0 / 5 % n), rfl, same_new s3 hl0, upd_same, by rw [bump_len, h2], by rw [bump_sum hj, h3]⟩
          · rintro σ H' ⟨v, b, rfl, s3, h1, h2, h3⟩
            refine ⟨_, rfl, q H' l b s3 hl0 h1 ?_⟩
            rw [h2, h3]
            exact okB_few hn.1 hn.2 (by omega)
end
end SwD
namespace SwD
open PySem PySem.Spec PyProof.Rows L2 Sw SwR
/-! ### data that are compared -/
def dI (b : List Nat) : List PyData := (zs b).map .int
theorem lay_ints : ∀ l : List Int, PyData.canLayAll0 (l.map .int) = true
  | [] => by simp [PyData.canLayAll0]
  | x :: l => by
    show PyData.canLayAll0 (.int x :: l.map .int) = true
    simp [PyData.canLayAll0, PyData.canLay0, lay_ints l]
theorem lay_list (b : List Nat) : PyData.canLay0 (.list (dI b)) = true := by
  simp only [PyData.canLay0]
  exact lay_ints _
theorem lay_tup (b : List Nat) : PyData.canLay0 (.tuple (dI b)) = true := by
  simp only [PyData.canLay0]
  exact lay_ints _
theorem dep_list (b : List Nat) : PyData.depth (.list (dI b)) = 1 := by
  rw [PyData.depth]
  unfold dI
  rw [PySem.W.depth_ints]
theorem dep_tup (b : List Nat) : PyData.depth (.tuple (dI b)) = 1 := by
  rw [PyData.depth]
  unfold dI
  rw [PySem.W.depth_ints]
theorem sh_list (b : List Nat) : SeqAt.shaped (.list (dI b)) = true := by
  unfold SeqAt.shaped
  rw [lay_list, dep_list]
  rfl
theorem sh_tup (b : List Nat) : SeqAt.shaped (.tuple (dI b)) = true := by
  unfold SeqAt.shaped
  rw [lay_tup, dep_tup]
  rfl
theorem dp_ints (K : PySem.W.Frag) (H : Hp) : ∀ l : List Int, DpAll K H (l.map V.int) (l.map .int)
  | [] => .nil
  | x :: l => .cons (.int x) (dp_ints K H l)
theorem dp_list {K : PySem.W.Frag} {H : Hp} {a : Addr} {b : List Nat} (h : SqL K H a (bV b)) : Dp K H (.ref a) (.list (dI b)) := .lst h (dp_ints K H _)
theorem dp_tup {K : PySem.W.Frag} {H : Hp} {a : Addr} {b : List Nat} (h : SqT K H a (bV b)) : Dp K H (.ref a) (.tuple (dI b)) := .tup h (dp_ints K H _)
abbrev sLBarred : Stmt := topS 38
theorem bV_erase : ∀ (b : List Nat) (k : Nat), (bV b).eraseIdx k = bV (b.eraseIdx k)
  | [], _ => rfl
  | _ :: _, 0 => rfl
  | x :: r, k + 1 => by
    have ih := bV_erase r k
    show V.int (x : Int) :: (bV r).eraseIdx k = V.int (x : Int) :: bV (r.eraseIdx k)
    rw [ih]
theorem up_len {bar : List Nat} {n : Nat} (h1 : bar.Pairwise (· < ·)) (h2 : ∀ p ∈ bar, p < n) : bar.length ≤ n := by
  have h := nodup_sub (l := bar) (m := List.range n) (by
    unfold List.Nodup
    exact h1.imp fun h e => by omega) fun x hx => List.mem_range.mpr (h2 x hx)
  rwa [List.length_range] at h
def spLBarred (K : PySem.W.Frag) : Sp := fun vs H Q _ => ∃ (a : Addr) (ms : List Nat) (n : Nat), vs = [.ref a, .int 0, .int (n : Int)] ∧ SqL K H a (bV ms) ∧ ms.length = 63 ∧ (2 ≤ n ∧ n ≤ 24) ∧
  ∀ H' l (bar : List Nat), Same H H' → H l = none → H' l = some (.lst (bV bar)) → Barred n bar → Q (.ref l) H'
section
variable {P : Program} {w : World} {K : PySem.W.Frag} {mg : Str → Option Value} {base : Heap}
theorem scLBarred : FnScope ["numbers", "first", "pits", "barred", "pit"] ["numbers", "first", "pits"] (defScope sLBarred) := ⟨rfl, rfl, rfl, by decide +kernel, rfl, by decide +kernel, by decide +kernel⟩
theorem k_lbarred (T : Txt mg) (D : DefAt K mg "_law_barred" sLBarred ["numbers", "first", "pits"]) : Kept P w K mg base 1 "_law_barred" ["numbers", "first", "pits"] (spLBarred K) := by
  refine .mk' D fun f fd F => F.ok scLBarred (fun vs H Q E h => ?_) (fun cdv A outer s H vs Q E hr h => ?_)
  · obtain ⟨a, ms, n, rfl, _⟩ := h
    rfl
  · obtain ⟨a, ms, n, rfl, hS, hm, ⟨hn1, hn2⟩, q⟩ := h
    have nd := scLBarred.nd
    refine ⟨_, pss_cons (ps_set (i := 3) nd rfl (.inl rfl) (pe_lst pa_nil))
      (pss_cons (ps_for PassesOwn.never rfl (pi_range1 (by rfl) T.zrange (pa_cons (pv 2) pa_nil)) (pg_name (i := 4) nd rfl (.inl rfl))
        (pss_one (ps_if (pt_cmpR op_eq (pe_op on_mod (pe_op on_div (pe_ix ixn_list (pv 0) (pe_op on_add (pe_nat 42) (pe_op on_mod (pe_op on_add (pe_op on_mul (pe_nat 7) (pv 1)) (pv 4)) (pe_nat 21))) (fun _ _ => rfl)) (pe_nat 3)) (pe_nat 3)) pe_int (nomark _))
          (pss_one (ps_expr (pe_bm PySem.F.plainAttrs_list PySem.F.slot_list_append PySem.F.type_list_append mt_append (pv 3) (pa_cons (pv 4) pa_nil)))) pss_nil)))
      (pss_cons (ps_if (pt_cmpR (op_eqD hr.units) (pv 3) (pe_lst pa_nil) (nomark _))
        (pss_one (ps_set (i := 3) nd rfl (.inl rfl) (pe_lst (pa_cons (pe_op on_mod (pe_op on_div (pe_ix ixn_list (pv 0) (pe_nat 5) (fun _ _ => rfl)) (pe_op on_add (pe_nat 1) (pe_op on_mul (pe_nat 24) (pv 1)))) (pv 2)) pa_nil)))) pss_nil)
      (pss_cons (ps_if (pt_cmpR op_eq (pe_callB lenn (by rfl) T.zlen PySem.boot_len (pa_cons (pv 3) pa_nil)) (pv 2) (nomark _))
        (pss_one (ps_expr (pe_bm PySem.F.plainAttrs_list PySem.F.slot_list_pop PySem.F.type_list_pop mt_popAt (pv 3) (pa_cons (pe_op on_mod (pe_op on_div (pe_ix ixn_list (pv 0) (pe_nat 6) (fun _ _ => rfl)) (pe_op on_add (pe_nat 1) (pe_op on_mul (pe_nat 24) (pv 1)))) (pv 2)) pa_nil)))) pss_nil)
      (pss_one (ps_ret (pv 3)))))), ?_⟩
    refine ⟨Nat.zero_le _, fun l hl => ?_⟩
    refine ⟨_, rfl, _, rfl, by omega, by omega, for_rangeN (n := n) rfl
      (fun i σ H' => ∃ (v : Option V) (bar : List Nat), σ = [some (.ref a), some (.int 0), some (.int (n : Int)), some (.ref l), v] ∧ Same H H' ∧ H' l = some (.lst (bV bar)) ∧ bar.Pairwise (· < ·) ∧ ∀ p ∈ bar, p < i)
      ⟨none, [], rfl, same_upd hl, upd_same, .nil, fun _ h => nomatch h⟩ ?_ ?_⟩
    · rintro i σ H' hi ⟨v, bar, rfl, s1, h1, h2, h3⟩
      refine ⟨_, rfl, _, rfl, 7, 0, rfl, rfl, .inl (by decide), _, rfl, _, i, rfl, rfl, _, 21, rfl, rfl, by decide, 42, _, rfl, rfl, a, ms, _, rfl, rfl, s1.seq hS, by omega, _, 3, rfl, rfl, ⟨by decide, by decide⟩, _, 3, rfl, rfl, by decide, rfl, _, rfl, ?_⟩
      refine ite2 (fun _ => ?_) (fun _ => ?_)
      · have e1 := up_len h2 h3
        refine ⟨_, rfl, .inl ⟨rfl, _, .of h1⟩, _, rfl, l, _, _, rfl, rfl, h1, ?_, ?_⟩
        · rw [bV_len]
          exact len_line (K := K) (by omega)
        · refine ⟨_, bar ++ [i], rfl, same_new s1 hl, by rw [upd_same, bV_snoc], ?_, fun p hp => ?_⟩
          · exact List.pairwise_append.mpr ⟨h2, List.pairwise_singleton _ _, fun x hx y hy => by rw [List.mem_singleton.mp hy]; exact h3 x hx⟩
          · rcases List.mem_append.mp hp with h | h
            · have := h3 p h
              omega
            · rw [List.mem_singleton.mp h]
              omega
      · exact ⟨_, bar, rfl, s1, h1, h2, fun p hp => by have := h3 p hp; omega⟩
    · rintro σ H' ⟨v, bar, rfl, s1, h1, h2, h3⟩
      -- if barred == []
      refine ⟨_, rfl, Nat.zero_le _, fun e he => ⟨.list (dI bar), .list [], dp_list (.of ((same_upd he) _ _ h1)), .lst (.of upd_same) .nil, sh_list bar, by decide, _, rfl, ?_⟩⟩
      have s2 := s1.trans (same_upd (o := .lst []) he)
      have h1' := (same_upd (o := .lst []) he) _ _ h1
      generalize upd H' e (.lst []) = H2 at s2 h1'
      refine if_two (fun σ' H3 => ∃ (v : Option V) (k : Addr) (br : List Nat), σ' = [some (.ref a), some (.int 0), some (.int (n : Int)), some (.ref k), v] ∧ Same H H3 ∧ H k = none ∧ H3 k = some (.lst (bV br)) ∧ br.Pairwise (· < ·) ∧ (∀ p ∈ br, p < n) ∧ 0 < br.length) ?_ ?_ ?_
      · rintro σ' H3 ⟨v, k, br, rfl, s3, hk, g1, g2, g3, g4⟩
        have hle := up_len g2 g3
        -- if len(barred) == pits
        refine ⟨_, rfl, k, br, rfl, .inl (.of g1), _, rfl, rfl, _, rfl, ite2 (fun hc => ?_) (fun hc => ?_)⟩
        · have el : br.length = n := Int.ofNat.inj (V.int.inj (of_decide_eq_true hc))
          have hj : ms.getD 6 0 / (1 + 24 * 0) % n < br.length := by rw [el]; exact Nat.mod_lt _ (by omega)
          refine ⟨_, rfl, .inl ⟨rfl, _, .of g1⟩, _, rfl, a, ms, 6, rfl, rfl, s3.seq hS, by omega, _, rfl, 24, 0, rfl, rfl, .inl (by decide), 1, _, rfl, rfl, _, _, rfl, rfl, ⟨by decide, by decide⟩, _, rfl, _, n, rfl, rfl, by omega,
            k, _, _, ms.getD 6 0 / (1 + 24 * 0) % n, _, rfl, rfl, g1, by omega, by omega, ?_, bV_at hj, ?_⟩
          · rw [bV_len, seqIndex_of (by omega) (by omega)]
            rfl
          · rw [bV_erase]
            refine ⟨_, rfl, q _ k _ (same_new s3 hk) hk upd_same ⟨g2.sublist (List.eraseIdx_sublist _ _), fun p hp => g3 p (List.mem_of_mem_eraseIdx hp), ?_, ?_⟩⟩
            · rw [List.length_eraseIdx_of_lt hj]
              omega
            · rw [List.length_eraseIdx_of_lt hj]
              omega
        · have ne : br.length ≠ n := fun el => hc (decide_eq_true (by rw [el]))
          exact ⟨_, rfl, q H3 k br s3 hk g1 ⟨g2, g3, g4, by omega⟩⟩
      · intro _ hh
        refine ⟨_, rfl, a, ms, 5, rfl, rfl, s2.seq hS, by omega, _, rfl, 24, 0, rfl, rfl, .inl (by decide), 1, _, rfl, rfl, _, _, rfl, rfl, ⟨by decide, by decide⟩, _, rfl, _, n, rfl, rfl, by omega, (by show 1 ≤ sizeLine; decide), fun k hk => ?_⟩
        refine hh _ _ ⟨_, k, [ms.getD 5 0 / (1 + 24 * 0) % n], rfl, s2.trans (same_upd hk), s2.free hk, upd_same, List.pairwise_singleton _ _, fun p hp => ?_, by show 0 < 1; decide⟩
        rw [List.mem_singleton.mp hp]
        exact Nat.mod_lt _ (by omega)
      · intro hb
        refine ⟨_, l, bar, rfl, s2, hl, h1', h2, h3, ?_⟩
        cases bar with
        | nil => exact absurd hb (by decide)
        | cons x r => exact Nat.succ_pos _
end
end SwD
namespace SwD
open PySem PySem.Spec PyProof.Rows L2 Sw SwR
abbrev sLAll : Stmt := topS 41
def trV (_ : List Nat) : V := .bl true
theorem keysL {H : Hp} {f : List Nat → V} : ∀ {ms : List (List Nat)} {bs : List Addr}, IsKeys H (tab f ms) bs →
    ∃ L : List (Addr × List Int), L.map (·.1) = bs ∧ L.map (·.2) = ms.map zs ∧ ∀ p ∈ L, H p.1 = some (.tup (p.2.map V.int))
  | [], _, h => by
    have h' : Paired _ [] _ := h
    cases h'
    exact ⟨[], rfl, rfl, fun _ h => nomatch h⟩
  | m :: ms, _, h => by
    have h' : Paired (fun (p : List L2.Key × V) (b : Addr) => H b = some (.tup (p.1.map kV))) ((bK m, f m) :: tab f ms) _ := h
    cases h' with
    | @cons _ b _ bs h1 h2 =>
      obtain ⟨L, e1, e2, e3⟩ := keysL (ms := ms) h2
      refine ⟨(b, zs m) :: L, by rw [List.map_cons, e1], by rw [List.map_cons, e2, List.map_cons], fun p hp => ?_⟩
      rcases List.mem_cons.mp hp with rfl | hp
      · have h3 : H b = some (.tup ((bK m).map kV)) := h1
        rw [bK_kV] at h3
        exact h3
      · exact e3 p hp
def spLAll (K : PySem.W.Frag) : Sp := fun vs H Q _ => ∃ (a c : Addr) (b : List Nat) (X : Pits), vs = [.ref a, .ref c] ∧ SqL K H a (bV b) ∧ SqL K H c (bV X.bar) ∧ Bd X b ∧ okB X.n X.S = true ∧
  ∀ H' l (ts : List Addr) bs, Same H H' → H l = none → H' l = some (.lst (ts.map V.ref)) → Paired (BdAt H') ts bs → RList X b bs → Q (.ref l) H'
section
variable {P : Program} {w : World} {K : PySem.W.Frag} {mg : Str → Option Value} {base : Heap}
theorem scLAll : FnScope ["board", "barred", "met", "line", "other"] ["board", "barred"] (defScope sLAll) := ⟨rfl, rfl, rfl, by decide +kernel, rfl, by decide +kernel, by decide +kernel⟩
def AllW (X : Pits) (s : List Nat) (a c d l : Addr) (H : Hp) (m : Nat) (σ : L2.St) (H' : Hp) : Prop := ∃ (v4 : Option V) (ts : List Addr) (ls ms : List (List Nat)),
  σ = [some (.ref a), some (.ref c), some (.ref d), some (.ref l), v4] ∧ Same H H' ∧ H' d = some (.dT (tab trV ms)) ∧ H' l = some (.lst (ts.map V.ref)) ∧ Paired (BdAt H') ts ls ∧ LS X s ms ls (fun _ => False) ∧ m = lsM ms ls
theorem k_lall (T : Txt mg) (D : DefAt K mg "_law_all" sLAll ["board", "barred"]) (G : Kept P w K mg base 2 "_law_after" ["board", "barred"] (spLAfter K)) : Kept P w K mg base 3 "_law_all" ["board", "barred"] (spLAll K) := by
  refine .mk' D fun f fd F => F.ok scLAll (fun vs H Q E h => ?_) (fun cdv A outer s H vs Q E hr h => ?_)
  · obtain ⟨a, c, b, X, rfl, _⟩ := h
    rfl
  · obtain ⟨a, c, s0, X, rfl, hS, hC, hs, ok, q⟩ := h
    have nd := scLAll.nd
    have hu := hu_of hr
    refine ⟨_, pss_cons (ps_set (i := 2) nd rfl (.inl rfl) (pe_disp1 hu (pe_callTy call_tuple_of (by rfl) T.ztuple boot_tuple (pa_cons (pv 0) pa_nil)) pe_bl))
      (pss_cons (ps_set (i := 3) nd rfl (.inl rfl) (pe_lst (pa_cons (pe_callTy call_tuple_of (by rfl) T.ztuple boot_tuple (pa_cons (pv 0) pa_nil)) pa_nil)))
      (pss_cons (ps_while PassesOwn.never (pt_cmpR op_gt (pe_callB call_len_seq (by rfl) T.zlen PySem.boot_len (pa_cons (pv 3) pa_nil)) pe_int (nomark _))
        (pss_one (ps_for PassesOwn.never rfl (pi_list (pe_kept G hr (pa_cons (pe_bm0 PySem.F.plainAttrs_list PySem.F.slot_list_pop PySem.F.type_list_pop mt_pop (pv 3)) (pa_cons (pv 1) pa_nil)))) (pg_name (i := 4) nd rfl (.inl rfl))
          (pss_one (ps_if (pt_cmp (pc_dnotin hu (pv 4) (pv 2)))
            (pss_cons (ps_dput hu (pv 2) (pv 4) pe_bl rfl)
            (pss_one (ps_expr (pe_bm PySem.F.plainAttrs_list PySem.F.slot_list_append PySem.F.type_list_append mt_append (pv 3) (pa_cons (pv 4) pa_nil))))) pss_nil)))))
      (pss_one (ps_ret (pe_callB (cr_sortTups hr.units) (by rfl) T.zsorted boot_sorted (pa_cons (pe_callTy (call_list_dT rfl) (by rfl) T.zlist boot_list (pa_cons (pv 2) pa_nil)) pa_nil)))))), ?_⟩
    obtain ⟨n1, n2, n3⟩ := okB_lt ok
    -- met = {tuple(board): True}
    intro d hd
    have sd : Same H (upd H d (.dT [])) := same_upd hd
    refine ⟨_, rfl, a, _, rfl, .inl ⟨sd.seq hS, fun t1 ht1 => ?_⟩⟩
    have s1 := same_upd (o := .tup (bV s0)) ht1
    refine ⟨t1, bK s0, rfl, s1 _ _ upd_same, by rw [upd_same, bK_kV], ?_⟩
    have s2 : Same H (upd (upd (upd H d (.dT [])) t1 (.tup (bV s0))) d (.dT (tab trV [s0]))) := same_new (sd.trans s1) hd
    have hd2 : upd (upd (upd H d (.dT [])) t1 (.tup (bV s0))) d (.dT (tab trV [s0])) d = some (.dT (tab trV [s0])) := upd_same
    show tSeq _ _ _ _ (upd (upd (upd H d (.dT [])) t1 (.tup (bV s0))) d (.dT (tab trV [s0])))
    generalize upd (upd (upd H d (.dT [])) t1 (.tup (bV s0))) d (.dT (tab trV [s0])) = H2 at s2 hd2
    -- line = [tuple(board)]
    refine ⟨_, rfl, a, _, rfl, .inl ⟨s2.seq hS, fun t0 ht0 => ⟨(by show 1 ≤ sizeLine; decide), fun l hl => ?_⟩⟩⟩
    have st0 := same_upd (o := .tup (bV s0)) ht0
    have sl0 := same_upd (o := .lst [.ref t0]) hl
    have s3 := s2.trans (st0.trans sl0)
    have hd3 := st0.trans sl0 _ _ hd2
    have dl0 : d ≠ l := ne_of_none (st0 _ _ hd2) hl
    have hl0 : H l = none := (s2.trans st0).free hl
    refine ⟨AllW X s0 a c d l H, ⟨_, none, [t0], [s0], [s0], rfl, s3, hd3, upd_same, .cons (sl0 _ _ upd_same) .nil, LS.start, rfl⟩, ?_⟩
    rintro m σ H' ⟨v4, ts, ls, ms, rfl, sm, hd', hl', hp, ds, rfl⟩
    refine ⟨_, rfl, l, _, rfl, .inl (.of hl'), _, _, rfl, rfl, _, rfl, ?_⟩
    have hk := ds.ms_len ok hs
    rcases List.eq_nil_or_concat ls with rfl | ⟨l0, b, el⟩
    · obtain rfl := paired_nil hp
      refine dF (by decide) ?_
      -- sorted(list(met))
      refine ⟨_, rfl, d, _, rfl, .of hd', fun u bs hu1 hbs => ?_⟩
      obtain ⟨L, e1, e2, e3⟩ := keysL hbs
      have su := same_upd (o := .lst (bs.map V.ref)) hu1
      have eL : bs.map V.ref = L.map fun p => V.ref p.1 := by
        rw [← e1, List.map_map]
        rfl
      have hmd := ds.done
      refine ⟨u, L, rfl, .of (by rw [upd_same, eL]), fun p hp => ⟨su _ _ (e3 p hp), fun e => ?_⟩, fun M v hM hMs hv => ?_⟩
      · have m1 : p.2 ∈ ms.map zs := by
          rw [← e2]
          exact List.mem_map.mpr ⟨p, hp, rfl⟩
        obtain ⟨k, hk, ek⟩ := List.mem_map.mp m1
        have l1 := congrArg List.length ek
        rw [e, zs_len, ((ds.rm k hk).bd hs).len] at l1
        have l2 : X.n = 0 := l1
        omega
      · rw [e2] at hM
        obtain ⟨cs, ecs⟩ := srt_boards ms
        have hb : Paired (BdAt (upd H' u (.lst (bs.map V.ref)))) (M.map (·.1)) cs := bds_of (hM.trans ecs) fun q hq => su _ _ (e3 q (hMs q hq))
        have sv := same_upd (o := .lst ((M.map (·.1)).map V.ref)) hv
        have eM : (M.map fun q => V.ref q.1) = (M.map (·.1)).map V.ref := by
          rw [List.map_map]
          rfl
        rw [eM]
        exact q _ v (M.map (·.1)) cs ((sm.trans su).trans sv) ((sm.trans su).free hv) upd_same (L2.Paired.mapP hb fun t y h => h.same sv) ⟨ms, hmd.1, hmd.2, ecs.symm⟩
    · rw [List.concat_eq_append] at el
      subst el
      obtain ⟨ts0, t, rfl, hp0, ht⟩ := paired_last hp
      have hbm : b ∈ ms := ds.sub b (List.mem_append.mpr (.inr List.mem_cons_self))
      have hb : Bd X b := (ds.rm b hbm).bd hs
      have hbl := hb.len
      have hbs := hb.sum
      have lts := Paired.length hp
      refine dT (by rw [List.length_map, List.length_append]; show (0 : Int) < ((_ + 1 : Nat) : Int); omega)
        ⟨fun σ' H2 => ∃ m', m' < lsM ms (l0 ++ [b]) ∧ AllW X s0 a c d l H m' σ' H2, fun _ _ z => z, ?_⟩
      -- line.pop()
      refine ⟨_, rfl, .inl ⟨rfl, _, .of hl'⟩, l, _, .ref t, rfl, rfl, hl', ?_, ?_⟩
      · rw [List.map_append]
        simp
      have ed : ((ts0 ++ [t]).map V.ref).dropLast = ts0.map V.ref := by
        rw [List.map_append]
        simp
      rw [ed]
      have sm1 : Same H (upd H' l (.lst (ts0.map V.ref))) := same_new sm hl0
      have hd1 : upd H' l (.lst (ts0.map V.ref)) d = some (.dT (tab trV ms)) := by
        rw [upd_ne dl0]
        exact hd'
      have hp1 : Paired (BdAt (upd H' l (.lst (ts0.map V.ref)))) ts0 l0 := L2.Paired.mapP hp0 fun t y h => h.upd hl' fun ys e => nomatch e
      have ht1 : BdAt (upd H' l (.lst (ts0.map V.ref))) t b := ht.upd hl' fun ys e => nomatch e
      have hl1 : upd H' l (.lst (ts0.map V.ref)) l = some (.lst (ts0.map V.ref)) := upd_same
      generalize upd H' l (.lst (ts0.map V.ref)) = H1 at sm1 hd1 hp1 ht1 hl1
      -- _law_after(.., barred)
      refine ⟨_, rfl, t, c, b, X.bar, rfl, .of ht1, sm1.seq hC, by omega, by omega, fun H2 u us s2 nu hu1 hus => ?_⟩
      have hul : u ≠ l := Ne.symm (ne_of_none hl1 nu)
      have hud : u ≠ d := Ne.symm (ne_of_none hd1 nu)
      have lm0 : lsM ms l0 < lsM ms (l0 ++ [b]) := by
        unfold lsM
        rw [List.length_append]
        exact Nat.lt_succ_self _
      refine ⟨u, rfl, ⟨_, .of hu1⟩, for_list (K := K) (a := u) (xs := us.map V.ref)
        (fun i σ H' => ∃ (v4 : Option V) (ts : List Addr) (ls mt : List (List Nat)), σ = [some (.ref a), some (.ref c), some (.ref d), some (.ref l), v4] ∧ Same H H' ∧ H' u = some (.lst (us.map V.ref)) ∧ Paired (BdAt H') us (X.nx b) ∧
          H' d = some (.dT (tab trV mt)) ∧ H' l = some (.lst (ts.map V.ref)) ∧ Paired (BdAt H') ts ls ∧ LS X s0 mt ls (fun x => x = b) ∧ b ∈ mt ∧ (∀ y ∈ (X.nx b).take i, y ∈ mt) ∧ lsM mt ls < lsM ms (l0 ++ [b]))
        ⟨v4, ts0, l0, ms, rfl, sm1.trans s2, hu1, hus, s2 _ _ hd1, s2 _ _ hl1, L2.Paired.mapP hp1 fun t y h => h.same s2, ds.pop, hbm, (fun y hy => absurd hy (by simp)), lm0⟩
        (fun i σ H' _ ⟨_, _, _, _, _, _, g, _⟩ => .of g) ?_ ?_⟩
      · rintro i x σ H3 hx ⟨v4, ts, ls, mt, rfl, sm3, g1, g2, g3, g4, g5, g6, g7, g8, g9⟩
        obtain ⟨t', ht', rfl⟩ := ref_at hx
        obtain ⟨y, hyi, hy⟩ := paired_get g2 ht'
        have hynx : y ∈ X.nx b := List.mem_of_getElem? hyi
        have hmt := g6.ms_len ok hs
        refine ⟨_, rfl, _, rfl, d, _, rfl, .t (k := bK y) g3 hy.key, _, rfl, ?_⟩
        rw [valV_tab]
        by_cases my : y ∈ mt
        · rw [if_pos my]
          refine ⟨_, ts, ls, mt, rfl, sm3, g1, g2, g3, g4, g5, g6, g7, fun z hz => ?_, g9⟩
          rw [take_at hyi] at hz
          rcases List.mem_append.mp hz with h | h
          · exact g8 z h
          · rw [List.mem_singleton.mp h]
            exact my
        · rw [if_neg my]
          have g6' := g6.add g7 hynx my
          have hmt' := g6'.ms_len ok hs
          refine ⟨_, rfl, _, rfl, d, _, rfl, .t (k := bK y) g3 hy.key (by rw [tab_len]; exact len_line (K := K) (by omega)), ?_⟩
          rw [show putK (tab trV mt) (bK y) (V.bl true) = tab trV (mt ++ [y]) from putK_tab (f := trV) my]
          have hl4 : upd H3 d (.dT (tab trV (mt ++ [y]))) l = some (.lst (ts.map V.ref)) := by
            rw [upd_ne (Ne.symm dl0)]
            exact g4
          have lts := Paired.length g5
          have lll := g6.ll
          refine ⟨_, rfl, .inl ⟨rfl, _, .of hl4⟩, _, rfl, l, _, _, rfl, rfl, hl4, ?_, ?_⟩
          · rw [List.length_map]
            exact len_line (K := K) (by omega)
          · have kp : ∀ {t : Addr} {z : List Nat}, BdAt H3 t z → BdAt (upd (upd H3 d (.dT (tab trV (mt ++ [y])))) l (.lst (ts.map V.ref ++ [V.ref t']))) t z := fun h =>
              (h.upd g3 fun ys e => nomatch e).upd hl4 fun ys e => nomatch e
            refine ⟨_, ts ++ [t'], ls ++ [y], mt ++ [y], rfl, same_new (same_new sm3 hd) hl0, ?_, L2.Paired.mapP g2 fun _ _ h => kp h, ?_, ?_, L2.Paired.mapP (paired_snoc g5 hy) fun _ _ h => kp h, g6', List.mem_append.mpr (.inl g7), fun z hz => ?_, ?_⟩
            · rw [upd_ne hul, upd_ne hud]
              exact g1
            · rw [upd_ne dl0, upd_same]
            · rw [upd_same, List.map_append]
              rfl
            · rw [take_at hyi] at hz
              rcases List.mem_append.mp hz with h | h
              · exact List.mem_append.mpr (.inl (g8 z h))
              · exact List.mem_append.mpr (.inr h)
            · rw [List.length_append] at hmt'
              unfold lsM at g9 ⊢
              rw [List.length_append, List.length_append]
              simp only [List.length_cons, List.length_nil] at hmt' g9 ⊢
              omega
      · rintro σ H3 ⟨v4, ts, ls, mt, rfl, sm3, g1, g2, g3, g4, g5, g6, g7, g8, g9⟩
        rw [List.length_map, Paired.length g2, List.take_length] at g8
        exact ⟨_, g9, v4, ts, ls, mt, rfl, sm3, g3, g4, g5, g6.close g8, rfl⟩
end
end SwD
namespace SwD
open PySem PySem.Spec PyProof.Rows L2 Sw SwR
abbrev sLWhole : Stmt := topS 42
abbrev sLTup : Stmt := topS 43
abbrev sLTab : Stmt := topS 44
def spWhole : Sp := fun vs H Q _ => ∃ i : Int, vs = [.int i] ∧ Q (.bl true) H
def spTupleOf : Sp := fun vs H Q _ => ∃ (a : Addr) (b : List Nat), vs = [.ref a, .int (b.length : Nat)] ∧ H a = some (.lst (bV b)) ∧ ∀ H' t, Same H H' → H t = none → BdAt H' t b → Q (.ref t) H'
def spTable : Sp := fun vs H Q _ => ∃ (fa ga : Addr) (X : Pits) (rs : List (Addr × Addr)) (ts : List Addr) (bs : List (List Nat)), vs = [.ref fa, .ref ga] ∧ H fa = some (.lst (refs1 rs)) ∧ Paired (FdAt X.gr H) rs bs ∧
  H ga = some (.lst (ts.map V.ref)) ∧ Paired (BdAt H) ts bs ∧ bs.Nodup ∧ bs.length ≤ 1000 ∧ ∀ H' d, Same H H' → H d = none → H' d = some (.dT (tab (grV X) bs)) → Q (.ref d) H'
section
variable {P : Program} {w : World} {K : PySem.W.Frag} {mg : Str → Option Value} {base : Heap}
theorem kit_ii : PySem.W.kitOne K (.type "int") (.type "int") = some true := kit_ty (by decide +kernel)
theorem kit_ib : PySem.W.kitOne K (.type "int") (.type "bool") = some false := kit_ty (by decide +kernel)
theorem kit_ll : PySem.W.kitOne K (.type "list") (.type "list") = some true := kit_ty (by decide +kernel)
theorem kit_tt : PySem.W.kitOne K (.type "tuple") (.type "tuple") = some true := kit_ty (by decide +kernel)
theorem scLWhole : FnScope ["found"] ["found"] (defScope sLWhole) := ⟨rfl, rfl, rfl, by decide +kernel, rfl, by decide +kernel, by decide +kernel⟩
theorem k_lwhole (T : Txt mg) (D : DefAt K mg "_law_whole_number" sLWhole ["found"]) : Kept P w K mg base 1 "_law_whole_number" ["found"] spWhole := by
  refine .mk' D fun f fd F => F.ok scLWhole (fun vs H Q E h => ?_) (fun cdv A outer s H vs Q E hr h => ?_)
  · obtain ⟨i, rfl, _⟩ := h
    rfl
  · obtain ⟨i, rfl, q⟩ := h
    refine ⟨_, pss_one (ps_ret (pe_and (pe_callB call_isi (by rfl) T.zisi boot_isinstance (pa_cons (pv 0) (pa_cons (pe_bltn (v := .ty "int") (by rfl) T.zint (by decide +kernel) rfl) pa_nil)))
      (pe_one (pe_not (pe_callB call_isi (by rfl) T.zisi boot_isinstance (pa_cons (pv 0) (pa_cons (pe_bltn (v := .ty "bool") (by rfl) T.zbool (by decide +kernel) rfl) pa_nil))))))), ?_⟩
    refine ⟨_, rfl, _, _, .type "int", .type "int", true, rfl, .ty _, .base (.int i), kit_ii, true, rfl, iteT ?_⟩
    refine ⟨_, rfl, _, _, .type "int", .type "bool", false, rfl, .ty _, .base (.int i), kit_ib, false, rfl, q⟩
theorem scLTup : FnScope ["found", "pits", "seeds"] ["found", "pits"] (defScope sLTup) := ⟨rfl, rfl, rfl, by decide +kernel, rfl, by decide +kernel, by decide +kernel⟩
theorem k_ltup (T : Txt mg) (D : DefAt K mg "_law_tuple_of" sLTup ["found", "pits"]) (G : Kept P w K mg base 1 "_law_whole_number" ["found"] spWhole) : Kept P w K mg base 2 "_law_tuple_of" ["found", "pits"] spTupleOf := by
  refine .mk' D fun f fd F => F.ok scLTup (fun vs H Q E h => ?_) (fun cdv A outer s H vs Q E hr h => ?_)
  · obtain ⟨a, b, rfl, _⟩ := h
    rfl
  · obtain ⟨a, b, rfl, hS, q⟩ := h
    have nd := scLTup.nd
    refine ⟨_, pss_cons (ps_if (PW.pt (pw_or (pt_not (pt_val (pe_callB call_isi (by rfl) T.zisi boot_isinstance (pa_cons (pv 0) (pa_cons (pe_bltn (v := .ty "list") (by rfl) T.zlist boot_list rfl) pa_nil)))))
        (pw_or1 (pt_cmpR op_ne (pe_callB lenn (by rfl) T.zlen PySem.boot_len (pa_cons (pv 0) pa_nil)) (pv 1) (nomark _))))) (pss_one (ps_ret pe_non)) pss_nil)
      (pss_cons (ps_for PassesOwn.never rfl (pi_list (pv 0)) (pg_name (i := 2) nd rfl (.inl rfl)) (pss_one (ps_if (pt_not (pt_val (pe_kept G hr (pa_cons (pv 2) pa_nil)))) (pss_one (ps_ret pe_non)) pss_nil)))
      (pss_one (ps_ret (pe_callTy call_tuple_of (by rfl) T.ztuple boot_tuple (pa_cons (pv 0) pa_nil))))), ?_⟩
    refine ⟨_, rfl, _, _, .type "list", .type "list", true, rfl, .ty _, .base (.lst hS), kit_ll, true, rfl, iteF ?_⟩
    refine ⟨_, rfl, a, b, rfl, .inl (.of hS), _, rfl, rfl, _, rfl, iteNS rfl ?_⟩
    refine ⟨_, rfl, a, rfl, ⟨_, .of hS⟩, for_list (K := K) (a := a) (xs := bV b) (fun i σ H' => ∃ v, σ = [some (.ref a), some (.int (b.length : Nat)), v] ∧ H' = H) ⟨none, rfl, rfl⟩ (fun i σ H' _ ⟨v, _, e⟩ => by rw [e]; exact .of hS) ?_ ?_⟩
    · rintro i x σ H' hx ⟨v, rfl, rfl⟩
      obtain ⟨hi, rfl⟩ := bV_of hx
      refine ⟨_, rfl, _, rfl, true, rfl, iteF ?_⟩
      exact ⟨_, rfl, rfl⟩
    · rintro σ H' ⟨v, rfl, rfl⟩
      exact ⟨_, rfl, a, _, rfl, .inl ⟨.of hS, fun t ht => q _ t (same_upd ht) ht upd_same⟩⟩
theorem scLTab : FnScope ["found", "boards", "table", "k", "pair"] ["found", "boards"] (defScope sLTab) := ⟨rfl, rfl, rfl, by decide +kernel, rfl, by decide +kernel, by decide +kernel⟩
theorem k_ltab (T : Txt mg) (D : DefAt K mg "_law_table" sLTab ["found", "boards"]) (G1 : Kept P w K mg base 1 "_law_whole_number" ["found"] spWhole) (G2 : Kept P w K mg base 2 "_law_tuple_of" ["found", "pits"] spTupleOf) :
    Kept P w K mg base 3 "_law_table" ["found", "boards"] spTable := by
  refine .mk' D fun f fd F => F.ok scLTab (fun vs H Q E h => ?_) (fun cdv A outer s H vs Q E hr h => ?_)
  · obtain ⟨fa, ga, X, rs, ts, bs, rfl, _⟩ := h
    rfl
  · obtain ⟨fa, ga, X, rs, ts, bs, rfl, hF, hrs, hB, hts, hnd, hlen, q⟩ := h
    have nd := scLTab.nd
    have hu := hu_of hr
    refine ⟨_, pss_cons (ps_if (PW.pt (pw_or (pt_not (pt_val (pe_callB call_isi (by rfl) T.zisi boot_isinstance (pa_cons (pv 0) (pa_cons (pe_bltn (v := .ty "list") (by rfl) T.zlist boot_list rfl) pa_nil)))))
        (pw_or1 (pt_cmpR op_ne (pe_callB call_len_seq (by rfl) T.zlen PySem.boot_len (pa_cons (pv 0) pa_nil)) (pe_callB call_len_seq (by rfl) T.zlen PySem.boot_len (pa_cons (pv 1) pa_nil)) (nomark _))))) (pss_one (ps_ret pe_non)) pss_nil)
      (pss_cons (ps_set (i := 2) nd rfl (.inl rfl) pe_dnewT)
      (pss_cons (ps_for PassesOwn.never rfl (pi_range1 (by rfl) T.zrange (pa_cons (pe_callB call_len_seq (by rfl) T.zlen PySem.boot_len (pa_cons (pv 1) pa_nil)) pa_nil)) (pg_name (i := 3) nd rfl (.inl rfl))
        (pss_cons (ps_set (i := 4) nd rfl (.inl rfl) (pe_ix ix_list (pv 0) (pv 3) (fun _ _ => rfl)))
        (pss_cons (ps_if (PW.pt (pw_or (pt_not (pt_val (pe_callB call_isi (by rfl) T.zisi boot_isinstance (pa_cons (pv 4) (pa_cons (pe_bltn (v := .ty "tuple") (by rfl) T.ztuple boot_tuple rfl) pa_nil)))))
          (pw_or (pt_cmpR op_ne (pe_callB call_len_seq (by rfl) T.zlen PySem.boot_len (pa_cons (pv 4) pa_nil)) pe_int (nomark _))
          (pw_or1 (pt_not (pt_val (pe_kept G1 (hr.mono (by decide)) (pa_cons (pe_ix ix_tup (pv 4) pe_int (fun _ _ => rfl)) pa_nil)))))))) (pss_one (ps_ret pe_non)) pss_nil)
        (pss_cons (ps_if (pt_cmpR (op_neD hr.units) (pe_kept G2 hr (pa_cons (pe_ix ix_tup (pv 4) pe_int (fun _ _ => rfl)) (pa_cons (pe_callB lenn (by rfl) T.zlen PySem.boot_len (pa_cons (pe_ix ix_list (pv 1) (pv 3) (fun _ _ => rfl)) pa_nil)) pa_nil)))
          (pe_ix ix_list (pv 1) (pv 3) (fun _ _ => rfl)) (nomark _)) (pss_one (ps_ret pe_non)) pss_nil)
        (pss_one (ps_dput hu (pv 2) (pe_ix ix_list (pv 1) (pv 3) (fun _ _ => rfl)) (pe_ix ix_tup (pv 4) pe_int (fun _ _ => rfl)) rfl))))))
      (pss_one (ps_ret (pv 2))))), ?_⟩
    have l1 := Paired.length hrs
    have l2 := Paired.length hts
    have e1 : (refs1 rs).length = rs.length := List.length_map _
    have e2 : (ts.map V.ref).length = ts.length := List.length_map _
    refine ⟨_, rfl, _, _, .type "list", .type "list", true, rfl, .ty _, .base (.lst hF), kit_ll, true, rfl, iteF ?_⟩
    refine ⟨_, rfl, fa, _, rfl, .inl (.of hF), _, rfl, ga, _, rfl, .inl (.of hB), rfl, _, rfl, iteNS (by rw [e1, e2, l1, l2]) ?_⟩
    intro d hd
    refine ⟨_, rfl, ga, _, rfl, .inl (.of ((same_upd hd) _ _ hB)), _, rfl, by omega, by omega, for_rangeN (n := bs.length) (by omega)
      (fun i σ H' => ∃ v3 v4 : Option V, σ = [some (.ref fa), some (.ref ga), some (.ref d), v3, v4] ∧ Same H H' ∧ H' d = some (.dT (tab (grV X) (bs.take i))))
      ⟨none, none, rfl, same_upd hd, upd_same⟩ ?_ ?_⟩
    · rintro i σ H' hi ⟨v3, v4, rfl, sm, hd'⟩
      obtain ⟨r, hri⟩ : ∃ r, rs[i]? = some r := ⟨_, List.getElem?_eq_getElem (by omega)⟩
      obtain ⟨t, hti⟩ : ∃ t, ts[i]? = some t := ⟨_, List.getElem?_eq_getElem (by omega)⟩
      obtain ⟨b, hbi, hr1⟩ := paired_get hrs hri
      obtain ⟨b', hbi', ht1⟩ := paired_get hts hti
      have eb : b' = b := Option.some.inj (hbi'.symm.trans hbi)
      rw [eb] at ht1
      have gr : (refs1 rs)[i]? = some (.ref r.1) := by
        unfold refs1
        rw [List.getElem?_map, hri]
        rfl
      have gt : (ts.map V.ref)[i]? = some (.ref t) := by
        rw [List.getElem?_map, hti]
        rfl
      have hr2 := hr1.same sm
      have ht2 := ht1.same sm
      refine ⟨_, rfl, _, rfl, fa, _, _, _, rfl, rfl, .of (sm _ _ hF), atI_nat gr, ?_⟩
      refine ⟨_, rfl, _, _, .type "tuple", .type "tuple", true, rfl, .ty _, .base (.tup hr2.1), kit_tt, true, rfl, iteF ?_⟩
      refine ⟨_, rfl, r.1, _, rfl, .inr (.of hr2.1), rfl, _, rfl, iteNS rfl ?_⟩
      refine ⟨_, rfl, r.1, _, 1, _, rfl, rfl, .of hr2.1, rfl, _, rfl, true, rfl, iteF ?_⟩
      refine ⟨_, rfl, r.1, _, 0, _, rfl, rfl, .of hr2.1, rfl, _, rfl, _, rfl, ga, _, _, _, rfl, rfl, .of (sm _ _ hB), atI_nat gt, t, b, rfl, .inr (.of ht2), r.2, b, rfl, hr2.2, fun H3 u s3 nu hu3 => ?_⟩
      have ht3 := ht2.same s3
      refine ⟨_, rfl, _, rfl, ga, _, _, _, rfl, rfl, .of (s3 _ _ (sm _ _ hB)), atI_nat gt, _, _, dp_tup (.of hu3), dp_tup (.of ht3), sh_tup b, sh_tup b, _, rfl, ?_⟩
      rw [SeqAt.eqv_refl _ (lay_tup b)]
      refine iteF ?_
      have hd3 := s3 _ _ hd'
      have sm3 := sm.trans s3
      have hr3 := hr2.same s3
      have hn : b ∉ bs.take i := fun m => by
        obtain ⟨j, hj, ej⟩ := List.getElem_of_mem m
        rw [List.length_take] at hj
        rw [List.getElem_take] at ej
        have := nd_ix hnd (List.getElem?_eq_some_iff.mpr ⟨by omega, ej⟩) hbi
        omega
      refine ⟨_, rfl, r.1, _, 1, _, rfl, rfl, .of hr3.1, rfl, _, rfl, _, rfl, _, rfl, ga, _, _, _, rfl, rfl, .of (sm3 _ _ hB), atI_nat gt, d, _, rfl, .t (k := bK b) hd3 ht3.key ?_, ?_⟩
      · rw [tab_len, List.length_take]
        exact len_line (K := K) (by omega)
      · refine ⟨_, _, rfl, same_new sm3 hd, ?_⟩
        rw [upd_same, take_at hbi]
        show some (HO.dT (putK (tab (grV X) (bs.take i)) (bK b) (grV X b))) = _
        rw [putK_tab hn]
    · rintro σ H' ⟨v3, v4, rfl, sm, hd'⟩
      rw [List.take_length] at hd'
      exact ⟨_, rfl, q H' d sm hd hd'⟩
end
end SwD
namespace SwD
open PySem PySem.Spec PyProof.Rows L2 Sw SwR
abbrev sLaw : Stmt := topS 46
/-! ### told pairs as data -/
def dFd (f : List Nat → Nat) (b : List Nat) : PyData := .tuple [.list (dI b), .int (f b : Nat)]
theorem lay_fd (f : List Nat → Nat) (b : List Nat) : PyData.canLay0 (dFd f b) = true := by
  unfold dFd
  simp [PyData.canLay0, PyData.canLayAll0, lay_ints, dI]
theorem dep_fd (f : List Nat → Nat) (b : List Nat) : PyData.depth (dFd f b) = 2 := by
  unfold dFd
  simp [PyData.depth, PyData.depthAll, PySem.W.depth_ints, dI]
theorem sh_fd (f : List Nat → Nat) (b : List Nat) : SeqAt.shaped (dFd f b) = true := by
  unfold SeqAt.shaped
  rw [lay_fd, dep_fd]
  rfl
theorem lay_fds (f : List Nat → Nat) : ∀ bs : List (List Nat), PyData.canLayAll0 (bs.map (dFd f)) = true
  | [] => by simp [PyData.canLayAll0]
  | b :: bs => by
    rw [List.map_cons, PyData.canLayAll0, lay_fd, lay_fds f bs]
    rfl
theorem dep_fds (f : List Nat → Nat) : ∀ bs : List (List Nat), PyData.depthAll (bs.map (dFd f)) ≤ 2
  | [] => by simp [PyData.depthAll]
  | b :: bs => by
    rw [List.map_cons, PyData.depthAll, dep_fd]
    have := dep_fds f bs
    omega
theorem lay_all (f : List Nat → Nat) (bs : List (List Nat)) : PyData.canLay0 (.list (bs.map (dFd f))) = true := by
  rw [PyData.canLay0]
  exact lay_fds f bs
theorem sh_all (f : List Nat → Nat) (bs : List (List Nat)) : SeqAt.shaped (.list (bs.map (dFd f))) = true := by
  unfold SeqAt.shaped
  rw [lay_all, PyData.depth]
  have := dep_fds f bs
  simp only [Bool.true_and, decide_eq_true_eq]
  omega
theorem dp_fd {K : PySem.W.Frag} {H : Hp} {f : List Nat → Nat} {r : Addr × Addr} {b : List Nat} (h : FdAt f H r b) : Dp K H (.ref r.1) (dFd f b) := .tup (.of h.1) (.cons (dp_list (.of h.2)) (.cons (.int _) .nil))
theorem dp_fds {K : PySem.W.Frag} {H : Hp} {f : List Nat → Nat} : ∀ {rs : List (Addr × Addr)} {bs : List (List Nat)}, Paired (FdAt f H) rs bs → DpAll K H (refs1 rs) (bs.map (dFd f))
  | _, _, .nil => .nil
  | _, _, .cons h t => .cons (dp_fd h) (dp_fds t)
theorem lay_pair (b c : List Nat) : PyData.canLay0 (.list [.list (dI b), .list (dI c)]) = true := by
  simp [PyData.canLay0, PyData.canLayAll0, lay_ints, dI]
theorem sh_pair (b c : List Nat) : SeqAt.shaped (.list [.list (dI b), .list (dI c)]) = true := by
  unfold SeqAt.shaped
  rw [lay_pair]
  simp [PyData.depth, PyData.depthAll, PySem.W.depth_ints, dI]
theorem dp_pair {K : PySem.W.Frag} {H : Hp} {e x y : Addr} {b c : List Nat} (h : H e = some (.lst [.ref x, .ref y])) (hx : SqL K H x (bV b)) (hy : SqL K H y (bV c)) : Dp K H (.ref e) (.list [.list (dI b), .list (dI c)]) :=
  .lst (.of h) (.cons (dp_list hx) (.cons (dp_list hy) .nil))
/-- all but the inner lists of the first i told pairs is as it was -/
def Mid (rs : List (Addr × Addr)) (i : Nat) (H H' : Hp) : Prop := ∀ x o, H x = some o → (∀ j r, j < i → rs[j]? = some r → x ≠ r.2) → H' x = some o
def spLaw (K : PySem.W.Frag) : Sp := fun vs H Q _ => ∃ (a : Addr) (ns : List Int), vs = [.ref a] ∧ SqL K H a (ns.map V.int) ∧ ns.length ≤ 63 ∧ ∀ H', Q (.bl true) H'
section
variable {P : Program} {w : World} {K : PySem.W.Frag} {mg : Str → Option Value} {base : Heap}
theorem scLaw : FnScope ["script", "numbers", "board", "barred", "handed", "found", "boards", "table", "one", "kept", "k", "other", "pair"] ["script"] (defScope sLaw) := ⟨rfl, rfl, rfl, by decide +kernel, rfl, by decide +kernel, by decide +kernel⟩
theorem k_law {f : Addr} {fd : FuncData} (T : Txt mg) (F : Fun K "law" "law" sLaw f fd) (G1 : Kept P w K mg base 1 "_law_numbers" ["script", "many"] (spLNum K)) (G2 : Kept P w K mg base 1 "_law_board" ["numbers", "first"] (spLBoard K))
    (G3 : Kept P w K mg base 1 "_law_barred" ["numbers", "first", "pits"] (spLBarred K)) (G4 : Kept P w K mg base 7 "worths" ["board", "barred"] (spWorths K)) (G5 : Kept P w K mg base 3 "_law_all" ["board", "barred"] (spLAll K))
    (G6 : Kept P w K mg base 3 "_law_table" ["found", "boards"] spTable) (G7 : Kept P w K mg base 2 "_law_after" ["board", "barred"] (spLAfter K)) (G8 : Kept P w K mg base 1 "_law_least" ["numbers"] (spLeast K)) :
    FnOk P w K mg base CX0 8 f fd ["script"] (spLaw K) := by
  refine F.ok scLaw (fun vs H Q E h => ?_) (fun cdv A outer s H vs Q E hr h => ?_)
  · obtain ⟨a, ns, rfl, _⟩ := h
    rfl
  · obtain ⟨a, ns, rfl, hS, hns, q⟩ := h
    have nd := scLaw.nd
    have hu := hu_of hr
    have hr1 : Room 1 _ := hr.mono (by decide)
    have hr2 : Room 2 _ := hr.mono (by decide)
    have hr3 : Room 3 _ := hr.mono (by decide)
    refine ⟨_, pss_cons (ps_set (i := 1) nd rfl (.inl rfl) (pe_kept G1 hr1 (pa_cons (pv 0) (pa_cons pe_int pa_nil))))
      (pss_cons (ps_set (i := 2) nd rfl (.inl rfl) (pe_kept G2 hr1 (pa_cons (pv 1) (pa_cons pe_int pa_nil))))
      (pss_cons (ps_set (i := 3) nd rfl (.inl rfl) (pe_kept G3 hr1 (pa_cons (pv 1) (pa_cons pe_int (pa_cons (pe_callB lenn (by rfl) T.zlen PySem.boot_len (pa_cons (pv 2) pa_nil)) pa_nil)))))
      (pss_cons (ps_set (i := 4) nd rfl (.inl rfl) (pe_lst (pa_cons (pe_callTy call_list_of (by rfl) T.zlist boot_list (pa_cons (pv 2) pa_nil)) (pa_cons (pe_callTy call_list_of (by rfl) T.zlist boot_list (pa_cons (pv 3) pa_nil)) pa_nil))))
      (pss_cons (ps_set (i := 5) nd rfl (.inl rfl) (pe_kept G4 hr (pa_cons (pe_ix ix_list (pv 4) pe_int (fun _ _ => rfl)) (pa_cons (pe_ix ix_list (pv 4) pe_int (fun _ _ => rfl)) pa_nil))))
      (pss_cons (ps_set (i := 6) nd rfl (.inl rfl) (pe_kept G5 hr3 (pa_cons (pv 2) (pa_cons (pv 3) pa_nil))))
      (pss_cons (ps_set (i := 7) nd rfl (.inr rfl) (pe_kept G6 hr3 (pa_cons (pv 5) (pa_cons (pv 6) pa_nil))))
      (pss_cons (ps_if (PW.pt (pw_or (pt_cmpR (op_neD hr.units) (pv 4) (pe_lst (pa_cons (pv 2) (pa_cons (pv 3) pa_nil))) (nomark _)) (pw_or1 (pt_cmpR op_isN (pv 7) pe_non (nomark _))))) (pss_one (ps_ret pe_bl)) pss_nil)
      (pss_cons (ps_for PassesOwn.never rfl (pi_list (pv 6)) (pg_name (i := 8) nd rfl (.inl rfl))
        (pss_one (ps_if (pt_cmpR op_ne (pe_dget hu (pv 7) (pv 8) (fun _ _ => rfl)) (pe_kept G8 hr1 (pa_cons (pe_lc (own := [("other", 11)]) (g := gName 11) (tt := tYes) (by rfl) nd (pi_list (pe_kept G7 hr2 (pa_cons (pv 8) (pa_cons (pv 3) pa_nil))))
            (blkOk_by (own := [("other", 11)]) (N := ["script", "numbers", "board", "barred", "handed", "found", "boards", "table", "one", "kept", "k", "other", "pair"]) (sc := defScope sLaw) (by decide +kernel))
            (fun _ _ _ _ _ => pg_name (i := 11) nd rfl (.inl rfl)) (fun _ _ _ _ _ => pts_nil) (fun _ _ _ _ _ => pe_dget hu (pv 7) (pv 11) (fun _ _ => rfl))) pa_nil)) (nomark _)) (pss_one (ps_ret pe_bl)) pss_nil)))
      (pss_cons (ps_setLc (i := 9) (own := [("pair", 12)]) (g := gName 12) (tt := tYes) (by rfl) nd rfl rfl (sw_true rfl rfl rfl (by decide +kernel)) (pi_list (pv 5))
        (blkOk_by (own := [("pair", 12)]) (N := ["script", "numbers", "board", "barred", "handed", "found", "boards", "table", "one", "kept", "k", "other", "pair"]) (sc := defScope sLaw) (by decide +kernel))
        (fun _ _ _ _ _ => pg_name (i := 12) nd rfl (.inl rfl)) (fun _ _ _ _ _ => pts_nil)
        (fun _ _ _ _ _ => pe_tup (pa_cons (pe_callTy (r := rListOf K) call_list_of (by rfl) T.zlist boot_list (pa_cons (pe_ix (r := rIxT K) ix_tup (pv 12) pe_int (fun _ _ => rfl)) pa_nil)) (pa_cons (pe_ix (r := rIxT K) ix_tup (pv 12) pe_int (fun _ _ => rfl)) pa_nil))))
      (pss_cons (ps_for PassesOwn.never rfl (pi_range1 (by rfl) T.zrange (pa_cons (pe_callB call_len_seq (by rfl) T.zlen PySem.boot_len (pa_cons (pv 9) pa_nil)) pa_nil)) (pg_name (i := 10) nd rfl (.inl rfl))
        (pss_cons (ps_if (pt_cmpR (op_neD hr.units) (pe_ix ix_list (pv 5) (pv 10) (fun _ _ => rfl)) (pe_ix ix_list (pv 9) (pv 10) (fun _ _ => rfl)) (nomark _)) (pss_one (ps_ret pe_bl)) pss_nil)
        (pss_one (ps_expr (pe_bm PySem.F.plainAttrs_list PySem.F.slot_list_append PySem.F.type_list_append mt_append (pe_ix ix_tup (pe_ix ix_list (pv 5) (pv 10) (fun _ _ => rfl)) pe_int (fun _ _ => rfl)) (pa_cons pe_int pa_nil))))))
      (pss_cons (ps_expr (pe_bm PySem.F.plainAttrs_list PySem.F.slot_list_append PySem.F.type_list_append mt_append (pv 5) (pa_cons (pe_tup (pa_cons (pe_lst pa_nil) (pa_cons pe_int pa_nil))) pa_nil)))
      (pss_one (ps_ret (pe_and (pe_cmpR (op_eqD hr.units) (pe_kept G4 hr (pa_cons (pe_ix ix_list (pv 4) pe_int (fun _ _ => rfl)) (pa_cons (pe_ix ix_list (pv 4) pe_int (fun _ _ => rfl)) pa_nil))) (pv 9) (nomark _))
        (pe_one (pe_cmpR (op_eqD hr.units) (pv 4) (pe_lst (pa_cons (pv 2) (pa_cons (pv 3) pa_nil))) (nomark _))))))))))))))))), ?_⟩
    -- numbers, board, barred
    refine ⟨_, rfl, a, ns, rfl, hS, hns, fun H1 ln ms s1 n1 h1 hm => ?_⟩
    refine ⟨_, rfl, ln, ms, rfl, .of h1, hm, fun H2 lb b s2 n2 h2 ok => ?_⟩
    obtain ⟨b1, b2, b3⟩ := okB_lt ok
    refine ⟨_, rfl, _, rfl, lb, b, rfl, .inl (.of h2), ln, ms, b.length, rfl, .of (s2 _ _ h1), hm, ⟨b1, by omega⟩, fun H3 lr bar s3 n3 h3 hbar => ?_⟩
    have h2' := s3 _ _ h2
    -- handed
    refine ⟨_, rfl, lb, _, rfl, .inl (.of h2'), fun xb nb => ?_⟩
    have s4 := same_upd (o := .lst (bV b)) nb
    have hxb4 : upd H3 xb (.lst (bV b)) xb = some (.lst (bV b)) := upd_same
    generalize upd H3 xb (.lst (bV b)) = H4 at s4 hxb4
    refine ⟨_, rfl, lr, _, rfl, .inl (.of (s4 _ _ h3)), fun xr nr => ?_⟩
    have s5 := same_upd (o := .lst (bV bar)) nr
    have hxr5 : upd H4 xr (.lst (bV bar)) xr = some (.lst (bV bar)) := upd_same
    generalize upd H4 xr (.lst (bV bar)) = H5 at s5 hxr5
    refine ⟨(by show 2 ≤ sizeLine; decide), fun hd nhd => ?_⟩
    have s6 := same_upd (o := .lst [.ref xb, .ref xr]) nhd
    have hhd6 : upd H5 hd (.lst [.ref xb, .ref xr]) hd = some (.lst [.ref xb, .ref xr]) := upd_same
    show tSeq _ _ _ _ (upd H5 hd (.lst [.ref xb, .ref xr]))
    generalize upd H5 hd (.lst [.ref xb, .ref xr]) = H6 at s6 hhd6
    have hxb6 : H6 xb = some (.lst (bV b)) := s6 _ _ (s5 _ _ hxb4)
    have hxr6 : H6 xr = some (.lst (bV bar)) := s6 _ _ hxr5
    have hlb6 : H6 lb = some (.lst (bV b)) := s6 _ _ (s5 _ _ (s4 _ _ h2'))
    have hlr6 : H6 lr = some (.lst (bV bar)) := s6 _ _ (s5 _ _ (s4 _ _ h3))
    -- the boards' world
    obtain ⟨q0, hq0⟩ : ∃ q0, q0 ∈ bar := ⟨bar[0]'hbar.some, List.getElem_mem _⟩
    obtain ⟨X, eX1, eX2, eX3⟩ : ∃ X : Pits, X.bar = bar ∧ X.n = b.length ∧ X.S = b.sum := ⟨⟨bar, b.length, b.sum, q0, hq0, hbar.lt q0 hq0⟩, rfl, rfl, rfl⟩
    have hs : Bd X b := ⟨eX2.symm, eX3.symm⟩
    have okX : okB X.n X.S = true := by rw [eX2, eX3]; exact ok
    have hbX : Barred X.n X.bar := by rw [eX1, eX2]; exact hbar
    -- found = worths(..)
    refine ⟨_, rfl, hd, _, 0, _, rfl, rfl, .of hhd6, rfl, _, rfl, hd, _, 1, _, rfl, rfl, .of hhd6, rfl, xb, xr, b, X, rfl, .of hxb6, by rw [eX1]; exact .of hxr6, hs, hbX, okX, fun H7 lf rs bs tld => ?_⟩
    have s7 := tld.same
    have rl := tld.rl
    have hbsl : bs.length ≤ 1000 := bds_len okX rl.perm.1 fun y hy => ((rl.perm.2 y).mp hy).bd hs
    have lrs := Paired.length tld.all
    -- boards = _law_all(..)
    refine ⟨_, rfl, _, rfl, lb, lr, b, X, rfl, .of (s7 _ _ hlb6), by rw [eX1]; exact .of (s7 _ _ hlr6), hs, okX, fun H8 lg ts bs' s8 n8 h8 hts rl' => ?_⟩
    obtain rfl := RList.uniq rl rl'
    -- table = _law_table(..)
    have hlf8 := s8 _ _ tld.lst
    have hrs8 := L2.Paired.mapP tld.all fun r y h => FdAt.same s8 h
    refine ⟨_, rfl, _, rfl, lf, lg, X, rs, ts, bs, rfl, hlf8, hrs8, h8, hts, rl.perm.1, hbsl, fun H9 d s9 n9 h9 => ?_⟩
    have s69 : Same H6 H9 := s7.trans (s8.trans s9)
    -- handed != [board, barred] or table is None
    refine ⟨_, rfl, _, rfl, _, rfl, (by show 2 ≤ sizeLine; decide), fun e ne => ?_⟩
    have s10 := same_upd (o := .lst [.ref lb, .ref lr]) ne
    have he10 : upd H9 e (.lst [.ref lb, .ref lr]) e = some (.lst [.ref lb, .ref lr]) := upd_same
    generalize upd H9 e (.lst [.ref lb, .ref lr]) = H10 at s10 he10
    have s610 := s69.trans s10
    refine ⟨_, _, dp_pair (s610 _ _ hhd6) (.of (s610 _ _ hxb6)) (.of (s610 _ _ hxr6)), dp_pair he10 (.of (s610 _ _ hlb6)) (.of (s610 _ _ hlr6)), sh_pair b bar, sh_pair b bar, _, rfl, ?_⟩
    rw [SeqAt.eqv_refl _ (lay_pair b bar)]
    refine iteF ⟨_, rfl, rfl, _, rfl, dF (fun z => nomatch z) ?_⟩
    have hd10 := s10 _ _ h9
    have hg10 := s10 _ _ (s9 _ _ h8)
    have hts10 := L2.Paired.mapP hts fun t y h => BdAt.same (s9.trans s10) h
    -- for one in boards
    refine ⟨_, rfl, lg, rfl, ⟨_, .of hg10⟩, for_list (K := K) (a := lg) (xs := ts.map V.ref)
      (fun i σ H' => ∃ v8 : Option V, σ = [some (.ref a), some (.ref ln), some (.ref lb), some (.ref lr), some (.ref hd), some (.ref lf), some (.ref lg), some (.ref d), v8, none, none, none, none] ∧ Same H10 H')
      ⟨none, rfl, Same.refl _⟩ (fun i σ H' _ ⟨_, _, z⟩ => z.seq (.of hg10)) ?_ ?_⟩
    · rintro i x σ H' hx ⟨v8, rfl, sm⟩
      obtain ⟨t, hti, rfl⟩ := ref_at hx
      obtain ⟨y, hyi, hy⟩ := paired_get hts10 hti
      have hybs : y ∈ bs := List.mem_of_getElem? hyi
      have ry : Rch X b y := (rl.perm.2 y).mp hybs
      have hby := ry.bd hs
      have hyl := hby.len
      have hys := hby.sum
      have hy' := hy.same sm
      have hd' := sm _ _ hd10
      have ev : ∀ z, z ∈ bs → valV (tab (grV X) bs) (bK z) = some (grV X z) := fun z hz => by rw [valV_tab, if_pos hz]
      refine ⟨_, rfl, _, rfl, d, grV X y, rfl, by rw [← ev y hybs]; exact .t (k := bK y) hd' hy'.key, ?_⟩
      refine ⟨_, rfl, _, rfl, t, lr, y, bar, rfl, .of hy', .of (sm _ _ (s610 _ _ hlr6)), by omega, by omega, fun H11 u us s11 n11 h11 hus => ?_⟩
      have hus : Paired (BdAt H11) us (X.nx y) := by
        unfold Pits.nx
        rw [eX1]
        exact hus
      have hd11 := s11 _ _ hd'
      refine ⟨u, rfl, ⟨_, .of h11⟩, fun g1 ng => lc_list (K := K) (a := u) (xs := us.map V.ref) (fun i H' => H' = upd H11 g1 (.lst (bV (((X.nx y).take i).map X.gr)))) rfl
        (fun i H' _ e => by rw [e]; exact (same_upd ng).seq (.of h11)) ?_ ?_⟩
      · rintro j x H' hx rfl
        obtain ⟨t', ht', rfl⟩ := ref_at hx
        obtain ⟨z, hzi, hz⟩ := paired_get hus ht'
        have sg := same_upd (o := .lst (bV (((X.nx y).take j).map X.gr))) ng
        have hzb : z ∈ bs := (rl.perm.2 z).mpr (.step ry (List.mem_of_getElem? hzi))
        have l1 : (X.nx y).length ≤ y.length := by
          unfold Pits.nx succs
          rw [List.length_map]
          have := List.length_filter_le (free X.bar y) (List.range y.length)
          rwa [List.length_range] at this
        refine ⟨rfl, _, rfl, _, rfl, d, grV X z, rfl, by rw [← ev z hzb]; exact .t (k := bK z) (sg _ _ hd11) (hz.same sg).key, _, upd_same, ?_, ?_⟩
        · rw [bV_len, List.length_map, List.length_take]
          exact len_line (K := K) (by omega)
        · rw [upd_upd, take_at hzi, List.map_append]
          unfold grV
          rw [bV_snoc]
          rfl
      · rintro H' rfl
        rw [List.length_map, Paired.length hus, List.take_length]
        refine ⟨g1, _, rfl, .of upd_same, rfl, _, rfl, iteNS (by rw [← gr_eq hby]; rfl) ?_⟩
        exact ⟨_, rfl, (sm.trans s11).trans (same_upd ng)⟩
    · rintro σ H11 ⟨v8, rfl, s11⟩
      have s611 := s610.trans s11
      have s711 : Same H7 H11 := s8.trans (s9.trans (s10.trans s11))
      have hlf11 := s711 _ _ tld.lst
      have hrs11 := L2.Paired.mapP tld.all fun r y h => FdAt.same s711 h
      -- kept = [..]
      refine ⟨_, rfl, lf, rfl, ⟨_, .of hlf11⟩, fun lk nk => lc_list (K := K) (a := lf) (xs := refs1 rs)
        (fun i H' => Same H11 H' ∧ ∃ qs : List (Addr × Addr), H' lk = some (.lst (refs1 qs)) ∧ qs.length = i ∧ Paired (FdAt X.gr H') qs (bs.take i) ∧ ∀ r ∈ qs, H11 r.2 = none ∧ r.2 ≠ lk)
        ⟨same_upd nk, [], upd_same, rfl, .nil, fun _ h => nomatch h⟩ (fun i H' _ ⟨z, _⟩ => z.seq (.of hlf11)) ?_ ?_⟩
      · rintro i x H' hx ⟨sm, qs, g1, g2, g3, g4⟩
        obtain ⟨r, hri, rfl⟩ : ∃ r, rs[i]? = some r ∧ x = .ref r.1 := by
          unfold refs1 at hx
          rw [List.getElem?_map] at hx
          cases er : rs[i]? with
          | none =>
            rw [er] at hx
            cases hx
          | some r =>
            rw [er] at hx
            exact ⟨r, rfl, (Option.some.inj hx).symm⟩
        obtain ⟨y, hyi, hy⟩ := paired_get hrs11 hri
        have hy' := hy.same sm
        have hi := (List.getElem?_eq_some_iff.mp hri).1
        refine ⟨rfl, _, rfl, r.1, _, 0, _, rfl, rfl, .of hy'.1, rfl, r.2, _, rfl, .inl (.of hy'.2), fun e1 ne1 => ?_⟩
        have t1 := same_upd (o := .lst (bV y)) ne1
        have he1 : upd H' e1 (.lst (bV y)) e1 = some (.lst (bV y)) := upd_same
        generalize upd H' e1 (.lst (bV y)) = H12 at t1 he1
        refine ⟨_, rfl, r.1, _, 1, _, rfl, rfl, .of (t1 _ _ hy'.1), rfl, (by show 2 ≤ sizeLine; decide), fun e2 ne2 => ?_⟩
        have t2 := same_upd (o := .tup [.ref e1, .int (X.gr y : Nat)]) ne2
        have he2 : upd H12 e2 (.tup [.ref e1, .int (X.gr y : Nat)]) e2 = some (.tup [.ref e1, .int (X.gr y : Nat)]) := upd_same
        generalize upd H12 e2 (.tup [.ref e1, .int (X.gr y : Nat)]) = H13 at t2 he2
        have t12 := t1.trans t2
        have g1' := t12 _ _ g1
        have n1l : e1 ≠ lk := Ne.symm (ne_of_none g1 ne1)
        refine ⟨_, g1', ?_, same_new (sm.trans t12) nk, qs ++ [(e2, e1)], ?_, ?_, ?_, ?_⟩
        · unfold refs1
          rw [List.length_map]
          exact len_line (K := K) (by omega)
        · rw [upd_same]
          unfold refs1
          rw [List.map_append]
          rfl
        · rw [List.length_append, g2]
          rfl
        · rw [take_at hyi]
          have g3' : Paired (FdAt X.gr H13) (qs ++ [(e2, e1)]) (bs.take i ++ [y]) := paired_snoc (L2.Paired.mapP g3 fun r z h => h.same t12) ⟨he2, t2 _ _ he1⟩
          refine paired_mem g3' fun r z hr h => ⟨?_, ?_⟩
          · rw [upd_ne (ne_of h.1 g1' (fun z => nomatch z))]
            exact h.1
          · rw [upd_ne (by
              rcases List.mem_append.mp hr with m | m
              · exact (g4 r m).2
              · rw [List.mem_singleton.mp m]
                exact n1l)]
            exact h.2
        · intro r hr
          rcases List.mem_append.mp hr with m | m
          · exact g4 r m
          · rw [List.mem_singleton.mp m]
            exact ⟨sm.free ne1, n1l⟩
      · rintro H12 ⟨s12, qs, g1, g2, g3, g4⟩
        have lr1 : (refs1 rs).length = bs.length := by
          unfold refs1
          rw [List.length_map]
          exact lrs
        rw [lr1] at g2 g3
        rw [List.take_length] at g3
        have s612 := s611.trans s12
        have hlf12 := s12 _ _ hlf11
        have hrs12 := L2.Paired.mapP hrs11 fun r y h => FdAt.same s12 h
        have lq : (refs1 qs).length = bs.length := by
          unfold refs1
          rw [List.length_map]
          exact g2
        -- where the inner lists do not lie
        have old : ∀ {x : Addr} {o : HO}, H6 x = some o → ∀ r ∈ rs, x ≠ r.2 := fun hx r hr => ne_of_none hx (tld.news r hr).2.1
        have nlf : ∀ r ∈ rs, lf ≠ r.2 := fun r hr => Ne.symm (tld.news r hr).2.2
        have t11 : ∀ r ∈ rs, ∃ o, H11 r.2 = some o := fun r hr => by
          obtain ⟨j, hj⟩ := List.getElem?_of_mem hr
          obtain ⟨y, _, hy⟩ := paired_get hrs11 hj
          exact ⟨_, hy.2⟩
        have nlk : ∀ r ∈ rs, lk ≠ r.2 := fun r hr => by
          obtain ⟨o, ho⟩ := t11 r hr
          exact Ne.symm (ne_of_none ho nk)
        have nqs : ∀ z ∈ qs, ∀ r ∈ rs, z.2 ≠ r.2 := fun z hz r hr => by
          obtain ⟨o, ho⟩ := t11 r hr
          exact Ne.symm (ne_of_none ho (g4 z hz).1)
        -- the loop over the told pairs
        refine ⟨_, rfl, lk, _, rfl, .inl (.of g1), _, rfl, by omega, by omega, for_rangeN (n := bs.length) (by omega)
          (fun i σ H' => ∃ v10 : Option V, σ = [some (.ref a), some (.ref ln), some (.ref lb), some (.ref lr), some (.ref hd), some (.ref lf), some (.ref lg), some (.ref d), v8, some (.ref lk), v10, none, none] ∧ Mid rs i H12 H')
          ⟨none, rfl, fun x o h _ => h⟩ ?_ ?_⟩
        · rintro i σ H' hi ⟨v10, rfl, mid⟩
          obtain ⟨r, hri⟩ : ∃ r, rs[i]? = some r := ⟨_, List.getElem?_eq_getElem (by omega)⟩
          obtain ⟨z, hzi⟩ : ∃ z, qs[i]? = some z := ⟨_, List.getElem?_eq_getElem (by omega)⟩
          obtain ⟨y, hyi, hy⟩ := paired_get hrs12 hri
          obtain ⟨y', hyi', hz⟩ := paired_get g3 hzi
          have ey : y' = y := Option.some.inj (hyi'.symm.trans hyi)
          rw [ey] at hz
          have hrm := List.mem_of_getElem? hri
          have hzm := List.mem_of_getElem? hzi
          have mr : ∀ {j : Nat} {r : Addr × Addr}, rs[j]? = some r → r ∈ rs := fun h => List.mem_of_getElem? h
          have tupne : ∀ {x : Addr} {xs : List V}, H12 x = some (.tup xs) → ∀ r ∈ rs, x ≠ r.2 := fun hx r hr => by
            obtain ⟨j, hj⟩ := List.getElem?_of_mem hr
            obtain ⟨_, _, hw⟩ := paired_get hrs12 hj
            exact ne_of hx hw.2 (fun z => nomatch z)
          have hy' : FdAt X.gr H' r y := ⟨mid _ _ hy.1 fun j r' _ hj' => tupne hy.1 r' (mr hj'), mid _ _ hy.2 fun j r' hj hj' e => by
            have w1 : (rs.map (·.2))[i]? = some r.2 := by
              rw [List.getElem?_map, hri]
              rfl
            have w2 : (rs.map (·.2))[j]? = some r.2 := by
              rw [List.getElem?_map, hj', e]
              rfl
            have := nd_ix tld.nd w1 w2
            omega⟩
          have hz' : FdAt X.gr H' z y := ⟨mid _ _ hz.1 fun j r' _ hj' => tupne hz.1 r' (mr hj'), mid _ _ hz.2 fun j r' _ hj' => nqs z hzm r' (mr hj')⟩
          have hlf' : H' lf = some (.lst (refs1 rs)) := mid _ _ hlf12 fun j r' _ hj' => nlf r' (mr hj')
          have hlk' : H' lk = some (.lst (refs1 qs)) := mid _ _ g1 fun j r' _ hj' => nlk r' (mr hj')
          have ar : (refs1 rs)[i]? = some (.ref r.1) := by
            unfold refs1
            rw [List.getElem?_map, hri]
            rfl
          have az : (refs1 qs)[i]? = some (.ref z.1) := by
            unfold refs1
            rw [List.getElem?_map, hzi]
            rfl
          refine ⟨_, rfl, _, rfl, lf, _, _, _, rfl, rfl, .of hlf', atI_nat ar, _, rfl, _, rfl, lk, _, _, _, rfl, rfl, .of hlk', atI_nat az, _, _, dp_fd hy', dp_fd hz', sh_fd _ _, sh_fd _ _, _, rfl, ?_⟩
          rw [SeqAt.eqv_refl _ (lay_fd X.gr y)]
          refine iteF ?_
          -- found[k][0].append(0)
          refine ⟨_, rfl, _, rfl, lf, _, _, _, rfl, rfl, .of hlf', atI_nat ar, r.1, _, 0, .ref r.2, rfl, rfl, .of hy'.1, rfl, .inl ⟨rfl, _, .of hy'.2⟩, r.2, _, _, rfl, rfl, hy'.2, ?_, ?_⟩
          · rw [bV_len]
            have hyb := ((rl.perm.2 y).mp (List.mem_of_getElem? hyi)).bd hs
            have := hyb.len
            exact len_line (K := K) (by omega)
          · refine ⟨_, rfl, fun x o hx hj => ?_⟩
            have hxr : x ≠ r.2 := hj i r (Nat.lt_succ_self i) hri
            rw [upd_ne hxr]
            exact mid x o hx fun j r' h1 h2 => hj j r' (Nat.lt_succ_of_lt h1) h2
        · rintro σ H13 ⟨v10, rfl, mid⟩
          have mr : ∀ {j : Nat} {r : Addr × Addr}, rs[j]? = some r → r ∈ rs := fun h => List.mem_of_getElem? h
          have tupne : ∀ {x : Addr} {xs : List V}, H12 x = some (.tup xs) → ∀ r ∈ rs, x ≠ r.2 := fun hx r hr => by
            obtain ⟨j, hj⟩ := List.getElem?_of_mem hr
            obtain ⟨_, _, hw⟩ := paired_get hrs12 hj
            exact ne_of hx hw.2 (fun z => nomatch z)
          have keep : ∀ {x : Addr} {o : HO}, H6 x = some o → H13 x = some o := fun hx => mid _ _ (s612 _ _ hx) fun j r' _ hj' => old hx r' (mr hj')
          have hlf13 : H13 lf = some (.lst (refs1 rs)) := mid _ _ hlf12 fun j r' _ hj' => nlf r' (mr hj')
          have hlk13 : H13 lk = some (.lst (refs1 qs)) := mid _ _ g1 fun j r' _ hj' => nlk r' (mr hj')
          have hqs13 : Paired (FdAt X.gr H13) qs bs := paired_mem g3 fun z y hz h => ⟨mid _ _ h.1 fun j r' _ hj' => tupne h.1 r' (mr hj'), mid _ _ h.2 fun j r' _ hj' => nqs z hz r' (mr hj')⟩
          have lfk : lk ≠ lf := Ne.symm (ne_of_none hlf11 nk)
          have n6 : H6 lf = none := tld.new
          -- found.append(([], 0))
          refine ⟨_, rfl, .inl ⟨rfl, _, .of hlf13⟩, Nat.zero_le _, fun e1 ne1 => ?_⟩
          have t1 := same_upd (o := .lst []) ne1
          generalize upd H13 e1 (.lst []) = H14 at t1
          refine ⟨(by show 2 ≤ sizeLine; decide), fun e2 ne2 => ?_⟩
          have t2 := same_upd (o := .tup [.ref e1, .int 0]) ne2
          generalize upd H14 e2 (.tup [.ref e1, .int 0]) = H15 at t2
          have t12 := t1.trans t2
          have hlf15 := t12 _ _ hlf13
          refine ⟨lf, _, _, rfl, rfl, hlf15, ?_, ?_⟩
          · rw [lr1]
            exact len_line (K := K) (by omega)
          · have kp : ∀ {x : Addr} {o : HO}, H6 x = some o → upd H15 lf (.lst (refs1 rs ++ [.ref e2])) x = some o := fun hx => by
              rw [upd_ne (ne_of_none hx n6)]
              exact t12 _ _ (keep hx)
            have hlk16 : upd H15 lf (.lst (refs1 rs ++ [.ref e2])) lk = some (.lst (refs1 qs)) := by
              rw [upd_ne lfk]
              exact t12 _ _ hlk13
            have hqs16 : Paired (FdAt X.gr (upd H15 lf (.lst (refs1 rs ++ [.ref e2])))) qs bs := paired_mem hqs13 fun z y hz h => by
              have h' := h.same t12
              refine ⟨?_, ?_⟩
              · rw [upd_ne (ne_of h'.1 hlf15 (fun z => nomatch z))]
                exact h'.1
              · rw [upd_ne (Ne.symm (ne_of_none hlf11 (g4 z hz).1))]
                exact h'.2
            show tSeq _ _ _ _ (upd H15 lf (.lst (refs1 rs ++ [.ref e2])))
            generalize upd H15 lf (.lst (refs1 rs ++ [.ref e2])) = H16 at kp hlk16 hqs16
            -- the same again
            refine ⟨_, rfl, hd, _, 0, _, rfl, rfl, .of (kp hhd6), rfl, _, rfl, hd, _, 1, _, rfl, rfl, .of (kp hhd6), rfl, xb, xr, b, X, rfl, .of (kp hxb6), by rw [eX1]; exact .of (kp hxr6), hs, hbX, okX, fun H17 lf2 rs2 bs2 tld2 => ?_⟩
            obtain rfl := RList.uniq rl tld2.rl
            have s17 := tld2.same
            refine ⟨_, rfl, _, _, .lst (.of tld2.lst) (dp_fds tld2.all), .lst (.of (s17 _ _ hlk16)) (dp_fds (L2.Paired.mapP hqs16 fun r y h => FdAt.same s17 h)), sh_all _ _, sh_all _ _, _, rfl, ?_⟩
            rw [SeqAt.eqv_refl _ (lay_all X.gr bs)]
            refine iteT ?_
            refine ⟨_, rfl, _, rfl, _, rfl, (by show 2 ≤ sizeLine; decide), fun e3 ne3 => ?_⟩
            have t3 := same_upd (o := .lst [.ref lb, .ref lr]) ne3
            refine ⟨_, _, dp_pair (t3 _ _ (s17 _ _ (kp hhd6))) (.of (t3 _ _ (s17 _ _ (kp hxb6)))) (.of (t3 _ _ (s17 _ _ (kp hxr6)))), dp_pair upd_same (.of (t3 _ _ (s17 _ _ (kp hlb6)))) (.of (t3 _ _ (s17 _ _ (kp hlr6)))), sh_pair b bar, sh_pair b bar, ?_⟩
            rw [SeqAt.eqv_refl _ (lay_pair b bar)]
            exact q _
end
end SwD
namespace SwD
open PySem PySem.Spec PyProof.Rows L2 Sw SwR
section
variable {K : PySem.W.Frag} {h : Heap} {mg : Str → Option Value}
theorem defAt_mk {name : Str} {st : Stmt} {ps : List Str} {f : Addr} {oc : Value} {od an : Option Addr} {sl : Array (Option Value)} {kV dc pm cd ct : Value} (X : K.In h) (G : h.Ns mainGlobals mg)
    (hb : ∀ (kV doc pm : Value) (an : Option Addr) (cdv ct : Value) (us : List Value), us.length = ps.length → bindArgs (PySem.W.fnOf name name (defArgs st) (defBody st) (defScope st) .none kV doc pm an cdv ct) ⟨us, []⟩ = pure (ps.zip us))
    (a : PySem.W.nsIn K mainGlobals name = some (some (.ref f)))
    (l : K.lookup f = some ⟨oc, od, .func (PySem.W.fnOf name name (defArgs st) (defBody st) (defScope st) .none kV dc pm an cd ct), sl⟩)
    (c : PySem.W.codeIn K cd name = true) (k : PySem.W.keepIn K (.ref f) = true) : DefAt K mg name st ps := by
  have F := fun_mk (st := st) l c k
  exact ⟨f, _, F, F.binds hb, PySem.W.mg_of X G a⟩
theorem law_mk {fa f : Addr} {oc : Value} {od an : Option Addr} {sl : Array (Option Value)} {kV dc pm cd ct : Value} (X : K.In h) (G : h.Ns mainGlobals mg) (hmg : mg "law" = some (.ref fa))
    (a : PySem.W.nsIn K mainGlobals "law" = some (some (.ref f)))
    (l : K.lookup f = some ⟨oc, od, .func (PySem.W.fnOf "law" "law" (defArgs sLaw) (defBody sLaw) (defScope sLaw) .none kV dc pm an cd ct), sl⟩)
    (c : PySem.W.codeIn K cd "law" = true) (k : PySem.W.keepIn K (.ref f) = true) : ∃ fd : FuncData, (∀ (s : Shared) (u : Value), BindsTo s fd ⟨[u], []⟩ [("script", u)]) ∧ Fun K "law" "law" sLaw fa fd := by
  have e := hmg.symm.trans (PySem.W.mg_of X G a)
  cases e
  exact ⟨_, fun s v => .of_eq rfl, fun_mk (st := sLaw) l c k⟩
theorem txt_mk {t1 t2 t3 t4 : Tok} (X : K.In h) (G : h.Ns mainGlobals mg) (z1 : PySem.W.nsIn K mainGlobals "len" = some none) (z2 : PySem.W.nsIn K mainGlobals "min" = some none) (z3 : PySem.W.nsIn K mainGlobals "sum" = some none)
    (z4 : PySem.W.nsIn K mainGlobals "range" = some none) (z5 : PySem.W.nsIn K mainGlobals "list" = some none) (z6 : PySem.W.nsIn K mainGlobals "tuple" = some none) (z7 : PySem.W.nsIn K mainGlobals "enumerate" = some none)
    (z8 : PySem.W.nsIn K mainGlobals "sorted" = some none) (z9 : PySem.W.nsIn K mainGlobals "isinstance" = some none) (z10 : PySem.W.nsIn K mainGlobals "int" = some none) (z11 : PySem.W.nsIn K mainGlobals "bool" = some none)
    (c1 : PySem.W.nsIn K mainGlobals "FEWEST_PITS" = some (some (.int 2 t1))) (c2 : PySem.W.nsIn K mainGlobals "MOST_PITS" = some (some (.int 24 t2))) (c4 : PySem.W.nsIn K mainGlobals "MOST_BOARDS" = some (some (.int 1000 t4)))
    (c3 : mg "MOST_SEEDS" = some (.int (10 ^ 60) t3)) : Txt mg where
  zlen := PySem.W.mg_none_of X G z1
  zmin := PySem.W.mg_none_of X G z2
  zsum := PySem.W.mg_none_of X G z3
  zrange := PySem.W.mg_none_of X G z4
  zlist := PySem.W.mg_none_of X G z5
  ztuple := PySem.W.mg_none_of X G z6
  zenum := PySem.W.mg_none_of X G z7
  zsorted := PySem.W.mg_none_of X G z8
  zisi := PySem.W.mg_none_of X G z9
  zint := PySem.W.mg_none_of X G z10
  zbool := PySem.W.mg_none_of X G z11
  cF := ⟨t1, PySem.W.mg_of X G c1⟩
  cM := ⟨t2, PySem.W.mg_of X G c2⟩
  cS := ⟨t3, c3⟩
  cB := ⟨t4, PySem.W.mg_of X G c4⟩
end
/-- all defs together -/
theorem all_ok {P : Program} {w : World} {K : PySem.W.Frag} {mg : Str → Option Value} {base : Heap} {f : Addr} {fd : FuncData} (T : Txt mg) (F : Fun K "law" "law" sLaw f fd)
    (d_ask_board : DefAt K mg "ask_board" sAskBoard ["board"])
    (d_ask_pit : DefAt K mg "ask_pit" sAskPit ["board", "pit"])
    (d_ask_seeds : DefAt K mg "ask_seeds" sAskSeeds ["board", "pit"])
    (d_put_round : DefAt K mg "put_round" sPutRound ["board", "pit", "seeds"])
    (d_sown_plain : DefAt K mg "sown_plain" sSownPlain ["board", "pit"])
    (d_sown : DefAt K mg "sown" sSown ["board", "pit"])
    (d_ask_sizes : DefAt K mg "ask_sizes" sAskSizes ["pits", "seeds"])
    (d_ways_to_lay : DefAt K mg "ways_to_lay" sWays ["pits", "seeds"])
    (d_board_count : DefAt K mg "board_count" sCount ["pits", "seeds"])
    (d_ask_few : DefAt K mg "ask_few" sAskFew ["board"])
    (d_next_sowings : DefAt K mg "next_sowings" sNext ["board"])
    (d_ask_barred : DefAt K mg "ask_barred" sAskBarred ["board", "barred"])
    (d_free_sowings : DefAt K mg "free_sowings" sFree ["board", "barred"])
    (d_ask_all : DefAt K mg "ask_all" sAskAll ["board", "barred"])
    (d_least_lacking : DefAt K mg "least_lacking" sLeast ["numbers"])
    (d_worths_by : DefAt K mg "worths_by" sBy ["board", "barred"])
    (d_worths : DefAt K mg "worths" sWorths ["board", "barred"])
    (d_law_numbers : DefAt K mg "_law_numbers" sLNum ["script", "many"])
    (d_law_board : DefAt K mg "_law_board" sLBoard ["numbers", "first"])
    (d_law_barred : DefAt K mg "_law_barred" sLBarred ["numbers", "first", "pits"])
    (d_law_sown : DefAt K mg "_law_sown" sLSown ["board", "pit"])
    (d_law_after : DefAt K mg "_law_after" sLAfter ["board", "barred"])
    (d_law_all : DefAt K mg "_law_all" sLAll ["board", "barred"])
    (d_law_whole_number : DefAt K mg "_law_whole_number" sLWhole ["found"])
    (d_law_tuple_of : DefAt K mg "_law_tuple_of" sLTup ["found", "pits"])
    (d_law_table : DefAt K mg "_law_table" sLTab ["found", "boards"])
    (d_law_least : DefAt K mg "_law_least" sLLeast ["numbers"])
    : FnOk P w K mg base CX0 8 f fd ["script"] (spLaw K) := by
  have g1 := k_ask_board (P := P) (w := w) (base := base) T d_ask_board
  have g2 := k_ask_pit (P := P) (w := w) (base := base) T d_ask_pit
  have g3 := k_ask_seeds T d_ask_seeds g1 g2
  have g4 := k_put_round (P := P) (w := w) (base := base) T d_put_round
  have g5 := k_sown_plain T d_sown_plain g4
  have g6 := k_sown T d_sown g3 g5
  have g7 := k_ask_sizes (P := P) (w := w) (base := base) T d_ask_sizes
  have g8 := k_ways (P := P) (w := w) (base := base) T d_ways_to_lay
  have g9 := k_count T d_board_count g7 g8
  have g10 := k_ask_few T d_ask_few g9
  have g11 := k_next T d_next_sowings g6
  have g12 := k_ask_barred (P := P) (w := w) (base := base) T d_ask_barred
  have g13 := k_free T d_free_sowings g11
  have g14 := k_ask_all T d_ask_all g1 g12 g10
  have g15 := k_least (P := P) (w := w) (base := base) d_least_lacking
  have g16 := k_by T d_worths_by g13 g15
  have g17 := k_worths T d_worths g14 g16
  have g18 := k_lnum (P := P) (w := w) (base := base) T d_law_numbers
  have g19 := k_lboard (P := P) (w := w) (base := base) T d_law_board
  have g20 := k_lbarred (P := P) (w := w) (base := base) T d_law_barred
  have g21 := k_lsown (P := P) (w := w) (base := base) T d_law_sown
  have g22 := k_lafter T d_law_after g21
  have g23 := k_lall T d_law_all g22
  have g24 := k_lwhole (P := P) (w := w) (base := base) T d_law_whole_number
  have g25 := k_ltup T d_law_tuple_of g24
  have g26 := k_ltab T d_law_table g24 g25
  have g27 := k_lleast (P := P) (w := w) (base := base) d_law_least
  exact k_law T F g18 g19 g20 g17 g23 g26 g22 g27
/-- the law's call, where the top's loose names are told, too -/
theorem walkX {l : PySem.W.OpenLaw} {q : Program} {loose : List Str} {XP : (Str → Option Value) → Heap → Prop} {YP : World → Heap → Prop} {d : DefRec} {K : Params → PySem.W.Frag}
    (hn : l.most = some 63) (hdf : d.params.defaults = []) (hY : ∀ (w : World) (h : Heap), YP w h → (K w.params).In h)
    (hF : ∀ (w : World) (mg : Str → Option Value) (fa : Addr) (h : Heap), (K w.params).In h → XP mg h → h.Ns mainGlobals mg → mg d.name = some (.ref fa) →
      ∃ fd : FuncData, (∀ (s : Shared) (u : Value), BindsTo s fd ⟨[u], []⟩ [("script", u)]) ∧ ∀ base : Heap, FnOk l.prog w (K w.params) mg base CX0 8 fa fd ["script"] (spLaw (K w.params))) :
    PySem.W.WalkO q loose XP YP l.row.toRowW d [] (fun f vs => PySem.call f vs) := by
  refine Att.attach_call hn hdf fun w t0 t1 mg mb fa o pm cd doc a vs ns G Y ho hd hcd hmg hobj hints hlen hg => ?_
  obtain ⟨fd, hb, hok⟩ := hF w mg fa _ (hY w _ Y) G.X G.T.g hmg
  refine law_call (hY w _ Y) G.T.g G.T.b G.T.builtins G.T.nolimit hg hobj hints (Nat.le_trans hlen (by decide)) ⟨rfl, by decide, by decide⟩ (fun base _ _ => hok base) hb (fun H _ hS => ?_) fun _ _ _ z => z
  exact ⟨a, ns, rfl, hS, hlen, fun _ => rfl⟩
/-- a def's facts, then the rest -/
theorem with_def {R : Prop} {K : PySem.W.Frag} {h : Heap} {mg : Str → Option Value} {name : Str} {st : Stmt} {ps : List Str} {f : Addr} {oc : Value} {od an : Option Addr} {sl : Array (Option Value)} {kV dc pm cd ct : Value} (X : K.In h) (G : h.Ns mainGlobals mg)
    (hb : ∀ (kV doc pm : Value) (an : Option Addr) (cdv ct : Value) (us : List Value), us.length = ps.length → bindArgs (PySem.W.fnOf name name (defArgs st) (defBody st) (defScope st) .none kV doc pm an cdv ct) ⟨us, []⟩ = pure (ps.zip us))
    (a : PySem.W.nsIn K mainGlobals name = some (some (.ref f)))
    (l : K.lookup f = some ⟨oc, od, .func (PySem.W.fnOf name name (defArgs st) (defBody st) (defScope st) .none kV dc pm an cd ct), sl⟩)
    (c : PySem.W.codeIn K cd name = true) (k : PySem.W.keepIn K (.ref f) = true) (rest : DefAt K mg name st ps → R) : R := rest (defAt_mk X G hb a l c k)
theorem with_law {R : Prop} {K : PySem.W.Frag} {h : Heap} {mg : Str → Option Value} {fa f : Addr} {oc : Value} {od an : Option Addr} {sl : Array (Option Value)} {kV dc pm cd ct : Value} (X : K.In h) (G : h.Ns mainGlobals mg) (hmg : mg "law" = some (.ref fa))
    (a : PySem.W.nsIn K mainGlobals "law" = some (some (.ref f)))
    (l : K.lookup f = some ⟨oc, od, .func (PySem.W.fnOf "law" "law" (defArgs sLaw) (defBody sLaw) (defScope sLaw) .none kV dc pm an cd ct), sl⟩)
    (c : PySem.W.codeIn K cd "law" = true) (k : PySem.W.keepIn K (.ref f) = true) (rest : ∀ fd : FuncData, (∀ (s : Shared) (u : Value), BindsTo s fd ⟨[u], []⟩ [("script", u)]) → Fun K "law" "law" sLaw fa fd → R) : R := by
  obtain ⟨fd, hb, F⟩ := law_mk X G hmg a l c k
  exact rest fd hb F
end SwD
open PySem PySem.W PyProof.Rows
set_option maxHeartbeats 0 in
theorem PySem.Challenge.cw_sowring_k30_whole_worths_holds : PySem.Challenge.rw_sowring_k30_whole_worths.Holds := by
  w_on; o_law; k_head; (case hw => w_witness2)
  k_fill
  refine SwD.walkX (l := PySem.Challenge.rw_sowring_k30_whole_worths) rfl rfl (fun w h Y => PySem.W.kIn_of Y) ?F
  case F =>
    intro w mg fa h KX XX G hmg
    obtain ⟨v, hv1, hv2⟩ := XX.2.val _ (List.mem_cons_self ..)
    cases hv2 with
    | int _ t =>
    have T : SwD.Txt mg := by
      refine' SwD.txt_mk KX G ?z1 ?z2 ?z3 ?z4 ?z5 ?z6 ?z7 ?z8 ?z9 ?z10 ?z11 ?q1 ?q2 ?q4 hv1
      (case z1 => k_is); (case z2 => k_is); (case z3 => k_is); (case z4 => k_is); (case z5 => k_is); (case z6 => k_is); (case z7 => k_is); (case z8 => k_is); (case z9 => k_is); (case z10 => k_is); (case z11 => k_is); (case q1 => k_is); (case q2 => k_is); (case q4 => k_is)
    refine' SwD.with_def (name := "ask_board") (st := SwD.sAskBoard) (ps := ["board"]) KX G (fun _ _ _ _ _ _ us hl => match us, hl with | [_], _ => rfl) ?a1 ?l1 ?c1 ?k1 fun d_ask_board => ?r1
    (case a1 => k_is); (case l1 => k_is); (case c1 => k_is); (case k1 => k_is)
    refine' SwD.with_def (name := "ask_pit") (st := SwD.sAskPit) (ps := ["board", "pit"]) KX G (fun _ _ _ _ _ _ us hl => match us, hl with | [_, _], _ => rfl) ?a2 ?l2 ?c2 ?k2 fun d_ask_pit => ?r2
    (case a2 => k_is); (case l2 => k_is); (case c2 => k_is); (case k2 => k_is)
    refine' SwD.with_def (name := "ask_seeds") (st := SwD.sAskSeeds) (ps := ["board", "pit"]) KX G (fun _ _ _ _ _ _ us hl => match us, hl with | [_, _], _ => rfl) ?a3 ?l3 ?c3 ?k3 fun d_ask_seeds => ?r3
    (case a3 => k_is); (case l3 => k_is); (case c3 => k_is); (case k3 => k_is)
    refine' SwD.with_def (name := "put_round") (st := SwD.sPutRound) (ps := ["board", "pit", "seeds"]) KX G (fun _ _ _ _ _ _ us hl => match us, hl with | [_, _, _], _ => rfl) ?a4 ?l4 ?c4 ?k4 fun d_put_round => ?r4
    (case a4 => k_is); (case l4 => k_is); (case c4 => k_is); (case k4 => k_is)
    refine' SwD.with_def (name := "sown_plain") (st := SwD.sSownPlain) (ps := ["board", "pit"]) KX G (fun _ _ _ _ _ _ us hl => match us, hl with | [_, _], _ => rfl) ?a5 ?l5 ?c5 ?k5 fun d_sown_plain => ?r5
    (case a5 => k_is); (case l5 => k_is); (case c5 => k_is); (case k5 => k_is)
    refine' SwD.with_def (name := "sown") (st := SwD.sSown) (ps := ["board", "pit"]) KX G (fun _ _ _ _ _ _ us hl => match us, hl with | [_, _], _ => rfl) ?a6 ?l6 ?c6 ?k6 fun d_sown => ?r6
    (case a6 => k_is); (case l6 => k_is); (case c6 => k_is); (case k6 => k_is)
    refine' SwD.with_def (name := "ask_sizes") (st := SwD.sAskSizes) (ps := ["pits", "seeds"]) KX G (fun _ _ _ _ _ _ us hl => match us, hl with | [_, _], _ => rfl) ?a7 ?l7 ?c7 ?k7 fun d_ask_sizes => ?r7
    (case a7 => k_is); (case l7 => k_is); (case c7 => k_is); (case k7 => k_is)
    refine' SwD.with_def (name := "ways_to_lay") (st := SwD.sWays) (ps := ["pits", "seeds"]) KX G (fun _ _ _ _ _ _ us hl => match us, hl with | [_, _], _ => rfl) ?a8 ?l8 ?c8 ?k8 fun d_ways_to_lay => ?r8
    (case a8 => k_is); (case l8 => k_is); (case c8 => k_is); (case k8 => k_is)
    refine' SwD.with_def (name := "board_count") (st := SwD.sCount) (ps := ["pits", "seeds"]) KX G (fun _ _ _ _ _ _ us hl => match us, hl with | [_, _], _ => rfl) ?a9 ?l9 ?c9 ?k9 fun d_board_count => ?r9
    (case a9 => k_is); (case l9 => k_is); (case c9 => k_is); (case k9 => k_is)
    refine' SwD.with_def (name := "ask_few") (st := SwD.sAskFew) (ps := ["board"]) KX G (fun _ _ _ _ _ _ us hl => match us, hl with | [_], _ => rfl) ?a10 ?l10 ?c10 ?k10 fun d_ask_few => ?r10
    (case a10 => k_is); (case l10 => k_is); (case c10 => k_is); (case k10 => k_is)
    refine' SwD.with_def (name := "next_sowings") (st := SwD.sNext) (ps := ["board"]) KX G (fun _ _ _ _ _ _ us hl => match us, hl with | [_], _ => rfl) ?a11 ?l11 ?c11 ?k11 fun d_next_sowings => ?r11
    (case a11 => k_is); (case l11 => k_is); (case c11 => k_is); (case k11 => k_is)
    refine' SwD.with_def (name := "ask_barred") (st := SwD.sAskBarred) (ps := ["board", "barred"]) KX G (fun _ _ _ _ _ _ us hl => match us, hl with | [_, _], _ => rfl) ?a12 ?l12 ?c12 ?k12 fun d_ask_barred => ?r12
    (case a12 => k_is); (case l12 => k_is); (case c12 => k_is); (case k12 => k_is)
    refine' SwD.with_def (name := "free_sowings") (st := SwD.sFree) (ps := ["board", "barred"]) KX G (fun _ _ _ _ _ _ us hl => match us, hl with | [_, _], _ => rfl) ?a13 ?l13 ?c13 ?k13 fun d_free_sowings => ?r13
    (case a13 => k_is); (case l13 => k_is); (case c13 => k_is); (case k13 => k_is)
    refine' SwD.with_def (name := "ask_all") (st := SwD.sAskAll) (ps := ["board", "barred"]) KX G (fun _ _ _ _ _ _ us hl => match us, hl with | [_, _], _ => rfl) ?a14 ?l14 ?c14 ?k14 fun d_ask_all => ?r14
    (case a14 => k_is); (case l14 => k_is); (case c14 => k_is); (case k14 => k_is)
    refine' SwD.with_def (name := "least_lacking") (st := SwD.sLeast) (ps := ["numbers"]) KX G (fun _ _ _ _ _ _ us hl => match us, hl with | [_], _ => rfl) ?a15 ?l15 ?c15 ?k15 fun d_least_lacking => ?r15
    (case a15 => k_is); (case l15 => k_is); (case c15 => k_is); (case k15 => k_is)
    refine' SwD.with_def (name := "worths_by") (st := SwD.sBy) (ps := ["board", "barred"]) KX G (fun _ _ _ _ _ _ us hl => match us, hl with | [_, _], _ => rfl) ?a16 ?l16 ?c16 ?k16 fun d_worths_by => ?r16
    (case a16 => k_is); (case l16 => k_is); (case c16 => k_is); (case k16 => k_is)
    refine' SwD.with_def (name := "worths") (st := SwD.sWorths) (ps := ["board", "barred"]) KX G (fun _ _ _ _ _ _ us hl => match us, hl with | [_, _], _ => rfl) ?a17 ?l17 ?c17 ?k17 fun d_worths => ?r17
    (case a17 => k_is); (case l17 => k_is); (case c17 => k_is); (case k17 => k_is)
    refine' SwD.with_def (name := "_law_numbers") (st := SwD.sLNum) (ps := ["script", "many"]) KX G (fun _ _ _ _ _ _ us hl => match us, hl with | [_, _], _ => rfl) ?a18 ?l18 ?c18 ?k18 fun d_law_numbers => ?r18
    (case a18 => k_is); (case l18 => k_is); (case c18 => k_is); (case k18 => k_is)
    refine' SwD.with_def (name := "_law_board") (st := SwD.sLBoard) (ps := ["numbers", "first"]) KX G (fun _ _ _ _ _ _ us hl => match us, hl with | [_, _], _ => rfl) ?a19 ?l19 ?c19 ?k19 fun d_law_board => ?r19
    (case a19 => k_is); (case l19 => k_is); (case c19 => k_is); (case k19 => k_is)
    refine' SwD.with_def (name := "_law_barred") (st := SwD.sLBarred) (ps := ["numbers", "first", "pits"]) KX G (fun _ _ _ _ _ _ us hl => match us, hl with | [_, _, _], _ => rfl) ?a20 ?l20 ?c20 ?k20 fun d_law_barred => ?r20
    (case a20 => k_is); (case l20 => k_is); (case c20 => k_is); (case k20 => k_is)
    refine' SwD.with_def (name := "_law_sown") (st := SwD.sLSown) (ps := ["board", "pit"]) KX G (fun _ _ _ _ _ _ us hl => match us, hl with | [_, _], _ => rfl) ?a21 ?l21 ?c21 ?k21 fun d_law_sown => ?r21
    (case a21 => k_is); (case l21 => k_is); (case c21 => k_is); (case k21 => k_is)
    refine' SwD.with_def (name := "_law_after") (st := SwD.sLAfter) (ps := ["board", "barred"]) KX G (fun _ _ _ _ _ _ us hl => match us, hl with | [_, _], _ => rfl) ?a22 ?l22 ?c22 ?k22 fun d_law_after => ?r22
    (case a22 => k_is); (case l22 => k_is); (case c22 => k_is); (case k22 => k_is)
    refine' SwD.with_def (name := "_law_all") (st := SwD.sLAll) (ps := ["board", "barred"]) KX G (fun _ _ _ _ _ _ us hl => match us, hl with | [_, _], _ => rfl) ?a23 ?l23 ?c23 ?k23 fun d_law_all => ?r23
    (case a23 => k_is); (case l23 => k_is); (case c23 => k_is); (case k23 => k_is)
    refine' SwD.with_def (name := "_law_whole_number") (st := SwD.sLWhole) (ps := ["found"]) KX G (fun _ _ _ _ _ _ us hl => match us, hl with | [_], _ => rfl) ?a24 ?l24 ?c24 ?k24 fun d_law_whole_number => ?r24
    (case a24 => k_is); (case l24 => k_is); (case c24 => k_is); (case k24 => k_is)
    refine' SwD.with_def (name := "_law_tuple_of") (st := SwD.sLTup) (ps := ["found", "pits"]) KX G (fun _ _ _ _ _ _ us hl => match us, hl with | [_, _], _ => rfl) ?a25 ?l25 ?c25 ?k25 fun d_law_tuple_of => ?r25
    (case a25 => k_is); (case l25 => k_is); (case c25 => k_is); (case k25 => k_is)
    refine' SwD.with_def (name := "_law_table") (st := SwD.sLTab) (ps := ["found", "boards"]) KX G (fun _ _ _ _ _ _ us hl => match us, hl with | [_, _], _ => rfl) ?a26 ?l26 ?c26 ?k26 fun d_law_table => ?r26
    (case a26 => k_is); (case l26 => k_is); (case c26 => k_is); (case k26 => k_is)
    refine' SwD.with_def (name := "_law_least") (st := SwD.sLLeast) (ps := ["numbers"]) KX G (fun _ _ _ _ _ _ us hl => match us, hl with | [_], _ => rfl) ?a27 ?l27 ?c27 ?k27 fun d_law_least => ?r27
    (case a27 => k_is); (case l27 => k_is); (case c27 => k_is); (case k27 => k_is)
    refine' SwD.with_law KX G hmg ?a28 ?l28 ?c28 ?k28 fun fd hb FL => ?r28
    (case a28 => k_is); (case l28 => k_is); (case c28 => k_is); (case k28 => k_is)
    exact ⟨fd, hb, fun base => SwD.all_ok T FL d_ask_board d_ask_pit d_ask_seeds d_put_round d_sown_plain d_sown d_ask_sizes d_ways_to_lay d_board_count d_ask_few d_next_sowings d_ask_barred d_free_sowings d_ask_all d_least_lacking d_worths_by d_worths d_law_numbers d_law_board d_law_barred d_law_sown d_law_after d_law_all d_law_whole_number d_law_tuple_of d_law_table d_law_least⟩
