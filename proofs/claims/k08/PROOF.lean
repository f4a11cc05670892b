import PyProof.Rows.All
import Wide.All
import OpenK.AllK
import Wide.FinOn
import HandS.ForMost
import HandS.Evl
import HandS.Wide
import HandS.Style
import HandS.IsInst
import HandS.SortInts
import HandS.New0
import HandS.CallRecv
import HandS.Lambda
import HandS.ExcCtx
import HandS.HotCalls
import HandS.ExcIs
import HandS.ExcOwn
import KE.KNest
import HandS.EndTab
import PySem.Challenge.RW_turnfigures_k08_whole_known
set_option Elab.async false
set_option linter.all false
set_option maxRecDepth 100000
set_option maxHeartbeats 4000000

/-! # figures, plain -/
namespace Tf
def lowF (b : Nat) : Nat → Nat → List Nat
  | 0, _ => []
  | f + 1, n => if n = 0 then [] else n % b :: lowF b f (n / b)
/-- the figures, the least place first -/
def low (b n : Nat) : List Nat := lowF b n n
theorem div_lt {b n : Nat} (hb : 2 ≤ b) (hn : 0 < n) : n / b < n := Nat.div_lt_self hn hb
theorem lowF_eq {b : Nat} (hb : 2 ≤ b) : ∀ (f g n : Nat), n ≤ f → n ≤ g → lowF b f n = lowF b g n
  | 0, 0, _, _, _ => rfl
  | 0, g + 1, n, h, _ => by
    have e : n = 0 := by omega
    subst e
    rfl
  | f + 1, 0, n, _, h => by
    have e : n = 0 := by omega
    subst e
    rfl
  | f + 1, g + 1, n, h1, h2 => by
    unfold lowF
    by_cases e : n = 0
    · rw [if_pos e, if_pos e]
    · rw [if_neg e, if_neg e]
      have l := div_lt hb (Nat.pos_of_ne_zero e)
      rw [lowF_eq hb f g (n / b) (by omega) (by omega)]
theorem low_zero (b : Nat) : low b 0 = [] := rfl
theorem low_pos {b n : Nat} (hb : 2 ≤ b) (hn : 0 < n) : low b n = n % b :: low b (n / b) := by
  unfold low
  cases n with
  | zero => omega
  | succ k =>
    show (if k + 1 = 0 then [] else (k + 1) % b :: lowF b k ((k + 1) / b)) = _
    rw [if_neg (by omega)]
    have l := div_lt hb hn
    rw [lowF_eq hb k ((k + 1) / b) ((k + 1) / b) (by omega) (Nat.le_refl _)]
/-- the number of a row of figures -/
def wr (b : Nat) (ds : List Nat) : Nat := ds.foldl (fun a d => a * b + d) 0
theorem wr_fold (b : Nat) : ∀ (ds : List Nat) (a : Nat), ds.foldl (fun a d => a * b + d) a = a * b ^ ds.length + wr b ds
  | [], a => by simp [wr]
  | d :: ds, a => by
    rw [List.foldl_cons, wr_fold b ds (a * b + d)]
    show _ = a * b ^ (ds.length + 1) + (d :: ds).foldl (fun a d => a * b + d) 0
    rw [List.foldl_cons, wr_fold b ds (0 * b + d), Nat.pow_succ]
    have e : (a * b + d) * b ^ ds.length = a * (b ^ ds.length * b) + d * b ^ ds.length := by
      rw [Nat.add_mul, Nat.mul_assoc, Nat.mul_comm b (b ^ ds.length)]
    rw [e, Nat.zero_mul, Nat.zero_add]
    omega
theorem wr_nil (b : Nat) : wr b [] = 0 := rfl
theorem wr_cons (b d : Nat) (ds : List Nat) : wr b (d :: ds) = d * b ^ ds.length + wr b ds := by
  unfold wr
  rw [List.foldl_cons, wr_fold]
  simp [wr]
theorem wr_append (b : Nat) (xs ys : List Nat) : wr b (xs ++ ys) = wr b xs * b ^ ys.length + wr b ys := by
  unfold wr
  rw [List.foldl_append, wr_fold]
  rfl
theorem wr_snoc (b : Nat) (xs : List Nat) (d : Nat) : wr b (xs ++ [d]) = wr b xs * b + d := by
  unfold wr
  rw [List.foldl_append]
  rfl
theorem wr_take {b : Nat} {ds : List Nat} {i d : Nat} (h : ds[i]? = some d) : wr b (ds.take (i + 1)) = wr b (ds.take i) * b + d := by
  rw [List.take_add_one, h]
  exact wr_snoc b _ d
/-- the figures, the greatest place first -/
def figs (b n : Nat) : List Nat := (low b n).reverse
theorem figs_zero (b : Nat) : figs b 0 = [] := rfl
theorem figs_pos {b n : Nat} (hb : 2 ≤ b) (hn : 0 < n) : figs b n = figs b (n / b) ++ [n % b] := by
  unfold figs
  rw [low_pos hb hn, List.reverse_cons]
theorem wr_figs {b : Nat} (hb : 2 ≤ b) (n : Nat) : wr b (figs b n) = n := by
  induction n using Nat.strongRecOn with
  | _ n ih =>
    by_cases e : n = 0
    · subst e
      rfl
    · have hn := Nat.pos_of_ne_zero e
      rw [figs_pos hb hn, wr_snoc, ih _ (div_lt hb hn), Nat.mul_comm]
      exact Nat.div_add_mod n b
theorem figs_lt {b : Nat} (hb : 2 ≤ b) (n : Nat) : ∀ d ∈ figs b n, d < b := by
  induction n using Nat.strongRecOn with
  | _ n ih =>
    by_cases e : n = 0
    · subst e
      intro d hd
      cases hd
    · have hn := Nat.pos_of_ne_zero e
      rw [figs_pos hb hn]
      intro d hd
      rcases List.mem_append.mp hd with h | h
      · exact ih _ (div_lt hb hn) d h
      · have z : d = n % b := by simpa using h
        rw [z]
        exact Nat.mod_lt _ (by omega)
theorem figs_ne {b n : Nat} (hb : 2 ≤ b) (hn : 0 < n) : figs b n ≠ [] := by
  rw [figs_pos hb hn]
  simp
theorem figs_len_pos {b n : Nat} (hb : 2 ≤ b) (hn : 0 < n) : 0 < (figs b n).length := List.length_pos_iff.mpr (figs_ne hb hn)
theorem figs_head {b : Nat} (hb : 2 ≤ b) (n : Nat) : ∀ d, (figs b n)[0]? = some d → 0 < d := by
  induction n using Nat.strongRecOn with
  | _ n ih =>
    by_cases e : n = 0
    · subst e
      intro d hd
      cases hd
    · have hn := Nat.pos_of_ne_zero e
      intro d hd
      rw [figs_pos hb hn] at hd
      by_cases l : n / b = 0
      · rw [l, figs_zero] at hd
        have z : n % b = d := by simpa using hd
        have m := Nat.div_add_mod n b
        rw [l] at m
        omega
      · have lp := figs_len_pos (b := b) hb (Nat.pos_of_ne_zero l)
        rw [List.getElem?_append_left lp] at hd
        exact ih _ (div_lt hb hn) d hd
/-- a row of figures whose first one is above 0 is that of its number -/
theorem figs_wr {b : Nat} (hb : 2 ≤ b) : ∀ (k : Nat) (ds : List Nat), ds.length = k → (∀ d ∈ ds, d < b) → (∀ d, ds[0]? = some d → 0 < d) → figs b (wr b ds) = ds
  | 0, ds, hk, _, _ => by
    rw [List.length_eq_zero_iff.mp hk]
    rfl
  | k + 1, ds, hk, h1, h2 => by
    have hne : ds ≠ [] := fun e => by
      rw [e] at hk
      cases hk
    have hs := List.dropLast_concat_getLast hne
    have hlast : ds.getLast hne < b := h1 _ (List.getLast_mem hne)
    have hl : ds.dropLast.length = k := by
      rw [List.length_dropLast, hk]
      rfl
    have e : wr b ds = wr b ds.dropLast * b + ds.getLast hne := by
      conv => lhs; rw [← hs]
      exact wr_snoc b _ _
    have i1 : ∀ d ∈ ds.dropLast, d < b := fun d hd => h1 d (List.dropLast_subset _ hd)
    have i2 : ∀ d, ds.dropLast[0]? = some d → 0 < d := fun d hd => by
      refine h2 d ?_
      have l0 : 0 < ds.dropLast.length := (List.getElem?_eq_some_iff.mp hd).1
      rw [← hs, List.getElem?_append_left l0]
      exact hd
    have ih := figs_wr hb k ds.dropLast hl i1 i2
    have dv : wr b ds / b = wr b ds.dropLast := by
      rw [e, Nat.mul_comm, Nat.mul_add_div (by omega), Nat.div_eq_of_lt hlast, Nat.add_zero]
    have md : wr b ds % b = ds.getLast hne := by
      rw [e, Nat.mul_comm, Nat.mul_add_mod, Nat.mod_eq_of_lt hlast]
    have pos : 0 < wr b ds := by
      by_cases z : k = 0
      · subst z
        have z2 : ds.dropLast = [] := List.length_eq_zero_iff.mp hl
        rw [z2] at hs e
        have g : ds[0]? = some (ds.getLast hne) := (congrArg (fun l : List Nat => l[0]?) hs).symm
        have : 0 < ds.getLast hne := h2 _ g
        omega
      · have q : 0 < ds.dropLast.length := by omega
        have p0 : 0 < wr b ds.dropLast := by
          by_cases w : wr b ds.dropLast = 0
          · rw [w, figs_zero] at ih
            rw [← ih] at q
            cases q
          · exact Nat.pos_of_ne_zero w
        rw [e]
        have : b ≤ wr b ds.dropLast * b := Nat.le_mul_of_pos_left b p0
        omega
    rw [figs_pos hb pos, dv, md, ih]
    exact hs
theorem wr_lt {b : Nat} (hb : 2 ≤ b) : ∀ ds : List Nat, (∀ d ∈ ds, d < b) → wr b ds < b ^ ds.length
  | [], _ => by simp [wr_nil]
  | d :: ds, h => by
    rw [wr_cons, List.length_cons, Nat.pow_succ]
    have h1 := wr_lt hb ds fun x hx => h x (List.mem_cons_of_mem _ hx)
    have h2 : d + 1 ≤ b := h d List.mem_cons_self
    have h3 : (d + 1) * b ^ ds.length ≤ b * b ^ ds.length := Nat.mul_le_mul_right _ h2
    rw [Nat.add_mul, Nat.one_mul] at h3
    rw [Nat.mul_comm (b ^ ds.length) b]
    omega
/-- how many figures -/
theorem figs_len_le {b : Nat} (hb : 2 ≤ b) : ∀ (k n : Nat), n < b ^ k → (figs b n).length ≤ k
  | 0, n, h => by
    have e : n = 0 := by simpa using h
    subst e
    exact Nat.le_refl _
  | k + 1, n, h => by
    by_cases e : n = 0
    · subst e
      exact Nat.zero_le _
    · rw [figs_pos hb (Nat.pos_of_ne_zero e), List.length_append]
      have : n / b < b ^ k := by
        rw [Nat.div_lt_iff_lt_mul (by omega)]
        rw [Nat.pow_succ] at h
        exact h
      have := figs_len_le hb k (n / b) this
      show _ + 1 ≤ _
      omega
theorem figs_len_ge {b : Nat} (hb : 2 ≤ b) {k n : Nat} (h : b ^ k ≤ n) : k < (figs b n).length := by
  have h1 := wr_lt hb (figs b n) (figs_lt hb n)
  rw [wr_figs hb] at h1
  exact (Nat.pow_lt_pow_iff_right (by omega)).mp (Nat.lt_of_le_of_lt h h1)
theorem figs_len2 {b : Nat} (hb : 2 ≤ b) {k n : Nat} (h : n < 2 ^ k) : (figs b n).length ≤ k :=
  figs_len_le hb k n (Nat.lt_of_lt_of_le h (Nat.pow_le_pow_left hb k))
/-! ### a figure moved -/
def rotF (ds : List Nat) : List Nat := ds.drop (ds.length - 1) ++ ds.take (ds.length - 1)
def rotB (ds : List Nat) : List Nat := ds.drop 1 ++ ds.take 1
def rot (fr : Bool) (ds : List Nat) : List Nat := if fr then rotF ds else rotB ds
theorem rotB_rotF (ds : List Nat) : rotB (rotF ds) = ds := by
  unfold rotB rotF
  by_cases h : ds = []
  · subst h
    rfl
  · have l : 0 < ds.length := List.length_pos_iff.mpr h
    have e : (ds.drop (ds.length - 1)).length = 1 := by
      rw [List.length_drop]
      omega
    obtain ⟨x, hx⟩ := List.length_eq_one_iff.mp e
    have t := List.take_append_drop (ds.length - 1) ds
    rw [hx] at t
    rw [hx]
    exact t
theorem rotF_rotB (ds : List Nat) : rotF (rotB ds) = ds := by
  unfold rotB rotF
  by_cases h : ds = []
  · subst h
    rfl
  · have l : 0 < ds.length := List.length_pos_iff.mpr h
    have e1 : (ds.drop 1).length = ds.length - 1 := by rw [List.length_drop]
    have e2 : (ds.drop 1 ++ ds.take 1).length - 1 = (ds.drop 1).length := by
      rw [List.length_append, List.length_take, e1]
      omega
    rw [e2, List.drop_left, List.take_left]
    exact List.take_append_drop _ _
theorem rot_rot (fr : Bool) (ds : List Nat) : rot (!fr) (rot fr ds) = ds := by
  cases fr with
  | true => exact rotB_rotF ds
  | false => exact rotF_rotB ds
theorem rot_len (fr : Bool) (ds : List Nat) : (rot fr ds).length = ds.length := by
  cases fr with
  | true =>
    show (ds.drop (ds.length - 1) ++ ds.take (ds.length - 1)).length = _
    rw [List.length_append, List.length_drop, List.length_take]
    omega
  | false =>
    show (ds.drop 1 ++ ds.take 1).length = _
    rw [List.length_append, List.length_drop, List.length_take]
    omega
theorem rot_mem (fr : Bool) {ds : List Nat} {d : Nat} (h : d ∈ rot fr ds) : d ∈ ds := by
  cases fr with
  | true =>
    rcases List.mem_append.mp (show d ∈ ds.drop (ds.length - 1) ++ ds.take (ds.length - 1) from h) with h | h
    · exact List.mem_of_mem_drop h
    · exact List.mem_of_mem_take h
  | false =>
    rcases List.mem_append.mp (show d ∈ ds.drop 1 ++ ds.take 1 from h) with h | h
    · exact List.mem_of_mem_drop h
    · exact List.mem_of_mem_take h
/-- the number with a figure moved -/
def mv (b n : Nat) (fr : Bool) : Nat := wr b (rot fr (figs b n))
theorem mv_back {b : Nat} (hb : 2 ≤ b) (n : Nat) (fr : Bool) (h : ∀ d, (rot fr (figs b n))[0]? = some d → 0 < d) : mv b (mv b n fr) (!fr) = n := by
  unfold mv
  rw [figs_wr hb _ _ rfl (fun d hd => figs_lt hb n d (rot_mem fr hd)) h, rot_rot, wr_figs hb]
theorem mv_pos {b : Nat} (hb : 2 ≤ b) (n : Nat) (fr : Bool) (h : ∀ d, (rot fr (figs b n))[0]? = some d → 0 < d) (hn : 0 < n) : 0 < mv b n fr := by
  by_cases z : mv b n fr = 0
  · have e := mv_back hb n fr h
    rw [z] at e
    have : mv b 0 (!fr) = 0 := by cases fr <;> rfl
    omega
  · exact Nat.pos_of_ne_zero z
theorem mv_lt {b : Nat} (hb : 2 ≤ b) (n : Nat) (fr : Bool) : mv b n fr < b ^ (figs b n).length := by
  have h := wr_lt hb (rot fr (figs b n)) fun d hd => figs_lt hb n d (rot_mem fr hd)
  rw [rot_len] at h
  exact h
end Tf

/-! # lengths, plain -/
namespace Tf
/-! ### rests -/
theorem mod_one_iff {n x : Nat} (hx : 1 ≤ x) : x % n = 1 % n ↔ n ∣ x - 1 := by
  constructor
  · intro h
    exact Nat.dvd_of_mod_eq_zero (Nat.sub_mod_eq_zero_of_mod_eq h)
  · rintro ⟨c, hc⟩
    have e : x = 1 + n * c := by omega
    rw [e, Nat.add_mul_mod_self_left]
theorem mod_mul {a a' c c' n : Nat} (h1 : a % n = a' % n) (h2 : c % n = c' % n) : (a * c) % n = (a' * c') % n := by
  rw [Nat.mul_mod, h1, h2, ← Nat.mul_mod]
theorem mod_pow {a a' n : Nat} (k : Nat) (h : a % n = a' % n) : a ^ k % n = a' ^ k % n := by
  rw [Nat.pow_mod, h, ← Nat.pow_mod]
theorem one_pow_mod {a n : Nat} (k : Nat) (h : a % n = 1 % n) : a ^ k % n = 1 % n := by
  rw [mod_pow k h, Nat.one_pow]
theorem pow_pos1 {a : Nat} (ha : 1 ≤ a) (k : Nat) : 1 ≤ a ^ k := Nat.pow_pos ha
/-! ### as many drawers as things, and one thing more -/
theorem drawers : ∀ (n : Nat) (h : Nat → Nat), (∀ i, i ≤ n → h i < n) → ∃ i j, i < j ∧ j ≤ n ∧ h i = h j
  | 0, h, hh => absurd (hh 0 (Nat.le_refl _)) (Nat.not_lt_zero _)
  | n + 1, h, hh => by
    by_cases ex : ∃ i, i ≤ n ∧ h i = h (n + 1)
    · obtain ⟨i, hi, e⟩ := ex
      exact ⟨i, n + 1, by omega, Nat.le_refl _, e⟩
    · have ne : ∀ i, i ≤ n → h i ≠ h (n + 1) := fun i hi e => ex ⟨i, hi, e⟩
      have hv : h (n + 1) < n + 1 := hh (n + 1) (Nat.le_refl _)
      obtain ⟨i, j, hij, hj, e⟩ := drawers n (fun i => if h i = n then h (n + 1) else h i) (fun i hi => by
        have h1 := hh i (by omega)
        have h2 := ne i hi
        show (if h i = n then h (n + 1) else h i) < n
        split <;> omega)
      refine ⟨i, j, hij, by omega, ?_⟩
      have e' : (if h i = n then h (n + 1) else h i) = (if h j = n then h (n + 1) else h j) := e
      have n1 := ne i (by omega)
      have n2 := ne j hj
      split at e' <;> split at e' <;> omega
theorem ord_ex {g n : Nat} (hg : 1 ≤ g) (hn : 1 ≤ n) (hc : Nat.Coprime g n) : ∃ k, 1 ≤ k ∧ k ≤ n ∧ g ^ k % n = 1 % n := by
  obtain ⟨i, j, hij, hj, e⟩ := drawers n (fun i => g ^ i % n) (fun i _ => Nat.mod_lt _ hn)
  refine ⟨j - i, by omega, by omega, ?_⟩
  rw [mod_one_iff (pow_pos1 hg _)]
  have d : n ∣ g ^ j - g ^ i := Nat.dvd_of_mod_eq_zero (Nat.sub_mod_eq_zero_of_mod_eq e.symm)
  have e2 : g ^ j - g ^ i = g ^ i * (g ^ (j - i) - 1) := by
    rw [Nat.mul_sub, ← Nat.pow_add, Nat.mul_one]
    congr 2
    omega
  rw [e2] at d
  exact (Nat.Coprime.pow_left i hc).symm.dvd_of_dvd_mul_left d
/-! ### how often till 1 is left -/
def seek (p : Nat → Bool) : Nat → Nat → Nat
  | 0, k => k
  | f + 1, k => if p k then k else seek p f (k + 1)
theorem seek_spec {p : Nat → Bool} : ∀ (f k m : Nat), k ≤ m → m ≤ k + f → p m = true → p (seek p f k) = true ∧ k ≤ seek p f k ∧ seek p f k ≤ m ∧ ∀ j, k ≤ j → j < seek p f k → p j = false
  | 0, k, m, h1, h2, hm => by
    have e : m = k := by omega
    subst e
    exact ⟨hm, Nat.le_refl _, Nat.le_refl _, fun j a b => by
      have b' : j < m := b
      omega⟩
  | f + 1, k, m, h1, h2, hm => by
    unfold seek
    by_cases hk : p k = true
    · rw [if_pos hk]
      exact ⟨hk, Nat.le_refl _, h1, fun j a b => by omega⟩
    · rw [if_neg hk]
      have hne : k ≠ m := fun e => hk (by rw [e]; exact hm)
      obtain ⟨a, b, c, d⟩ := seek_spec f (k + 1) m (by omega) (by omega) hm
      refine ⟨a, by omega, c, fun j x y => ?_⟩
      by_cases z : j = k
      · subst z
        exact Bool.eq_false_iff.mpr hk
      · exact d j (by omega) y
def ordN (g n : Nat) : Nat := seek (fun k => g ^ k % n == 1 % n) n 1
structure IsOrd (g n k : Nat) : Prop where
  pos : 1 ≤ k
  le : k ≤ n
  one : g ^ k % n = 1 % n
  least : ∀ j, 1 ≤ j → j < k → g ^ j % n ≠ 1 % n
theorem ordN_is {g n : Nat} (hg : 1 ≤ g) (hn : 1 ≤ n) (hc : Nat.Coprime g n) : IsOrd g n (ordN g n) := by
  obtain ⟨k, h1, h2, h3⟩ := ord_ex hg hn hc
  obtain ⟨a, b, c, d⟩ := seek_spec (p := fun k => g ^ k % n == 1 % n) n 1 k h1 (by omega) (by simpa using h3)
  refine ⟨b, Nat.le_trans c h2, by unfold ordN; simpa using a, fun j x y => ?_⟩
  have := d j x y
  simpa using this
theorem IsOrd.dvd {g n k : Nat} (o : IsOrd g n k) (m : Nat) : g ^ m % n = 1 % n ↔ k ∣ m := by
  have key : ∀ q r, g ^ (k * q + r) % n = g ^ r % n := fun q r => by
    rw [Nat.pow_add, Nat.pow_mul]
    have h1 : (g ^ k) ^ q % n = 1 % n := one_pow_mod q o.one
    have := mod_mul h1 (rfl : g ^ r % n = g ^ r % n)
    rw [Nat.one_mul] at this
    exact this
  constructor
  · intro h
    have e := Nat.div_add_mod m k
    rw [← e, key] at h
    by_cases z : m % k = 0
    · exact Nat.dvd_of_mod_eq_zero z
    · exact absurd h (o.least _ (by omega) (Nat.mod_lt _ o.pos))
  · rintro ⟨q, rfl⟩
    have := key q 0
    rw [Nat.add_zero, Nat.pow_zero] at this
    exact this
theorem IsOrd.uniq {g n k l : Nat} (a : IsOrd g n k) (c : IsOrd g n l) : k = l :=
  Nat.dvd_antisymm ((a.dvd l).mp c.one) ((c.dvd k).mp a.one)
/-! ### the rest by the greatest common one -/
def cut (n d : Nat) : Nat := n / Nat.gcd n d
theorem cut_pos {n d : Nat} (hn : 1 ≤ n) : 1 ≤ cut n d := Nat.div_pos (Nat.le_of_dvd hn (Nat.gcd_dvd_left _ _)) (Nat.gcd_pos_of_pos_left _ hn)
theorem cut_le (n d : Nat) : cut n d ≤ n := Nat.div_le_self _ _
theorem cut_dvd (n d : Nat) : cut n d ∣ n := ⟨Nat.gcd n d, (Nat.div_mul_cancel (Nat.gcd_dvd_left n d)).symm⟩
theorem cut_iff {n d : Nat} (hn : 1 ≤ n) (x : Nat) : n ∣ d * x ↔ cut n d ∣ x := by
  have hg : 0 < Nat.gcd n d := Nat.gcd_pos_of_pos_left _ hn
  have e1 : n / Nat.gcd n d * Nat.gcd n d = n := Nat.div_mul_cancel (Nat.gcd_dvd_left n d)
  have e2 : d / Nat.gcd n d * Nat.gcd n d = d := Nat.div_mul_cancel (Nat.gcd_dvd_right n d)
  have co : (n / Nat.gcd n d).Coprime (d / Nat.gcd n d) := Nat.coprime_div_gcd_div_gcd hg
  have e3 : d * x = d / Nat.gcd n d * x * Nat.gcd n d := by
    conv => lhs; rw [← e2]
    rw [Nat.mul_assoc, Nat.mul_assoc, Nat.mul_comm (Nat.gcd n d) x]
  have s : n ∣ d * x ↔ n / Nat.gcd n d ∣ d / Nat.gcd n d * x := by
    rw [e3]
    conv => lhs; lhs; rw [← e1]
    exact Nat.mul_dvd_mul_iff_right hg
  rw [s]
  exact ⟨fun h => co.dvd_of_dvd_mul_left h, fun h => Nat.dvd_mul_left_of_dvd h _⟩
/-! ### the length -/
def backOf (g n : Nat) : Option Nat := if Nat.gcd g n > 1 then none else some (ordN g n)
def lenOf (b f : Nat) (fr : Bool) (d : Nat) : Option Nat :=
  if fr then (if f ≤ d then backOf b (cut (f * b - 1) d) else none)
  else if (d + 1) * f ≤ b then backOf f (cut (b - f) d) else none
/-- bases, factors, figures -/
structure Bfd (b f d : Nat) : Prop where
  b3 : 3 ≤ b
  b36 : b ≤ 36
  f2 : 2 ≤ f
  fb : f < b
  d1 : 1 ≤ d
  db : d < b
theorem Bfd.n5 {b f d : Nat} (h : Bfd b f d) : 2 * b - 1 ≤ f * b - 1 := by
  have := Nat.mul_le_mul_right b h.f2
  omega
theorem Bfd.nle {b f d : Nat} (h : Bfd b f d) : f * b - 1 ≤ 1296 := by
  have := Nat.mul_le_mul (show f ≤ 36 by have := h.b36; have := h.fb; omega) h.b36
  omega
/-- the base and the factor undo each other -/
theorem inv_mod {b f d : Nat} (h : Bfd b f d) : (f * b) % cut (f * b - 1) d = 1 % cut (f * b - 1) d := by
  have n5 := h.n5
  have b3 := h.b3
  rw [mod_one_iff (by omega)]
  exact cut_dvd _ _
theorem co_front {b f d : Nat} (h : Bfd b f d) : Nat.Coprime b (cut (f * b - 1) d) := by
  have n5 := h.n5
  have b3 := h.b3
  have d1 : Nat.gcd b (cut (f * b - 1) d) ∣ f * b - 1 := Nat.dvd_trans (Nat.gcd_dvd_right _ _) (cut_dvd _ _)
  have d2 : Nat.gcd b (cut (f * b - 1) d) ∣ f * b := Nat.dvd_mul_left_of_dvd (Nat.gcd_dvd_left _ _) _
  have d3 := Nat.dvd_sub d2 d1
  have e : f * b - (f * b - 1) = 1 := by omega
  rw [e] at d3
  exact Nat.dvd_one.mp d3
theorem len_front {b f d : Nat} (h : Bfd b f d) (hd : f ≤ d) : ∃ k, lenOf b f true d = some k ∧ IsOrd b (cut (f * b - 1) d) k := by
  have co := co_front h
  have n5 := h.n5
  have b3 := h.b3
  refine ⟨ordN b (cut (f * b - 1) d), ?_, ordN_is (by omega) (cut_pos (by omega)) co⟩
  show (if f ≤ d then backOf b (cut (f * b - 1) d) else none) = _
  rw [if_pos hd]
  unfold backOf
  rw [co.gcd_eq_one, if_neg (by decide)]
theorem len_front_none {b f d : Nat} (hd : ¬ f ≤ d) : lenOf b f true d = none := if_neg hd
theorem len_behind {b f d k : Nat} (h : Bfd b f d) (e : lenOf b f false d = some k) : (d + 1) * f ≤ b ∧ IsOrd f (cut (b - f) d) k := by
  have e' : (if (d + 1) * f ≤ b then backOf f (cut (b - f) d) else none) = some k := e
  by_cases c : (d + 1) * f ≤ b
  · rw [if_pos c] at e'
    unfold backOf at e'
    by_cases g : Nat.gcd f (cut (b - f) d) > 1
    · rw [if_pos g] at e'
      cases e'
    · rw [if_neg g] at e'
      have ek := Option.some.inj e'
      have fb := h.fb
      have f2 := h.f2
      have gp : 0 < Nat.gcd f (cut (b - f) d) := Nat.gcd_pos_of_pos_left _ (by omega)
      subst ek
      exact ⟨c, ordN_is (by omega) (cut_pos (by omega)) (show Nat.gcd f (cut (b - f) d) = 1 by omega)⟩
  · rw [if_neg c] at e'
    cases e'
/-- where there is none: the figure is too great, or no power leaves 1 -/
theorem len_behind_none {b f d : Nat} (h : Bfd b f d) (e : lenOf b f false d = none) (m : Nat) (hm : 1 ≤ m) : ¬ ((d + 1) * f ≤ b ∧ f ^ m % cut (b - f) d = 1 % cut (b - f) d) := by
  rintro ⟨c, hp⟩
  have e' : (if (d + 1) * f ≤ b then backOf f (cut (b - f) d) else none) = none := e
  rw [if_pos c] at e'
  unfold backOf at e'
  have fb := h.fb
  have f2 := h.f2
  by_cases g : Nat.gcd f (cut (b - f) d) > 1
  · have q : Nat.gcd f (cut (b - f) d) ∣ f ^ m := by
      obtain ⟨j, rfl⟩ : ∃ j, m = j + 1 := ⟨m - 1, by omega⟩
      rw [Nat.pow_succ]
      exact Nat.dvd_mul_left_of_dvd (Nat.gcd_dvd_left _ _) _
    have r : cut (b - f) d ∣ f ^ m - 1 := (mod_one_iff (pow_pos1 (by omega) _)).mp hp
    have t := Nat.dvd_sub q (Nat.dvd_trans (Nat.gcd_dvd_right f (cut (b - f) d)) r)
    have pp := pow_pos1 (show 1 ≤ f by omega) m
    rw [show f ^ m - (f ^ m - 1) = 1 by omega] at t
    have := Nat.dvd_one.mp t
    omega
  · rw [if_neg g] at e'
    cases e'
/-! ### multiplied from the last figure on -/
/-- what stands behind k turns: the figure and, times the base, what is over -/
def fw (b f d k : Nat) : Nat := d * f ^ k % (f * b - 1)
theorem fw_zero {b f d : Nat} (h : Bfd b f d) : fw b f d 0 = d := by
  unfold fw
  rw [Nat.pow_zero, Nat.mul_one]
  have := h.n5
  have := h.db
  exact Nat.mod_eq_of_lt (by omega)
theorem co_f {b f : Nat} (hb : 3 ≤ b) (hf : 2 ≤ f) : Nat.Coprime f (f * b - 1) := by
  have n5 := Nat.mul_le_mul_right b hf
  have d2 : Nat.gcd f (f * b - 1) ∣ f * b := Nat.dvd_mul_right_of_dvd (Nat.gcd_dvd_left _ _) _
  have d3 := Nat.dvd_sub d2 (Nat.gcd_dvd_right f (f * b - 1))
  rw [show f * b - (f * b - 1) = 1 by omega] at d3
  exact Nat.dvd_one.mp d3
theorem fw_pos {b f d : Nat} (h : Bfd b f d) (k : Nat) : 1 ≤ fw b f d k := by
  unfold fw
  by_cases z : d * f ^ k % (f * b - 1) = 0
  · have dv := Nat.dvd_of_mod_eq_zero z
    have c := (Nat.Coprime.pow_left k (co_f h.b3 h.f2)).symm
    rw [Nat.mul_comm d] at dv
    have := Nat.le_of_dvd h.d1 (c.dvd_of_dvd_mul_left dv)
    have := h.n5
    have := h.db
    omega
  · omega
theorem fw_lt {b f d : Nat} (h : Bfd b f d) (k : Nat) : fw b f d k < f * b - 1 := by
  have := h.n5
  have := h.b3
  exact Nat.mod_lt _ (by omega)
theorem fw_step {b f d : Nat} (h : Bfd b f d) (k : Nat) : f * (fw b f d k % b) + fw b f d k / b = fw b f d (k + 1) := by
  have n5 := h.n5
  have b3 := h.b3
  have f2 := h.f2
  have w1 := fw_pos h k
  have w2 := fw_lt h k
  have e0 : fw b f d (k + 1) = f * fw b f d k % (f * b - 1) := by
    unfold fw
    have := mod_mul (n := f * b - 1) (a := d * f ^ k) (a' := d * f ^ k % (f * b - 1)) (Nat.mod_mod _ _).symm (rfl : f % (f * b - 1) = f % (f * b - 1))
    rw [Nat.pow_succ, ← Nat.mul_assoc, this, Nat.mul_comm f (d * f ^ k % (f * b - 1))]
  rw [e0]
  generalize fw b f d k = x at *
  have dm := Nat.div_add_mod x b
  have ml := Nat.mod_lt x (show 0 < b by omega)
  generalize hx1 : x % b = u at *
  generalize hx2 : x / b = v at *
  -- f * x = f * b * v + f * u = (f b - 1) v + v + f u
  have ex : f * x = (f * b - 1) * v + (f * u + v) := by
    have a1 : f * x = f * b * v + f * u := by
      rw [← dm, Nat.mul_add, Nat.mul_assoc]
    have a2 : (f * b - 1) * v = f * b * v - v := by rw [Nat.sub_mul, Nat.one_mul]
    have a3 : v ≤ f * b * v := Nat.le_mul_of_pos_left v (by omega)
    omega
  have vf : v < f := by
    rcases Nat.lt_or_ge v f with z | z
    · exact z
    · have : b * f ≤ b * v := Nat.mul_le_mul_left b z
      rw [Nat.mul_comm b f] at this
      omega
  have fu : f * u + v < f * b - 1 := by
    have a1 : f * u ≤ f * (b - 1) := Nat.mul_le_mul_left f (by omega)
    have a2 : f * (b - 1) = f * b - f := by rw [Nat.mul_sub, Nat.mul_one]
    have a0 : f ≤ f * b := Nat.le_mul_of_pos_right f (by omega)
    by_cases c1 : u = b - 1
    · by_cases c2 : v = f - 1
      · have a3 : b * v = b * f - b := by
          rw [c2, Nat.mul_sub, Nat.mul_one]
        rw [Nat.mul_comm b f] at a3
        omega
      · omega
    · have a4 : f * u ≤ f * (b - 2) := Nat.mul_le_mul_left f (by omega)
      have a5 : f * (b - 2) = f * b - 2 * f := by rw [Nat.mul_sub, Nat.mul_comm f 2]
      have a6 : 2 * f ≤ f * b := by
        rw [Nat.mul_comm f b]
        exact Nat.mul_le_mul_right f (by omega)
      omega
  rw [ex, Nat.mul_add_mod, Nat.mod_eq_of_lt fu]
theorem fw_back {b f d : Nat} (h : Bfd b f d) (k : Nat) : fw b f d k = d ↔ b ^ k % cut (f * b - 1) d = 1 % cut (f * b - 1) d := by
  have n5 := h.n5
  have b3 := h.b3
  have f2 := h.f2
  have db := h.db
  have e1 : fw b f d k = d ↔ f ^ k % cut (f * b - 1) d = 1 % cut (f * b - 1) d := by
    rw [mod_one_iff (pow_pos1 (by omega) _), ← cut_iff (by omega)]
    have pp := pow_pos1 (show 1 ≤ f by omega) k
    have ml : d ≤ d * f ^ k := Nat.le_mul_of_pos_right d pp
    have e2 : d * (f ^ k - 1) = d * f ^ k - d := by rw [Nat.mul_sub, Nat.mul_one]
    rw [e2]
    constructor
    · intro e
      have : d * f ^ k % (f * b - 1) = d % (f * b - 1) := by
        rw [Nat.mod_eq_of_lt (show d < f * b - 1 by omega)]
        exact e
      exact Nat.dvd_of_mod_eq_zero (Nat.sub_mod_eq_zero_of_mod_eq this)
    · rintro ⟨c, hc⟩
      have e3 : d * f ^ k = d + (f * b - 1) * c := by omega
      unfold fw
      rw [e3, Nat.add_mul_mod_self_left, Nat.mod_eq_of_lt (by omega)]
  rw [e1]
  have iv := one_pow_mod k (inv_mod h)
  rw [Nat.mul_pow] at iv
  constructor
  · intro e
    have := mod_mul e (rfl : b ^ k % cut (f * b - 1) d = b ^ k % cut (f * b - 1) d)
    rw [iv, Nat.one_mul] at this
    exact this.symm
  · intro e
    have := mod_mul (rfl : f ^ k % cut (f * b - 1) d = f ^ k % cut (f * b - 1) d) e
    rw [iv, Nat.mul_one] at this
    exact this.symm
/-- the figure ahead of the last turn: the first one of the number -/
theorem fw_last {b f d k : Nat} (h : Bfd b f d) (hk : fw b f d (k + 1) = d) : 0 < fw b f d k % b ↔ f ≤ d := by
  have n5 := h.n5
  have b3 := h.b3
  have f2 := h.f2
  have db := h.db
  have d1 := h.d1
  have st := fw_step h k
  rw [hk] at st
  have w2 := fw_lt h k
  generalize fw b f d k = x at *
  have dm := Nat.div_add_mod x b
  have ml := Nat.mod_lt x (show 0 < b by omega)
  generalize x % b = u at *
  generalize x / b = v at *
  constructor
  · intro hu
    have : f * 1 ≤ f * u := Nat.mul_le_mul_left f hu
    omega
  · intro hd
    rcases Nat.eq_zero_or_pos u with z | z
    · rw [z, Nat.mul_zero, Nat.zero_add] at st
      have : b * f ≤ b * v := Nat.mul_le_mul_left b (by omega)
      rw [Nat.mul_comm b f] at this
      omega
    · exact z
/-! ### behind: the rest has to be whole and short enough -/
def bTest (b f d m : Nat) : Bool := decide (d * (f * b ^ (m - 1) - 1) % (b - f) = 0) && (decide (d * (f * b ^ (m - 1) - 1) / (b - f) < b ^ (m - 1)) && decide (1 < m))
theorem whole_iff {b f d m : Nat} (h : Bfd b f d) (hm : 1 ≤ m) : (b - f) ∣ d * (f * b ^ (m - 1) - 1) ↔ f ^ m % cut (b - f) d = 1 % cut (b - f) d := by
  have b3 := h.b3
  have f2 := h.f2
  have fb := h.fb
  have pb := pow_pos1 (show 1 ≤ b by omega) (m - 1)
  have pf := pow_pos1 (show 1 ≤ f by omega) m
  have fp : 1 ≤ f * b ^ (m - 1) := Nat.mul_pos (by omega) pb
  rw [cut_iff (by omega), ← mod_one_iff fp]
  have e : b % cut (b - f) d = f % cut (b - f) d := by
    obtain ⟨c, hc⟩ := cut_dvd (b - f) d
    have : b = f + cut (b - f) d * c := by omega
    conv => lhs; lhs; rw [this]
    rw [Nat.add_mul_mod_self_left]
  have e2 : f * b ^ (m - 1) % cut (b - f) d = f ^ m % cut (b - f) d := by
    rw [mod_mul (rfl : f % _ = f % _) (mod_pow (m - 1) e)]
    congr 1
    obtain ⟨j, rfl⟩ : ∃ j, m = j + 1 := ⟨m - 1, by omega⟩
    rw [Nat.add_sub_cancel, Nat.pow_succ, Nat.mul_comm]
  rw [e2]
theorem short_iff {b f d m : Nat} (h : Bfd b f d) (hm : 2 ≤ m) : d * (f * b ^ (m - 1) - 1) / (b - f) < b ^ (m - 1) ↔ (d + 1) * f ≤ b := by
  have b3 := h.b3
  have f2 := h.f2
  have fb := h.fb
  have d1 := h.d1
  have db := h.db
  have pb : b ≤ b ^ (m - 1) := by
    obtain ⟨j, hj⟩ : ∃ j, m - 1 = j + 1 := ⟨m - 2, by omega⟩
    rw [hj, Nat.pow_succ]
    exact Nat.le_mul_of_pos_left b (pow_pos1 (by omega) j)
  generalize b ^ (m - 1) = g at *
  rw [Nat.div_lt_iff_lt_mul (by omega)]
  have e1 : d * (f * g - 1) = d * f * g - d := by rw [Nat.mul_sub, Nat.mul_one, Nat.mul_assoc]
  have e2 : g * (b - f) = (b - f) * g := Nat.mul_comm _ _
  have e3 : (d + 1) * f = d * f + f := by rw [Nat.add_mul, Nat.one_mul]
  rw [e1, e2, e3]
  constructor
  · intro hlt
    rcases Nat.lt_or_ge b (d * f + f) with z | z
    · have z1 : (b - f) + 1 ≤ d * f := by omega
      have z2 := Nat.mul_le_mul_right g z1
      rw [Nat.add_mul, Nat.one_mul] at z2
      omega
    · exact z
  · intro hle
    have z1 : d * f ≤ b - f := by omega
    have z2 := Nat.mul_le_mul_right g z1
    have z3 : 0 < d * f * g := Nat.mul_pos (Nat.mul_pos d1 (by omega)) (by omega)
    omega
theorem ord_two {b f d k : Nat} (h : Bfd b f d) (c : (d + 1) * f ≤ b) (o : IsOrd f (cut (b - f) d) k) : 2 ≤ k := by
  rcases Nat.lt_or_ge k 2 with z | z
  · have e : k = 1 := by
      have := o.pos
      omega
    subst e
    have b3 := h.b3
    have f2 := h.f2
    have fb := h.fb
    have d1 := h.d1
    have one := o.one
    rw [mod_one_iff (pow_pos1 (by omega) _), Nat.pow_one, ← cut_iff (by omega)] at one
    have z1 : 0 < d * (f - 1) := Nat.mul_pos d1 (by omega)
    have z2 := Nat.le_of_dvd z1 one
    have z3 : d * (f - 1) = d * f - d := by rw [Nat.mul_sub, Nat.mul_one]
    have z4 : (d + 1) * f = d * f + f := by rw [Nat.add_mul, Nat.one_mul]
    omega
  · exact z
theorem bTest_iff {b f d m : Nat} (h : Bfd b f d) (hm : 1 ≤ m) : bTest b f d m = true ↔ 2 ≤ m ∧ (d + 1) * f ≤ b ∧ f ^ m % cut (b - f) d = 1 % cut (b - f) d := by
  unfold bTest
  rw [Bool.and_eq_true, Bool.and_eq_true, decide_eq_true_eq, decide_eq_true_eq, decide_eq_true_eq]
  constructor
  · rintro ⟨h1, h2, h3⟩
    have w := Nat.dvd_of_mod_eq_zero h1
    exact ⟨h3, (short_iff h h3).mp h2, (whole_iff h hm).mp w⟩
  · rintro ⟨h1, h2, h3⟩
    have w := (whole_iff h hm).mpr h3
    exact ⟨Nat.mod_eq_zero_of_dvd w, (short_iff h h1).mpr h2, h1⟩
theorem bTest_some {b f d k : Nat} (h : Bfd b f d) (e : lenOf b f false d = some k) : 2 ≤ k ∧ k < 2 * b ∧ bTest b f d k = true ∧ ∀ j, 1 ≤ j → j < k → bTest b f d j = false := by
  obtain ⟨c, o⟩ := len_behind h e
  have k2 := ord_two h c o
  have kl := o.le
  have cl := cut_le (b - f) d
  have b3 := h.b3
  refine ⟨k2, by omega, (bTest_iff h (by omega)).mpr ⟨k2, c, o.one⟩, fun j h1 h2 => ?_⟩
  cases q : bTest b f d j with
  | false => rfl
  | true => exact absurd ((bTest_iff h h1).mp q).2.2 (o.least j h1 h2)
theorem bTest_none {b f d : Nat} (h : Bfd b f d) (e : lenOf b f false d = none) (j : Nat) (hj : 1 ≤ j) : bTest b f d j = false := by
  cases q : bTest b f d j with
  | false => rfl
  | true => exact absurd ((bTest_iff h hj).mp q).2 (len_behind_none h e j hj)
end Tf

/-! # numbers that turn, plain -/
namespace Tf
/-- as many figures -/
theorem figs_len {b m x : Nat} (hb : 2 ≤ b) (hm : 1 ≤ m) (h1 : b ^ (m - 1) ≤ x) (h2 : x < b ^ m) : (figs b x).length = m := by
  have a := figs_len_le hb m x h2
  have c := figs_len_ge hb h1
  omega
theorem len_figs {b x : Nat} (hb : 2 ≤ b) (hx : 0 < x) : b ^ ((figs b x).length - 1) ≤ x ∧ x < b ^ (figs b x).length := by
  have h1 := wr_lt hb (figs b x) (figs_lt hb x)
  rw [wr_figs hb] at h1
  refine ⟨?_, h1⟩
  rcases Nat.lt_or_ge x (b ^ ((figs b x).length - 1)) with z | z
  · have := figs_len_le hb _ x z
    have := figs_len_pos hb hx
    omega
  · exact z
theorem mv_front {b x m : Nat} (hb : 2 ≤ b) (hx : 0 < x) (hl : (figs b x).length = m) : mv b x true = x % b * b ^ (m - 1) + x / b := by
  have e := figs_pos hb hx
  have l : (figs b (x / b)).length = m - 1 := by
    have := congrArg List.length e
    rw [hl, List.length_append] at this
    have z : ([x % b] : List Nat).length = 1 := rfl
    omega
  show wr b ((figs b x).drop ((figs b x).length - 1) ++ (figs b x).take ((figs b x).length - 1)) = _
  rw [hl, e, ← l, List.drop_left, List.take_left]
  show wr b (x % b :: figs b (x / b)) = _
  rw [wr_cons, wr_figs hb]
theorem mv_behind {b x m : Nat} (hb : 2 ≤ b) (hx : 0 < x) (hl : (figs b x).length = m) : mv b x false = x % b ^ (m - 1) * b + x / b ^ (m - 1) := by
  have hne := figs_ne hb hx
  obtain ⟨d, r, e⟩ : ∃ d r, figs b x = d :: r := by
    cases q : figs b x with
    | nil => exact absurd q hne
    | cons d r => exact ⟨d, r, rfl⟩
  have l : r.length = m - 1 := by
    rw [e, List.length_cons] at hl
    omega
  have w : x = d * b ^ (m - 1) + wr b r := by
    have := wr_figs hb x
    rw [e, wr_cons, l] at this
    exact this.symm
  have rl : wr b r < b ^ (m - 1) := by
    rw [← l]
    exact wr_lt hb r fun y hy => figs_lt hb x y (by rw [e]; exact List.mem_cons_of_mem _ hy)
  have q1 : x / b ^ (m - 1) = d := by
    rw [w, Nat.mul_comm, Nat.mul_add_div (by omega), Nat.div_eq_of_lt rl, Nat.add_zero]
  have q2 : x % b ^ (m - 1) = wr b r := by
    rw [w, Nat.mul_comm, Nat.mul_add_mod, Nat.mod_eq_of_lt rl]
  show wr b ((figs b x).drop 1 ++ (figs b x).take 1) = _
  rw [e, q1, q2]
  show wr b (r ++ [d]) = _
  rw [wr_snoc]
/-! ### to the front -/
theorem front_eq {b f x m : Nat} (hb : 2 ≤ b) (hf : 1 ≤ f) (hx : 0 < x) (hl : (figs b x).length = m) : mv b x true = f * x ↔ x * (f * b - 1) = x % b * (b ^ m - 1) := by
  have hm : 1 ≤ m := by
    have := figs_len_pos hb hx
    omega
  rw [mv_front hb hx hl]
  obtain ⟨j, rfl⟩ : ∃ j, m = j + 1 := ⟨m - 1, by omega⟩
  rw [Nat.add_sub_cancel]
  have dm := Nat.div_add_mod x b
  have pp := pow_pos1 (show 1 ≤ b by omega) (j + 1)
  have fb : 1 ≤ f * b := Nat.mul_pos hf (by omega)
  have e1 : x * (f * b - 1) = x * (f * b) - x := by rw [Nat.mul_sub, Nat.mul_one]
  have e2 : x % b * (b ^ (j + 1) - 1) = x % b * b ^ (j + 1) - x % b := by rw [Nat.mul_sub, Nat.mul_one]
  have e3 : x ≤ x * (f * b) := Nat.le_mul_of_pos_right x fb
  have e4 : x % b ≤ x % b * b ^ (j + 1) := Nat.le_mul_of_pos_right _ pp
  have e5 : x * (f * b) = f * x * b := by rw [← Nat.mul_assoc, Nat.mul_comm x f]
  have e6 : (x % b * b ^ j + x / b) * b = x % b * b ^ (j + 1) + b * (x / b) := by
    rw [Nat.add_mul, Nat.pow_succ, Nat.mul_assoc, Nat.mul_comm (x / b) b]
  rw [e1, e2, e5]
  rw [e5] at e3
  constructor
  · intro h
    have := congrArg (· * b) h
    simp only [e6] at this
    omega
  · intro h
    refine Nat.eq_of_mul_eq_mul_right (show 0 < b by omega) ?_
    rw [e6]
    omega
def turnF (b f d m : Nat) : Nat := d * (b ^ m - 1) / (f * b - 1)
theorem front_dvd {b f d k m : Nat} (h : Bfd b f d) (o : IsOrd b (cut (f * b - 1) d) k) : (f * b - 1) ∣ d * (b ^ m - 1) ↔ k ∣ m := by
  have n5 := h.n5
  have b3 := h.b3
  rw [cut_iff (by omega), ← mod_one_iff (pow_pos1 (by omega) _)]
  exact o.dvd m
structure TurnF (b f d m x : Nat) : Prop where
  eq : x * (f * b - 1) = d * (b ^ m - 1)
  lo : b ^ (m - 1) ≤ x
  hi : x < b ^ m
  last : x % b = d
  two : 2 ≤ m
theorem turnF_is {b f d m : Nat} (h : Bfd b f d) (hd : f ≤ d) (hm : 1 ≤ m) (dv : (f * b - 1) ∣ d * (b ^ m - 1)) : TurnF b f d m (turnF b f d m) := by
  have n5 := h.n5
  obtain ⟨b3, b36, f2, fb, d1, db⟩ := id h
  have eq : turnF b f d m * (f * b - 1) = d * (b ^ m - 1) := Nat.div_mul_cancel dv
  generalize turnF b f d m = x at *
  obtain ⟨j, rfl⟩ : ∃ j, m = j + 1 := ⟨m - 1, by omega⟩
  have pj := pow_pos1 (show 1 ≤ b by omega) j
  have ps : b ^ (j + 1) = b ^ j * b := Nat.pow_succ ..
  have pp : 1 ≤ b ^ (j + 1) := pow_pos1 (by omega) _
  -- the last figure
  have eqI : x * (f * b) + d = d * b ^ (j + 1) + x := by
    have a1 : x * (f * b - 1) = x * (f * b) - x := by rw [Nat.mul_sub, Nat.mul_one]
    have a2 : d * (b ^ (j + 1) - 1) = d * b ^ (j + 1) - d := by rw [Nat.mul_sub, Nat.mul_one]
    have a3 : x ≤ x * (f * b) := Nat.le_mul_of_pos_right x (by omega)
    have a4 : d ≤ d * b ^ (j + 1) := Nat.le_mul_of_pos_right _ pp
    omega
  have last : x % b = d := by
    have l1 : (x * (f * b) + d) % b = d := by
      rw [← Nat.mul_assoc, Nat.mul_comm (x * f) b, Nat.mul_add_mod, Nat.mod_eq_of_lt db]
    have l2 : (d * b ^ (j + 1) + x) % b = x % b := by
      rw [ps, ← Nat.mul_assoc, Nat.mul_comm (d * b ^ j) b, Nat.mul_add_mod]
    rw [← l2, ← eqI, l1]
  -- not one figure
  have j1 : 1 ≤ j := by
    rcases Nat.eq_zero_or_pos j with z | z
    · subst z
      rw [Nat.zero_add, Nat.pow_one] at eqI
      exfalso
      -- x = d (x < b), then f = 1
      have xl : x < b := by
        rcases Nat.lt_or_ge x b with q | q
        · exact q
        · have c1 : x * (2 * b) ≤ x * (f * b) := Nat.mul_le_mul_left x (Nat.mul_le_mul_right b f2)
          have c2 : d * b ≤ x * b := Nat.mul_le_mul_right b (by omega)
          have c3 : x * (2 * b) = x * b + x * b := by rw [Nat.mul_left_comm, Nat.two_mul]
          have c4 : x ≤ x * b := Nat.le_mul_of_pos_right x (by omega)
          omega
      rw [Nat.mod_eq_of_lt xl] at last
      subst last
      have c1 : x * (2 * b) ≤ x * (f * b) := Nat.mul_le_mul_left x (Nat.mul_le_mul_right b f2)
      have c3 : x * (2 * b) = x * b + x * b := by rw [Nat.mul_left_comm, Nat.two_mul]
      have c4 : x * 1 ≤ x * b := Nat.mul_le_mul_left x (by omega)
      have c5 : 0 < x * b := Nat.mul_pos d1 (by omega)
      omega
    · exact z
  have bj : b ≤ b ^ j := by
    obtain ⟨i, rfl⟩ : ∃ i, j = i + 1 := ⟨j - 1, by omega⟩
    rw [Nat.pow_succ]
    exact Nat.le_mul_of_pos_left b (pow_pos1 (by omega) i)
  refine ⟨eq, ?_, ?_, last, by omega⟩
  · -- b ^ j <= x
    rw [Nat.add_sub_cancel]
    rcases Nat.lt_or_ge x (b ^ j) with q | q
    · exfalso
      have c1 : (x + 1) * (f * b) ≤ b ^ j * (f * b) := Nat.mul_le_mul_right _ q
      have c2 : b ^ j * (f * b) = f * b ^ (j + 1) := by
        rw [ps, Nat.mul_left_comm]
      have c3 : f * b ^ (j + 1) ≤ d * b ^ (j + 1) := Nat.mul_le_mul_right _ hd
      have c4 : (x + 1) * (f * b) = x * (f * b) + f * b := by rw [Nat.add_mul, Nat.one_mul]
      omega
    · exact q
  · rcases Nat.lt_or_ge x (b ^ (j + 1)) with q | q
    · exact q
    · exfalso
      have c1 : b ^ (j + 1) * (f * b) ≤ x * (f * b) := Nat.mul_le_mul_right _ q
      have c2 : x * (2 * b) ≤ x * (f * b) := Nat.mul_le_mul_left x (Nat.mul_le_mul_right b f2)
      have c3 : x * (2 * b) = x * b + x * b := by rw [Nat.mul_left_comm, Nat.two_mul]
      have c4 : d * b ^ (j + 1) ≤ b * b ^ (j + 1) := Nat.mul_le_mul_right _ (by omega)
      have c5 : b ^ (j + 1) * b ≤ x * b := Nat.mul_le_mul_right b q
      rw [Nat.mul_comm (b ^ (j + 1)) b] at c5
      have c6 : x * 3 ≤ x * b := Nat.mul_le_mul_left x b3
      omega
theorem TurnF.turns {b f d m x : Nat} (h : Bfd b f d) (t : TurnF b f d m x) : (figs b x).length = m ∧ mv b x true = f * x ∧ 0 < x := by
  obtain ⟨b3, b36, f2, fb, d1, db⟩ := id h
  have two := t.two
  have hl := figs_len (show 2 ≤ b by omega) (by omega) t.lo t.hi
  have hx : 0 < x := Nat.lt_of_lt_of_le (pow_pos1 (show 1 ≤ b by omega) (m - 1)) t.lo
  refine ⟨hl, (front_eq (by omega) (by omega) hx hl).mpr ?_, hx⟩
  rw [t.last]
  exact t.eq
/-! ### behind -/
theorem behind_eq {b f x m : Nat} (hb : 2 ≤ b) (hfb : f < b) (hx : 0 < x) (hl : (figs b x).length = m) : mv b x false = f * x ↔ x % b ^ (m - 1) * (b - f) + x / b ^ (m - 1) = x / b ^ (m - 1) * (f * b ^ (m - 1)) := by
  rw [mv_behind hb hx hl]
  have dm := Nat.div_add_mod x (b ^ (m - 1))
  generalize hg : b ^ (m - 1) = g at *
  generalize hq : x / g = d at *
  generalize hr : x % g = r at *
  have e1 : f * x = d * (f * g) + f * r := by
    rw [← dm, Nat.mul_add, Nat.mul_comm g d, Nat.mul_left_comm]
  have e2 : r * (b - f) = r * b - f * r := by rw [Nat.mul_sub, Nat.mul_comm r f]
  have e3 : f * r ≤ r * b := by
    rw [Nat.mul_comm]
    exact Nat.mul_le_mul_left r (by omega)
  rw [e1, e2]
  omega
def turnB (b f d m : Nat) : Nat := d * b ^ (m - 1) + d * (f * b ^ (m - 1) - 1) / (b - f)
structure TurnB (b f d m x : Nat) : Prop where
  lo : b ^ (m - 1) ≤ x
  hi : x < b ^ m
  first : x / b ^ (m - 1) = d
  rest : x % b ^ (m - 1) * (b - f) = d * (f * b ^ (m - 1) - 1)
theorem turnB_is {b f d m : Nat} (h : Bfd b f d) (c : (d + 1) * f ≤ b) (hm : 2 ≤ m) (dv : (b - f) ∣ d * (f * b ^ (m - 1) - 1)) : TurnB b f d m (turnB b f d m) := by
  obtain ⟨b3, b36, f2, fb, d1, db⟩ := id h
  have sh := (short_iff h hm).mpr c
  have eq : d * (f * b ^ (m - 1) - 1) / (b - f) * (b - f) = d * (f * b ^ (m - 1) - 1) := Nat.div_mul_cancel dv
  unfold turnB
  obtain ⟨j, rfl⟩ : ∃ j, m = j + 1 := ⟨m - 1, by omega⟩
  rw [Nat.add_sub_cancel] at *
  have pj := pow_pos1 (show 1 ≤ b by omega) j
  have ps : b ^ (j + 1) = b ^ j * b := Nat.pow_succ ..
  generalize d * (f * b ^ j - 1) / (b - f) = r at *
  have q1 : (d * b ^ j + r) / b ^ j = d := by
    rw [Nat.mul_comm, Nat.mul_add_div (by omega), Nat.div_eq_of_lt sh, Nat.add_zero]
  have q2 : (d * b ^ j + r) % b ^ j = r := by
    rw [Nat.mul_comm, Nat.mul_add_mod, Nat.mod_eq_of_lt sh]
  refine ⟨?_, ?_, ?_, ?_⟩
  · rw [Nat.add_sub_cancel]
    have : 1 * b ^ j ≤ d * b ^ j := Nat.mul_le_mul_right _ d1
    omega
  · have c1 : (d + 1) * b ^ j ≤ b * b ^ j := Nat.mul_le_mul_right _ db
    rw [Nat.add_mul, Nat.one_mul] at c1
    rw [ps, Nat.mul_comm (b ^ j) b]
    omega
  · rw [Nat.add_sub_cancel]
    exact q1
  · rw [Nat.add_sub_cancel, q2]
    exact eq
theorem TurnB.turns {b f d m x : Nat} (h : Bfd b f d) (hm : 1 ≤ m) (t : TurnB b f d m x) : (figs b x).length = m ∧ mv b x false = f * x ∧ 0 < x := by
  obtain ⟨b3, b36, f2, fb, d1, db⟩ := id h
  have hl := figs_len (show 2 ≤ b by omega) (by omega) t.lo t.hi
  have hx : 0 < x := Nat.lt_of_lt_of_le (pow_pos1 (show 1 ≤ b by omega) (m - 1)) t.lo
  refine ⟨hl, (behind_eq (by omega) fb hx hl).mpr ?_, hx⟩
  rw [t.first, t.rest]
  have pp := pow_pos1 (show 1 ≤ b by omega) (m - 1)
  have fp : 1 ≤ f * b ^ (m - 1) := Nat.mul_pos (by omega) pp
  have e : d * (f * b ^ (m - 1) - 1) = d * (f * b ^ (m - 1)) - d := by rw [Nat.mul_sub, Nat.mul_one]
  have : d ≤ d * (f * b ^ (m - 1)) := Nat.le_mul_of_pos_right d fp
  omega
/-! ### both sides -/
def turn1 (b f : Nat) (fr : Bool) (d m : Nat) : Nat := if fr then turnF b f d m else turnB b f d m
/-- what the number of m figures with the moved figure d is known by -/
structure Turned (b f : Nat) (fr : Bool) (d m x : Nat) : Prop where
  lo : b ^ (m - 1) ≤ x
  hi : x < b ^ m
  len : (figs b x).length = m
  mvd : mv b x fr = f * x
  pos : 0 < x
  two : 2 ≤ m
  fig : if fr then x % b = d else x / b ^ (m - 1) = d
theorem turned_is {b f d k m : Nat} {fr : Bool} (h : Bfd b f d) (hm : 1 ≤ m) (e : lenOf b f fr d = some k) (dv : k ∣ m) : Turned b f fr d m (turn1 b f fr d m) := by
  cases fr with
  | true =>
    have hd : f ≤ d := by
      rcases Nat.lt_or_ge d f with z | z
      · rw [len_front_none (by omega)] at e
        cases e
      · exact z
    obtain ⟨k', hk, o⟩ := len_front h hd
    rw [hk] at e
    have ek := Option.some.inj e
    subst ek
    have t := turnF_is h hd hm ((front_dvd h o).mpr dv)
    obtain ⟨a1, a2, a3⟩ := t.turns h
    exact ⟨t.lo, t.hi, a1, a2, a3, t.two, t.last⟩
  | false =>
    obtain ⟨c, o⟩ := len_behind h e
    have k2 := ord_two h c o
    have m2 : 2 ≤ m := Nat.le_trans k2 (Nat.le_of_dvd hm dv)
    have t := turnB_is h c m2 ((whole_iff h hm).mpr ((o.dvd m).mpr dv))
    obtain ⟨a1, a2, a3⟩ := t.turns h hm
    exact ⟨t.lo, t.hi, a1, a2, a3, m2, t.first⟩
theorem len_two {b f d k : Nat} {fr : Bool} (h : Bfd b f d) (e : lenOf b f fr d = some k) : 2 ≤ k ∧ k ≤ 1296 := by
  have hk : 1 ≤ k ∧ k ≤ 1296 := by
    cases fr with
    | true =>
      have hd : f ≤ d := by
        rcases Nat.lt_or_ge d f with z | z
        · rw [len_front_none (by omega)] at e
          cases e
        · exact z
      obtain ⟨k', hk, o⟩ := len_front h hd
      rw [hk] at e
      have ek := Option.some.inj e
      subst ek
      exact ⟨o.pos, Nat.le_trans o.le (Nat.le_trans (cut_le _ _) h.nle)⟩
    | false =>
      obtain ⟨c, o⟩ := len_behind h e
      have := h.b36
      exact ⟨o.pos, Nat.le_trans o.le (Nat.le_trans (cut_le _ _) (by omega))⟩
  exact ⟨(turned_is h hk.1 e (Nat.dvd_refl k)).two, hk.2⟩
/-- the other way: a number that turns is one of these -/
theorem turned_of {b f x : Nat} {fr : Bool} (b3 : 3 ≤ b) (b36 : b ≤ 36) (f2 : 2 ≤ f) (fb : f < b) (hx : 0 < x) (e : mv b x fr = f * x) :
    ∃ d k, Bfd b f d ∧ lenOf b f fr d = some k ∧ k ∣ (figs b x).length ∧ x = turn1 b f fr d (figs b x).length := by
  have hl := len_figs (show 2 ≤ b by omega) hx
  have hp := figs_len_pos (show 2 ≤ b by omega) hx
  obtain ⟨m, hm⟩ : ∃ m, (figs b x).length = m := ⟨_, rfl⟩
  rw [hm] at hl hp ⊢
  cases fr with
  | true =>
    have q := (front_eq (by omega) (by omega) hx hm).mp e
    have n5 : 2 * b ≤ f * b := Nat.mul_le_mul_right b f2
    have db := Nat.mod_lt x (show 0 < b by omega)
    have d1 : 1 ≤ x % b := by
      rcases Nat.eq_zero_or_pos (x % b) with z | z
      · rw [z, Nat.zero_mul] at q
        have : 0 < x * (f * b - 1) := Nat.mul_pos hx (by omega)
        omega
      · exact z
    have B : Bfd b f (x % b) := ⟨b3, b36, f2, fb, d1, db⟩
    have hd : f ≤ x % b := by
      rcases Nat.lt_or_ge (x % b) f with z | z
      · exfalso
        obtain ⟨j, rfl⟩ : ∃ j, m = j + 1 := ⟨m - 1, by omega⟩
        rw [Nat.add_sub_cancel] at hl
        have c1 : b ^ j * (f * b - 1) ≤ x * (f * b - 1) := Nat.mul_le_mul_right _ hl.1
        have c2 : x % b * (b ^ (j + 1) - 1) ≤ (f - 1) * (b ^ (j + 1) - 1) := Nat.mul_le_mul_right _ (by omega)
        have ps : b ^ (j + 1) = b ^ j * b := Nat.pow_succ ..
        have pj := pow_pos1 (show 1 ≤ b by omega) j
        have e1 : b ^ j * (f * b - 1) = f * (b ^ j * b) - b ^ j := by
          rw [Nat.mul_sub, Nat.mul_one, Nat.mul_left_comm]
        have e2 : (f - 1) * (b ^ j * b - 1) = f * (b ^ j * b) - b ^ j * b - (f - 1) := by
          rw [Nat.mul_sub, Nat.mul_one, Nat.sub_mul, Nat.one_mul]
        have e3 : b ^ j * b ≤ f * (b ^ j * b) := Nat.le_mul_of_pos_left _ (by omega)
        have e4 : b ^ j * 3 ≤ b ^ j * b := Nat.mul_le_mul_left _ b3
        rw [ps] at c2 q
        rw [e2] at c2
        rw [e1] at c1
        omega
      · exact z
    obtain ⟨k, hk, o⟩ := len_front B hd
    have dv : (f * b - 1) ∣ x % b * (b ^ m - 1) := ⟨x, by rw [← q, Nat.mul_comm]⟩
    refine ⟨x % b, k, B, hk, (front_dvd B o).mp dv, ?_⟩
    show x = x % b * (b ^ m - 1) / (f * b - 1)
    rw [← q, Nat.mul_div_cancel _ (by omega)]
  | false =>
    have q := (behind_eq (by omega) fb hx hm).mp e
    have dm := Nat.div_add_mod x (b ^ (m - 1))
    have pp := pow_pos1 (show 1 ≤ b by omega) (m - 1)
    have fp : 1 ≤ f * b ^ (m - 1) := Nat.mul_pos (by omega) pp
    have ps : b ^ m = b ^ (m - 1) * b := by
      obtain ⟨j, rfl⟩ : ∃ j, m = j + 1 := ⟨m - 1, by omega⟩
      rw [Nat.add_sub_cancel, Nat.pow_succ]
    have d1 : 1 ≤ x / b ^ (m - 1) := (Nat.le_div_iff_mul_le (by omega)).mpr (by omega)
    have db : x / b ^ (m - 1) < b := by
      rw [Nat.div_lt_iff_lt_mul (by omega), Nat.mul_comm, ← ps]
      exact hl.2
    have rl := Nat.mod_lt x (show 0 < b ^ (m - 1) by omega)
    have B : Bfd b f (x / b ^ (m - 1)) := ⟨b3, b36, f2, fb, d1, db⟩
    have q2 : x % b ^ (m - 1) * (b - f) = x / b ^ (m - 1) * (f * b ^ (m - 1) - 1) := by
      have e9 : x / b ^ (m - 1) * (f * b ^ (m - 1) - 1) = x / b ^ (m - 1) * (f * b ^ (m - 1)) - x / b ^ (m - 1) := by rw [Nat.mul_sub, Nat.mul_one]
      omega
    have m2 : 2 ≤ m := by
      rcases Nat.lt_or_ge m 2 with z | z
      · have z1 : m - 1 = 0 := by omega
        rw [z1, Nat.pow_zero] at q2 rl
        have z2 : x % 1 = 0 := Nat.mod_one x
        rw [z2, Nat.zero_mul, Nat.mul_one] at q2
        have : 0 < x / 1 * (f - 1) := Nat.mul_pos (by rw [Nat.div_one]; exact hx) (by omega)
        omega
      · exact z
    have dv : (b - f) ∣ x / b ^ (m - 1) * (f * b ^ (m - 1) - 1) := ⟨x % b ^ (m - 1), by rw [← q2, Nat.mul_comm]⟩
    have dq : x / b ^ (m - 1) * (f * b ^ (m - 1) - 1) / (b - f) = x % b ^ (m - 1) := by
      rw [← q2, Nat.mul_div_cancel _ (by omega)]
    have c : (x / b ^ (m - 1) + 1) * f ≤ b := (short_iff B m2).mp (by rw [dq]; exact rl)
    have wm := (whole_iff B hp).mp dv
    cases ek : lenOf b f false (x / b ^ (m - 1)) with
    | none => exact absurd ⟨c, wm⟩ (len_behind_none B ek m hp)
    | some k =>
      obtain ⟨_, o⟩ := len_behind B ek
      refine ⟨x / b ^ (m - 1), k, B, ek, (o.dvd m).mp wm, ?_⟩
      show x = x / b ^ (m - 1) * b ^ (m - 1) + x / b ^ (m - 1) * (f * b ^ (m - 1) - 1) / (b - f)
      rw [dq, Nat.mul_comm]
      exact dm.symm
/-- rising with the moved figure -/
theorem turned_mono {b f d d' m x x' : Nat} {fr : Bool} (h : Bfd b f d) (h' : Bfd b f d') (t : Turned b f fr d m x) (t' : Turned b f fr d' m x') (hd : d < d') : x < x' := by
  obtain ⟨b3, b36, f2, fb, d1, db⟩ := id h
  cases fr with
  | true =>
    have q := (front_eq (by omega) (by omega) t.pos t.len).mp t.mvd
    have q' := (front_eq (by omega) (by omega) t'.pos t'.len).mp t'.mvd
    have f1 : x % b = d := t.fig
    have f2' : x' % b = d' := t'.fig
    rw [f1] at q
    rw [f2'] at q'
    have two := t.two
    have bm : 2 ≤ b ^ m := by
      have : b ^ 1 ≤ b ^ m := Nat.pow_le_pow_right (by omega) (by omega)
      rw [Nat.pow_one] at this
      omega
    have : d * (b ^ m - 1) < d' * (b ^ m - 1) := Nat.mul_lt_mul_of_pos_right hd (by omega)
    rw [← q, ← q'] at this
    exact Nat.lt_of_mul_lt_mul_right this
  | false =>
    have f1 : x / b ^ (m - 1) = d := t.fig
    have f2' : x' / b ^ (m - 1) = d' := t'.fig
    rcases Nat.lt_or_ge x x' with z | z
    · exact z
    · have := Nat.div_le_div_right (c := b ^ (m - 1)) z
      omega
/-! ### all of so many figures -/
def okL : Option Nat → Nat → Bool
  | none, _ => false
  | some l, m => m % l == 0
def allOf (b f : Nat) (fr : Bool) (m : Nat) : List Nat := ((List.range (b - 1)).filter fun i => okL (lenOf b f fr (1 + i)) m).map fun i => turn1 b f fr (1 + i) m
theorem okL_iff {o : Option Nat} {m : Nat} : okL o m = true ↔ ∃ l, o = some l ∧ l ∣ m := by
  cases o with
  | none => exact ⟨fun h => (nomatch h), fun ⟨l, h, _⟩ => nomatch h⟩
  | some l =>
    show (m % l == 0) = true ↔ _
    rw [beq_iff_eq]
    exact ⟨fun h => ⟨l, rfl, Nat.dvd_of_mod_eq_zero h⟩, fun ⟨l', h, dv⟩ => by
      cases h
      exact Nat.mod_eq_zero_of_dvd dv⟩
theorem mem_allOf {b f m x : Nat} {fr : Bool} (b3 : 3 ≤ b) (b36 : b ≤ 36) (f2 : 2 ≤ f) (fb : f < b) (hm : 1 ≤ m) : x ∈ allOf b f fr m ↔ 0 < x ∧ (figs b x).length = m ∧ mv b x fr = f * x := by
  unfold allOf
  rw [List.mem_map]
  constructor
  · rintro ⟨i, hi, rfl⟩
    rw [List.mem_filter, List.mem_range] at hi
    obtain ⟨l, hl, dv⟩ := okL_iff.mp hi.2
    have t := turned_is (d := 1 + i) ⟨b3, b36, f2, fb, by omega, by omega⟩ hm hl dv
    exact ⟨t.pos, t.len, t.mvd⟩
  · rintro ⟨h1, h2, h3⟩
    obtain ⟨d, k, B, hk, dv, e⟩ := turned_of b3 b36 f2 fb h1 h3
    have d1 := B.d1
    have db := B.db
    refine ⟨d - 1, ?_, ?_⟩
    · rw [List.mem_filter, List.mem_range]
      refine ⟨by omega, ?_⟩
      rw [show 1 + (d - 1) = d by omega]
      exact okL_iff.mpr ⟨k, hk, by rw [← h2]; exact dv⟩
    · rw [show 1 + (d - 1) = d by omega, ← h2]
      exact e.symm
/-- strictly rising rows with the same members are the same -/
theorem sorted_eq : ∀ {xs ys : List Nat}, xs.Pairwise (· < ·) → ys.Pairwise (· < ·) → (∀ x, x ∈ xs ↔ x ∈ ys) → xs = ys
  | [], [], _, _, _ => rfl
  | [], y :: ys, _, _, h => absurd ((h y).mpr List.mem_cons_self) (by simp)
  | x :: xs, [], _, _, h => absurd ((h x).mp List.mem_cons_self) (by simp)
  | x :: xs, y :: ys, p, q, h => by
    rw [List.pairwise_cons] at p q
    have exy : x = y := by
      have h1 := (h x).mp List.mem_cons_self
      have h2 := (h y).mpr List.mem_cons_self
      rcases List.mem_cons.mp h1 with e | e
      · exact e
      · rcases List.mem_cons.mp h2 with e' | e'
        · exact e'.symm
        · have a1 := q.1 x e
          have a2 := p.1 y e'
          omega
    subst exy
    congr 1
    refine sorted_eq p.2 q.2 fun z => ?_
    constructor
    · intro hz
      rcases List.mem_cons.mp ((h z).mp (List.mem_cons_of_mem _ hz)) with e | e
      · have := p.1 z hz
        omega
      · exact e
    · intro hz
      rcases List.mem_cons.mp ((h z).mpr (List.mem_cons_of_mem _ hz)) with e | e
      · have := q.1 z hz
        omega
      · exact e
theorem pairwise_range (n : Nat) : (List.range n).Pairwise (· < ·) := List.pairwise_lt_range
theorem allOf_rising {b f m : Nat} {fr : Bool} (b3 : 3 ≤ b) (b36 : b ≤ 36) (f2 : 2 ≤ f) (fb : f < b) (hm : 1 ≤ m) : (allOf b f fr m).Pairwise (· < ·) := by
  unfold allOf
  rw [List.pairwise_map]
  refine List.Pairwise.imp_of_mem (R := (· < ·)) ?_ (List.Pairwise.filter _ (pairwise_range _))
  intro i j hi hj hij
  rw [List.mem_filter, List.mem_range] at hi hj
  obtain ⟨l, hl, dv⟩ := okL_iff.mp hi.2
  obtain ⟨l', hl', dv'⟩ := okL_iff.mp hj.2
  have Bi : Bfd b f (1 + i) := ⟨b3, b36, f2, fb, by omega, by omega⟩
  have Bj : Bfd b f (1 + j) := ⟨b3, b36, f2, fb, by omega, by omega⟩
  exact turned_mono Bi Bj (turned_is Bi hm hl dv) (turned_is Bj hm hl' dv') (by omega)
end Tf

/-! # shares, plain -/
namespace Tf
theorem figs_of_len {b : Nat} (hb : 2 ≤ b) {ds : List Nat} (h1 : ∀ d ∈ ds, d < b) (h2 : (figs b (wr b ds)).length = ds.length) : figs b (wr b ds) = ds := by
  refine figs_wr hb _ ds rfl h1 fun d hd => ?_
  rcases Nat.eq_zero_or_pos d with z | z
  · exfalso
    cases ds with
    | nil => cases hd
    | cons x r =>
      have e : x = 0 := (Option.some.inj hd).trans z
      have w : wr b (x :: r) = wr b r := by
        rw [wr_cons, e, Nat.zero_mul, Nat.zero_add]
      have l := wr_lt hb r fun y hy => h1 y (List.mem_cons_of_mem _ hy)
      have := figs_len_le hb _ _ l
      rw [w, List.length_cons] at h2
      omega
  · exact z
/-- the figures behind the point -/
def shRow (b t n k : Nat) : List Nat := (List.range k).map fun i => t * b ^ i % n * b / n
theorem shRow_succ (b t n k : Nat) : shRow b t n (k + 1) = shRow b t n k ++ [t * b ^ k % n * b / n] := by
  unfold shRow
  rw [List.range_succ, List.map_append]
  rfl
theorem sh_rest (b t n k : Nat) : t * b ^ (k + 1) % n = t * b ^ k % n * b % n := by
  rw [Nat.pow_succ, ← Nat.mul_assoc]
  exact mod_mul (Nat.mod_mod _ _).symm rfl
theorem shRow_wr {b t n : Nat} (hn : 1 ≤ n) (ht : t < n) : ∀ k, wr b (shRow b t n k) = t * b ^ k / n
  | 0 => by
    rw [Nat.pow_zero, Nat.mul_one, Nat.div_eq_of_lt ht]
    rfl
  | k + 1 => by
    rw [shRow_succ, wr_snoc, shRow_wr hn ht k]
    have dm := Nat.div_add_mod (t * b ^ k) n
    have e : t * b ^ (k + 1) = n * (t * b ^ k / n * b) + t * b ^ k % n * b := by
      rw [Nat.pow_succ, ← Nat.mul_assoc, ← Nat.mul_assoc, ← Nat.add_mul, dm]
    rw [e, Nat.mul_add_div (by omega)]
theorem shRow_lt {b t n : Nat} (hb : 1 ≤ b) (hn : 1 ≤ n) (k : Nat) : ∀ d ∈ shRow b t n k, d < b := by
  intro d hd
  obtain ⟨i, _, rfl⟩ := List.mem_map.mp hd
  rw [Nat.div_lt_iff_lt_mul (by omega), Nat.mul_comm b n]
  exact Nat.mul_lt_mul_of_pos_right (Nat.mod_lt (t * b ^ i) hn) hb
theorem shRow_len (b t n k : Nat) : (shRow b t n k).length = k := by
  unfold shRow
  rw [List.length_map, List.length_range]
theorem shRow_twice {b t n k : Nat} (h : t * b ^ k % n = t % n) : shRow b t n (k + k) = shRow b t n k ++ shRow b t n k := by
  unfold shRow
  rw [List.range_add, List.map_append, List.map_map]
  congr 1
  refine List.map_congr_left fun i _ => ?_
  show t * b ^ (k + i) % n * b / n = _
  have e : t * b ^ (k + i) % n = t * b ^ i % n := by
    rw [Nat.pow_add, ← Nat.mul_assoc]
    exact mod_mul h rfl
  rw [e]
/-- top and bottom of a share -/
def top (b f d : Nat) : Nat := d / Nat.gcd (f * b - 1) d
structure Shr (b f d k : Nat) : Prop where
  lt : top b f d < cut (f * b - 1) d
  tp : 1 ≤ top b f d
  eq : top b f d * (f * b - 1) = d * cut (f * b - 1) d
  co : Nat.gcd (cut (f * b - 1) d) (top b f d) = 1
  back : top b f d * b ^ k % cut (f * b - 1) d = top b f d
  num : top b f d * b ^ k / cut (f * b - 1) d = turnF b f d k
theorem shr_core {N b d t n g k : Nat} (e1 : n * g = N) (e2 : t * g = d) (hd : 1 ≤ d) (hdN : d < N) (hn : 1 ≤ n) (pp : 1 ≤ b ^ k) (one : n ∣ b ^ k - 1) :
    t < n ∧ 1 ≤ t ∧ t * N = d * n ∧ t * b ^ k % n = t ∧ t * b ^ k / n = d * (b ^ k - 1) / N := by
  have lt : t < n := by
    rcases Nat.lt_or_ge t n with z | z
    · exact z
    · have := Nat.mul_le_mul_right g z
      omega
  obtain ⟨c, hc⟩ := one
  have ee : t * b ^ k = t + n * (t * c) := by
    have : b ^ k = 1 + n * c := by omega
    rw [this, Nat.mul_add, Nat.mul_one, Nat.mul_left_comm]
  refine ⟨lt, ?_, ?_, ?_, ?_⟩
  · rcases Nat.eq_zero_or_pos t with z | z
    · rw [z, Nat.zero_mul] at e2
      omega
    · exact z
  · rw [← e1, ← e2, Nat.mul_comm n g, ← Nat.mul_assoc]
  · rw [ee, Nat.add_mul_mod_self_left, Nat.mod_eq_of_lt lt]
  · rw [ee, Nat.add_mul_div_left _ _ (by omega), Nat.div_eq_of_lt lt, Nat.zero_add]
    have : d * (b ^ k - 1) = N * (t * c) := by
      rw [hc, ← e1, ← e2]
      rw [Nat.mul_comm n g, Nat.mul_assoc g n, Nat.mul_left_comm n t c, ← Nat.mul_assoc g t, Nat.mul_comm g t]
    rw [this, Nat.mul_div_cancel_left _ (by omega)]
theorem shr_is {b f d k : Nat} (h : Bfd b f d) (o : IsOrd b (cut (f * b - 1) d) k) : Shr b f d k := by
  have n5 := h.n5
  obtain ⟨b3, b36, f2, fb, d1, db⟩ := id h
  have hg : 0 < Nat.gcd (f * b - 1) d := Nat.gcd_pos_of_pos_left _ (by omega)
  have e1 : cut (f * b - 1) d * Nat.gcd (f * b - 1) d = f * b - 1 := Nat.div_mul_cancel (Nat.gcd_dvd_left _ d)
  have e2 : top b f d * Nat.gcd (f * b - 1) d = d := Nat.div_mul_cancel (Nat.gcd_dvd_right _ d)
  have co : Nat.gcd (cut (f * b - 1) d) (top b f d) = 1 := Nat.coprime_div_gcd_div_gcd hg
  have cp := cut_pos (n := f * b - 1) (d := d) (by omega)
  have one := o.one
  rw [mod_one_iff (pow_pos1 (by omega) _)] at one
  obtain ⟨a1, a2, a3, a4, a5⟩ := shr_core e1 e2 d1 (by omega) cp (pow_pos1 (show 1 ≤ b by omega) k) one
  exact ⟨a1, a2, a3, co, a4, a5⟩
theorem share_row {b f d k : Nat} (h : Bfd b f d) (hd : f ≤ d) (o : IsOrd b (cut (f * b - 1) d) k) :
    shRow b (top b f d) (cut (f * b - 1) d) (2 * k) = figs b (turnF b f d k) ++ figs b (turnF b f d k) := by
  have n5 := h.n5
  have b3 := h.b3
  have s := shr_is h o
  have cp := cut_pos (n := f * b - 1) (d := d) (by omega)
  have t := turnF_is h hd o.pos ((front_dvd h o).mpr (Nat.dvd_refl k))
  have l := (t.turns h).1
  have w := shRow_wr (b := b) cp s.lt k
  rw [s.num] at w
  have e : figs b (wr b (shRow b (top b f d) (cut (f * b - 1) d) k)) = shRow b (top b f d) (cut (f * b - 1) d) k := figs_of_len (by omega) (shRow_lt (by omega) cp k) (by rw [w, shRow_len, l])
  rw [w] at e
  rw [Nat.two_mul, shRow_twice (by rw [s.back, Nat.mod_eq_of_lt s.lt]), e]
/-- just one number of all has the last figure -/
theorem one_of_all {b f d k : Nat} (h : Bfd b f d) (hd : f ≤ d) (o : IsOrd b (cut (f * b - 1) d) k) : (allOf b f true k).filter (fun x => x % b == d) = [turnF b f d k] := by
  obtain ⟨b3, b36, f2, fb, d1, db⟩ := id h
  have n5 := h.n5
  have t := turnF_is h hd o.pos ((front_dvd h o).mpr (Nat.dvd_refl k))
  obtain ⟨l, m, p⟩ := t.turns h
  refine sorted_eq (List.Pairwise.filter _ (allOf_rising b3 b36 f2 fb o.pos)) (List.pairwise_singleton _ _) fun x => ?_
  rw [List.mem_filter, mem_allOf b3 b36 f2 fb o.pos, List.mem_singleton, beq_iff_eq]
  constructor
  · rintro ⟨⟨h1, h2, h3⟩, h4⟩
    have q := (front_eq (by omega) (by omega) h1 h2).mp h3
    rw [h4, ← t.eq] at q
    exact Nat.eq_of_mul_eq_mul_right (by omega) q
  · rintro rfl
    exact ⟨⟨p, l, m⟩, t.last⟩
end Tf

/-! # all of so many figures, tried one by one -/
namespace Tf
/-- whether a number turns -/
def trn (b f : Nat) (fr : Bool) (n : Nat) : Bool := decide (0 < n) && decide (mv b n fr = f * n)
theorem due_all {b f m : Nat} {fr : Bool} (b3 : 3 ≤ b) (b36 : b ≤ 36) (f2 : 2 ≤ f) (fb : f < b) (hm : 1 ≤ m) :
    ((List.range (b ^ (m - 1) * b - b ^ (m - 1))).filter fun i => decide (0 < b ^ (m - 1) + i) && decide (mv b (b ^ (m - 1) + i) fr = f * (b ^ (m - 1) + i))).map (fun i => b ^ (m - 1) + i) = allOf b f fr m := by
  have ps : b ^ m = b ^ (m - 1) * b := by
    obtain ⟨j, rfl⟩ : ∃ j, m = j + 1 := ⟨m - 1, by omega⟩
    rw [Nat.add_sub_cancel, Nat.pow_succ]
  have pp := pow_pos1 (show 1 ≤ b by omega) (m - 1)
  have ple : b ^ (m - 1) ≤ b ^ (m - 1) * b := Nat.le_mul_of_pos_right _ (by omega)
  refine sorted_eq ?_ (allOf_rising b3 b36 f2 fb hm) fun x => ?_
  · rw [List.pairwise_map]
    exact List.Pairwise.imp (fun h => by omega) (List.Pairwise.filter _ (pairwise_range _))
  · rw [mem_allOf b3 b36 f2 fb hm, List.mem_map]
    constructor
    · rintro ⟨i, hi, rfl⟩
      rw [List.mem_filter, List.mem_range, Bool.and_eq_true, decide_eq_true_eq, decide_eq_true_eq] at hi
      exact ⟨hi.2.1, figs_len (by omega) hm (by omega) (by omega), hi.2.2⟩
    · rintro ⟨h1, h2, h3⟩
      have hl := len_figs (show 2 ≤ b by omega) h1
      rw [h2] at hl
      have e : b ^ (m - 1) + (x - b ^ (m - 1)) = x := by omega
      refine ⟨x - b ^ (m - 1), ?_, e⟩
      rw [List.mem_filter, List.mem_range, e, Bool.and_eq_true, decide_eq_true_eq, decide_eq_true_eq]
      exact ⟨by omega, h1, h3⟩
theorem allOf_len (b f : Nat) (fr : Bool) (m : Nat) : (allOf b f fr m).length = ((List.range (b - 1)).filter fun i => okL (lenOf b f fr (1 + i)) m).length := List.length_map _
theorem allOf_lt {b f m x : Nat} {fr : Bool} (b3 : 3 ≤ b) (b36 : b ≤ 36) (f2 : 2 ≤ f) (fb : f < b) (hm : 1 ≤ m) (h : x ∈ allOf b f fr m) : b ^ (m - 1) ≤ x ∧ x < b ^ (m - 1) * b := by
  obtain ⟨h1, h2, h3⟩ := (mem_allOf b3 b36 f2 fb hm).mp h
  have hl := len_figs (show 2 ≤ b by omega) h1
  rw [h2] at hl
  refine ⟨hl.1, ?_⟩
  obtain ⟨j, rfl⟩ : ∃ j, m = j + 1 := ⟨m - 1, by omega⟩
  have := hl.2
  rw [Nat.pow_succ] at this
  exact this
theorem rise_cast {ns : List Nat} (h : ns.Pairwise (· < ·)) : (ns.map fun n : Nat => (n : Int)).Pairwise (· < ·) := by
  rw [List.pairwise_map]
  exact List.Pairwise.imp (fun h => by omega) h
/-- rising rows with the same members -/
theorem rise_eq : ∀ {xs ys : List Int}, xs.Pairwise (· < ·) → ys.Pairwise (· < ·) → (∀ x, x ∈ xs ↔ x ∈ ys) → xs = ys
  | [], [], _, _, _ => rfl
  | [], y :: ys, _, _, h => absurd ((h y).mpr List.mem_cons_self) (by simp)
  | x :: xs, [], _, _, h => absurd ((h x).mp List.mem_cons_self) (by simp)
  | x :: xs, y :: ys, p, q, h => by
    rw [List.pairwise_cons] at p q
    have exy : x = y := by
      have h1 := (h x).mp List.mem_cons_self
      have h2 := (h y).mpr List.mem_cons_self
      rcases List.mem_cons.mp h1 with e | e
      · exact e
      · rcases List.mem_cons.mp h2 with e' | e'
        · exact e'.symm
        · have a1 := q.1 x e
          have a2 := p.1 y e'
          omega
    subst exy
    congr 1
    refine rise_eq p.2 q.2 fun z => ⟨fun hz => ?_, fun hz => ?_⟩
    · rcases List.mem_cons.mp ((h z).mp (List.mem_cons_of_mem _ hz)) with e | e
      · have := p.1 z hz
        omega
      · exact e
    · rcases List.mem_cons.mp ((h z).mpr (List.mem_cons_of_mem _ hz)) with e | e
      · have := q.1 z hz
        omega
      · exact e
end Tf

/-! # the least number that turns -/
namespace Tf
/-- there is none -/
def nev (b f : Nat) (fr : Bool) : Bool := !((List.range (b - 1)).any fun i => (lenOf b f fr (1 + i)).isSome)
def leastM (b f : Nat) (fr : Bool) : Nat := seek (fun m => (List.range (b - 1)).any fun i => lenOf b f fr (1 + i) == some m) 1300 1
def leastD (b f : Nat) (fr : Bool) : Nat := seek (fun d => lenOf b f fr d == some (leastM b f fr)) 40 1
def leastOf (b f : Nat) (fr : Bool) : Option Nat := if nev b f fr then none else some (turn1 b f fr (leastD b f fr) (leastM b f fr))
/-- what the least number is known by -/
structure Least (b f : Nat) (fr : Bool) (x m d : Nat) : Prop where
  d1 : 1 ≤ d
  db : d < b
  len : lenOf b f fr d = some m
  min : ∀ d' l, 1 ≤ d' → d' < b → lenOf b f fr d' = some l → m ≤ l
  first : ∀ d', 1 ≤ d' → d' < d → lenOf b f fr d' ≠ some m
  eq : x = turn1 b f fr d m
theorem nev_iff {b f : Nat} {fr : Bool} : nev b f fr = true ↔ ∀ d, 1 ≤ d → d < b → lenOf b f fr d = none := by
  unfold nev
  rw [Bool.not_eq_true', List.any_eq_false]
  constructor
  · intro h d d1 db
    have := h (d - 1) (List.mem_range.mpr (by omega))
    rw [show 1 + (d - 1) = d by omega] at this
    cases q : lenOf b f fr d with
    | none => rfl
    | some l =>
      rw [q] at this
      exact absurd rfl this
  · intro h i hi
    have := h (1 + i) (by omega) (by have := List.mem_range.mp hi; omega)
    rw [this]
    simp
theorem least_is {b f : Nat} {fr : Bool} (b3 : 3 ≤ b) (b36 : b ≤ 36) (f2 : 2 ≤ f) (fb : f < b) (h : nev b f fr = false) : Least b f fr (turn1 b f fr (leastD b f fr) (leastM b f fr)) (leastM b f fr) (leastD b f fr) := by
  obtain ⟨d0, l0, h1, h2, h3⟩ : ∃ d l, 1 ≤ d ∧ d < b ∧ lenOf b f fr d = some l := by
    unfold nev at h
    rw [Bool.not_eq_false', List.any_eq_true] at h
    obtain ⟨i, hi, hs⟩ := h
    obtain ⟨l, hl⟩ := Option.isSome_iff_exists.mp hs
    exact ⟨1 + i, l, by omega, by have := List.mem_range.mp hi; omega, hl⟩
  have any_of : ∀ {d l}, 1 ≤ d → d < b → lenOf b f fr d = some l → ((List.range (b - 1)).any fun i => lenOf b f fr (1 + i) == some l) = true := fun {d l} a1 a2 a3 => by
    rw [List.any_eq_true]
    refine ⟨d - 1, List.mem_range.mpr (by omega), ?_⟩
    rw [show 1 + (d - 1) = d by omega, a3]
    exact beq_self_eq_true _
  have bnd : ∀ {d l}, 1 ≤ d → d < b → lenOf b f fr d = some l → 1 ≤ l ∧ l ≤ 1296 := fun {d l} a1 a2 a3 => by
    have := len_two (b := b) (f := f) (d := d) ⟨b3, b36, f2, fb, a1, a2⟩ a3
    exact ⟨by omega, this.2⟩
  have s := seek_spec (p := fun m => (List.range (b - 1)).any fun i => lenOf b f fr (1 + i) == some m) 1300 1 l0 (bnd h1 h2 h3).1 (by have := (bnd h1 h2 h3).2; omega) (any_of h1 h2 h3)
  have em : leastM b f fr = seek (fun m => (List.range (b - 1)).any fun i => lenOf b f fr (1 + i) == some m) 1300 1 := rfl
  rw [← em] at s
  obtain ⟨s1, s2, s3, s4⟩ := s
  rw [List.any_eq_true] at s1
  obtain ⟨i, hi, he⟩ := s1
  have hi' := List.mem_range.mp hi
  have t := seek_spec (p := fun d => lenOf b f fr d == some (leastM b f fr)) 40 1 (1 + i) (by omega) (by omega) he
  have ed : leastD b f fr = seek (fun d => lenOf b f fr d == some (leastM b f fr)) 40 1 := rfl
  rw [← ed] at t
  obtain ⟨t1, t2, t3, t4⟩ := t
  refine ⟨t2, by omega, eq_of_beq t1, fun d' l a1 a2 a3 => ?_, fun d' a1 a2 a3 => ?_, rfl⟩
  · rcases Nat.lt_or_ge l (leastM b f fr) with z | z
    · have q := s4 l (bnd a1 a2 a3).1 z
      have q2 := any_of a1 a2 a3
      rw [q2] at q
      cases q
    · exact z
  · have q := t4 d' a1 a2
    have q2 : (lenOf b f fr d' == some (leastM b f fr)) = true := by
      rw [a3]
      exact beq_self_eq_true _
    rw [q2] at q
    cases q
theorem Least.uniq {b f : Nat} {fr : Bool} {x m d x' m' d' : Nat} (a : Least b f fr x m d) (c : Least b f fr x' m' d') : x = x' ∧ m = m' ∧ d = d' := by
  have em : m = m' := Nat.le_antisymm (a.min d' m' c.d1 c.db c.len) (c.min d m a.d1 a.db a.len)
  subst em
  have ed : d = d' := by
    rcases Nat.lt_trichotomy d d' with z | z | z
    · exact absurd a.len (c.first d a.d1 z)
    · exact z
    · exact absurd c.len (a.first d' c.d1 z)
  subst ed
  exact ⟨a.eq.trans c.eq.symm, rfl, rfl⟩
theorem Least.is {b f : Nat} {fr : Bool} {x m d : Nat} (b3 : 3 ≤ b) (b36 : b ≤ 36) (f2 : 2 ≤ f) (fb : f < b) (a : Least b f fr x m d) : leastOf b f fr = some x := by
  have h : nev b f fr = false := by
    cases q : nev b f fr with
    | false => rfl
    | true =>
      have := nev_iff.mp q d a.d1 a.db
      rw [a.len] at this
      cases this
  unfold leastOf
  rw [if_neg (by rw [h]; decide), (a.uniq (least_is b3 b36 f2 fb h)).1]
theorem least_some {b f : Nat} {fr : Bool} {x : Nat} (b3 : 3 ≤ b) (b36 : b ≤ 36) (f2 : 2 ≤ f) (fb : f < b) (e : leastOf b f fr = some x) : nev b f fr = false ∧ ∃ m d, Least b f fr x m d := by
  unfold leastOf at e
  cases q : nev b f fr with
  | true =>
    rw [if_pos q] at e
    cases e
  | false =>
    rw [if_neg (by rw [q]; decide)] at e
    refine ⟨rfl, leastM b f fr, leastD b f fr, ?_⟩
    rw [← Option.some.inj e]
    exact least_is b3 b36 f2 fb q
theorem least_none {b f : Nat} {fr : Bool} (e : leastOf b f fr = none) : nev b f fr = true := by
  unfold leastOf at e
  cases q : nev b f fr with
  | true => rfl
  | false =>
    rw [if_neg (by rw [q]; decide)] at e
    cases e
theorem Least.turned {b f : Nat} {fr : Bool} {x m d : Nat} (b3 : 3 ≤ b) (b36 : b ≤ 36) (f2 : 2 ≤ f) (fb : f < b) (a : Least b f fr x m d) : Turned b f fr d m x ∧ 2 ≤ m ∧ m ≤ 1296 := by
  have B : Bfd b f d := ⟨b3, b36, f2, fb, a.d1, a.db⟩
  have l := len_two B a.len
  have t := turned_is B (by omega) a.len (Nat.dvd_refl m)
  rw [← a.eq] at t
  exact ⟨t, l.1, l.2⟩
/-- the least one is the first one of all with its figures -/
theorem Least.head {b f : Nat} {fr : Bool} {x m d : Nat} (b3 : 3 ≤ b) (b36 : b ≤ 36) (f2 : 2 ≤ f) (fb : f < b) (a : Least b f fr x m d) : (allOf b f fr m)[0]? = some x := by
  obtain ⟨t, m2, m3⟩ := a.turned b3 b36 f2 fb
  have m1 : 1 ≤ m := by omega
  have hx : x ∈ allOf b f fr m := (mem_allOf b3 b36 f2 fb m1).mpr ⟨t.pos, t.len, t.mvd⟩
  have ri := allOf_rising (fr := fr) b3 b36 f2 fb m1
  have all : ∀ y ∈ allOf b f fr m, x ≤ y := fun y hy => by
    unfold allOf at hy
    rw [List.mem_map] at hy
    obtain ⟨i, hi, rfl⟩ := hy
    rw [List.mem_filter, List.mem_range] at hi
    obtain ⟨l, hl, dv⟩ := okL_iff.mp hi.2
    have h1 := Nat.le_of_dvd m1 dv
    have h2 := a.min (1 + i) l (by omega) (by omega) hl
    have e : l = m := by omega
    subst e
    have B : Bfd b f d := ⟨b3, b36, f2, fb, a.d1, a.db⟩
    have B' : Bfd b f (1 + i) := ⟨b3, b36, f2, fb, by omega, by omega⟩
    rcases Nat.lt_trichotomy d (1 + i) with z | z | z
    · exact Nat.le_of_lt (turned_mono B B' t (turned_is B' m1 hl (Nat.dvd_refl l)) z)
    · rw [← z, ← a.eq]
      exact Nat.le_refl _
    · exact absurd hl (a.first (1 + i) (by omega) z)
  generalize allOf b f fr m = L at *
  cases L with
  | nil => cases hx
  | cons y r =>
    show some y = some x
    have h1 := all y List.mem_cons_self
    rcases List.mem_cons.mp hx with e | e
    · rw [e]
    · have := (List.pairwise_cons.mp ri).1 x e
      omega
/-- the lengths that are some -/
def someL (b f : Nat) (fr : Bool) : List Nat := (List.range (b - 1)).filterMap fun i => lenOf b f fr (1 + i)
theorem mem_someL {b f : Nat} {fr : Bool} {l : Nat} : l ∈ someL b f fr ↔ ∃ d, 1 ≤ d ∧ d < b ∧ lenOf b f fr d = some l := by
  unfold someL
  rw [List.mem_filterMap]
  constructor
  · rintro ⟨i, hi, h⟩
    exact ⟨1 + i, by omega, by have := List.mem_range.mp hi; omega, h⟩
  · rintro ⟨d, h1, h2, h3⟩
    exact ⟨d - 1, List.mem_range.mpr (by omega), by rw [show 1 + (d - 1) = d by omega]; exact h3⟩
theorem someL_nil {b f : Nat} {fr : Bool} : someL b f fr = [] ↔ nev b f fr = true := by
  rw [nev_iff]
  constructor
  · intro h d d1 db
    cases q : lenOf b f fr d with
    | none => rfl
    | some l =>
      have := mem_someL.mpr ⟨d, d1, db, q⟩
      rw [h] at this
      cases this
  · intro h
    cases q : someL b f fr with
    | nil => rfl
    | cons l r =>
      obtain ⟨d, h1, h2, h3⟩ := mem_someL.mp (show l ∈ someL b f fr by rw [q]; exact List.mem_cons_self)
      rw [h d h1 h2] at h3
      cases h3
theorem dec_nil (b f : Nat) (fr : Bool) : decide (someL b f fr = []) = nev b f fr := by
  cases q : nev b f fr with
  | true => exact decide_eq_true (someL_nil.mpr q)
  | false => exact decide_eq_false fun z => by rw [someL_nil.mp z] at q; cases q
theorem someL_len (b f : Nat) (fr : Bool) : (someL b f fr).length ≤ b - 1 := by
  unfold someL
  have := List.length_filterMap_le (fun i => lenOf b f fr (1 + i)) (List.range (b - 1))
  rw [List.length_range] at this
  exact this
end Tf

/-! # rows written over and over -/
namespace Tf
abbrev rep (k : Nat) (ds : List Nat) : List Nat := (List.replicate k ds).flatten
theorem rep_succ (k : Nat) (ds : List Nat) : rep (k + 1) ds = ds ++ rep k ds := by
  show (List.replicate (k + 1) ds).flatten = _
  rw [List.replicate_succ, List.flatten_cons]
theorem rep_turn (u v : List Nat) : ∀ k, u ++ rep k (v ++ u) ++ v = rep (k + 1) (u ++ v)
  | 0 => by
    show u ++ [] ++ v = (u ++ v) ++ []
    rw [List.append_nil, List.append_nil]
  | k + 1 => by
    rw [rep_succ k, rep_succ (k + 1), ← rep_turn u v k]
    simp only [List.append_assoc]
theorem rep_last (ds : List Nat) : ∀ k, rep (k + 1) ds = rep k ds ++ ds
  | 0 => by
    show ds ++ [] = [] ++ ds
    rw [List.append_nil, List.nil_append]
  | k + 1 => by
    rw [rep_succ (k + 1)]
    conv => lhs; rw [rep_last ds k]
    conv => rhs; rw [rep_succ k]
    rw [List.append_assoc]
theorem rep_len (ds : List Nat) : ∀ k, (rep k ds).length = k * ds.length
  | 0 => by
    rw [Nat.zero_mul]
    rfl
  | k + 1 => by
    rw [rep_succ, List.length_append, rep_len ds k, Nat.succ_mul]
    omega
theorem rep_mem {ds : List Nat} {d : Nat} : ∀ {k : Nat}, d ∈ rep k ds → d ∈ ds
  | 0, h => by cases h
  | k + 1, h => by
    rw [rep_succ] at h
    rcases List.mem_append.mp h with h | h
    · exact h
    · exact rep_mem h
theorem rot_rep (fr : Bool) (ds : List Nat) (hd : ds ≠ []) (k : Nat) : rot fr (rep (k + 1) ds) = rep (k + 1) (rot fr ds) := by
  cases fr with
  | true =>
    obtain ⟨i, l, rfl⟩ : ∃ i l, ds = i ++ [l] := ⟨ds.dropLast, ds.getLast hd, (List.dropLast_concat_getLast hd).symm⟩
    have one : ∀ (i : List Nat) (l : Nat), rot true (i ++ [l]) = l :: i := fun i l => by
      show (i ++ [l]).drop ((i ++ [l]).length - 1) ++ (i ++ [l]).take ((i ++ [l]).length - 1) = _
      rw [List.length_append]
      show (i ++ [l]).drop (i.length + 1 - 1) ++ (i ++ [l]).take (i.length + 1 - 1) = _
      rw [Nat.add_sub_cancel, List.drop_left, List.take_left]
      rfl
    rw [one, rep_last, ← List.append_assoc, one]
    have := rep_turn [l] i k
    rw [List.singleton_append] at this
    exact this
  | false =>
    obtain ⟨h, t, rfl⟩ : ∃ h t, ds = h :: t := by
      cases ds with
      | nil => exact absurd rfl hd
      | cons h t => exact ⟨h, t, rfl⟩
    have one : ∀ (h : Nat) (t : List Nat), rot false (h :: t) = t ++ [h] := fun h t => rfl
    rw [one, rep_succ, List.cons_append, one]
    exact rep_turn t [h] k
/-- what a row's number is multiplied by when the row is written k times -/
def rp (b m : Nat) : Nat → Nat
  | 0 => 0
  | k + 1 => b ^ (k * m) + rp b m k
theorem wr_rep (b : Nat) (ds : List Nat) : ∀ k, wr b (rep k ds) = wr b ds * rp b ds.length k
  | 0 => rfl
  | k + 1 => by
    rw [rep_succ, wr_append, wr_rep b ds k, rep_len]
    show _ = wr b ds * (b ^ (k * ds.length) + rp b ds.length k)
    rw [Nat.mul_add]
/-- a row that turns turns written over and over -/
theorem mv_rep {b f : Nat} {fr : Bool} {ds : List Nat} {k : Nat} (hb : 2 ≤ b) (h1 : ∀ d ∈ ds, d < b) (h2 : ∃ d, ds[0]? = some d ∧ 0 < d) (hk : 1 ≤ k) (e : wr b (rot fr ds) = f * wr b ds) :
    figs b (wr b (rep k ds)) = rep k ds ∧ mv b (wr b (rep k ds)) fr = f * wr b (rep k ds) ∧ 0 < wr b (rep k ds) := by
  obtain ⟨d0, hd0, hp0⟩ := h2
  have hne : ds ≠ [] := fun z => by
    rw [z] at hd0
    cases hd0
  obtain ⟨j, rfl⟩ : ∃ j, k = j + 1 := ⟨k - 1, by omega⟩
  have h0 : (rep (j + 1) ds)[0]? = some d0 := by
    rw [rep_succ, List.getElem?_append_left (List.length_pos_iff.mpr hne)]
    exact hd0
  have fg : figs b (wr b (rep (j + 1) ds)) = rep (j + 1) ds := figs_wr hb _ _ rfl (fun d hd => h1 d (rep_mem hd)) fun d hd => by
    rw [h0] at hd
    rw [← Option.some.inj hd]
    exact hp0
  refine ⟨fg, ?_, ?_⟩
  · unfold mv
    rw [fg, rot_rep fr ds hne, wr_rep, wr_rep, rot_len, e, Nat.mul_assoc]
  · rcases Nat.eq_zero_or_pos (wr b (rep (j + 1) ds)) with z | z
    · rw [z, figs_zero] at fg
      rw [← fg] at h0
      cases h0
    · exact z
theorem wr_rep_lt {b : Nat} {ds : List Nat} {k : Nat} (hb : 2 ≤ b) (h1 : ∀ d ∈ ds, d < b) : wr b (rep k ds) < b ^ (k * ds.length) := by
  have := wr_lt hb (rep k ds) fun d hd => h1 d (rep_mem hd)
  rw [rep_len] at this
  exact this
/-- of a number: its figures over and over -/
theorem trn_rep {b f x : Nat} {fr : Bool} {k : Nat} (hb : 2 ≤ b) (hx : 0 < x) (hk : 1 ≤ k) (e : mv b x fr = f * x) : trn b f fr (wr b (rep k (figs b x))) = true := by
  have hp := figs_len_pos hb hx
  have g : (figs b x)[0]? = some (figs b x)[0] := List.getElem?_eq_getElem hp
  have := mv_rep (fr := fr) (f := f) hb (figs_lt hb x) ⟨_, g, figs_head hb x _ g⟩ hk (by rw [wr_figs hb]; exact e)
  unfold trn
  rw [decide_eq_true this.2.1, decide_eq_true this.2.2]
  rfl
end Tf

/-! # a figure bent: the number turns no more -/
namespace Tf
theorem bent_no {b f x x' : Nat} (b3 : 3 ≤ b) (f2 : 2 ≤ f) (fb : f < b) (hm : 3 ≤ (figs b x).length) (hx : 0 < x) (hx' : 0 < x') (hl : (figs b x').length = (figs b x).length) (hne : x ≠ x')
    (h : x % b = x' % b ∨ x / b = x' / b) (e : mv b x true = f * x) : trn b f true x' = false := by
  cases q : trn b f true x' with
  | false => rfl
  | true =>
    exfalso
    unfold trn at q
    rw [Bool.and_eq_true, decide_eq_true_eq, decide_eq_true_eq] at q
    have n5 : 2 * b ≤ f * b := Nat.mul_le_mul_right b f2
    have q1 := (front_eq (by omega) (by omega) hx rfl).mp e
    have q2 := (front_eq (by omega) (by omega) hx' hl).mp q.2
    have same : x % b ≠ x' % b := fun z => by
      rw [z, ← q2] at q1
      exact hne (Nat.eq_of_mul_eq_mul_right (by omega) q1)
    have hd : x / b = x' / b := h.resolve_left same
    have d1 := Nat.div_add_mod x b
    have d2 := Nat.div_add_mod x' b
    have m1 := Nat.mod_lt x (show 0 < b by omega)
    have m2 := Nat.mod_lt x' (show 0 < b by omega)
    rw [← hd] at d2
    generalize x % b = r at *
    generalize x' % b = r' at *
    generalize b * (x / b) = t at *
    have big : b ^ 3 ≤ b ^ (figs b x).length := Nat.pow_le_pow_right (by omega) hm
    have e3 : b ^ 3 = b * b * b := by rw [Nat.pow_succ, Nat.pow_two]
    generalize b ^ (figs b x).length = g at *
    have w1 : (f * b - 1) + 1 ≤ b * b := by
      have : f * b ≤ (b - 1) * b := Nat.mul_le_mul_right b (by omega)
      rw [Nat.sub_mul, Nat.one_mul] at this
      have : b ≤ b * b := Nat.le_mul_of_pos_left b (by omega)
      omega
    have w0 : 1 ≤ f * b - 1 := by omega
    generalize f * b - 1 = n at *
    -- the lesser of both
    have key : ∀ {u v y z : Nat}, u < v → v < b → y = t + u → z = t + v → y * n = u * (g - 1) → z * n = v * (g - 1) → False := fun {u v y z} uv vb ey ez h1 h2 => by
      have c1 : z * n = y * n + (v - u) * n := by
        rw [← Nat.add_mul]
        congr 1
        omega
      have c2 : v * (g - 1) = u * (g - 1) + (v - u) * (g - 1) := by
        rw [← Nat.add_mul]
        congr 1
        omega
      have c3 : (v - u) * n = (v - u) * (g - 1) := by omega
      have c4 : n = g - 1 := Nat.eq_of_mul_eq_mul_left (by omega) c3
      have c5 : b * b * 3 ≤ b * b * b := Nat.mul_le_mul_left (b * b) b3
      omega
    rcases Nat.lt_trichotomy r r' with z | z | z
    · exact key z m2 d1.symm d2.symm q1 q2
    · exact same z
    · exact key z m1 d2.symm d1.symm q2 q1
theorem set_snoc (i : List Nat) (l v : Nat) (j : Nat) : (i ++ [l]).set j v = if j < i.length then i.set j v ++ [l] else if j = i.length then i ++ [v] else i ++ [l] := by
  rw [List.set_append]
  split
  · rfl
  · rename_i h
    split
    · rename_i h2
      subst h2
      rw [Nat.sub_self]
      rfl
    · rename_i h2
      have : j - i.length = (j - i.length - 1) + 1 := by omega
      rw [this]
      rfl
/-- one figure of a row that turns to the front bent -/
theorem bent_row {b f : Nat} {R : List Nat} {i r v : Nat} (b3 : 3 ≤ b) (f2 : 2 ≤ f) (fb : f < b) (hm : 3 ≤ R.length) (h1 : ∀ d ∈ R, d < b) (h2 : ∀ d, R[0]? = some d → 0 < d) (e : wr b (rot true R) = f * wr b R) (hr : R[i]? = some r) (hv : v < b) (hne : v ≠ r)
    (h3 : ∀ d, (R.set i v)[0]? = some d → 0 < d) : trn b f true (wr b (R.set i v)) = false := by
  have b2 : 2 ≤ b := by omega
  have h4 : ∀ d ∈ R.set i v, d < b := fun d hd => by
    rcases List.mem_or_eq_of_mem_set hd with h | h
    · exact h1 d h
    · rw [h]
      exact hv
  have g1 := figs_wr b2 _ R rfl h1 h2
  have g2 := figs_wr b2 _ (R.set i v) rfl h4 h3
  have hlen : (R.set i v).length = R.length := List.length_set
  have hi := (List.getElem?_eq_some_iff.mp hr).1
  have pos : ∀ {S : List Nat}, figs b (wr b S) = S → 0 < S.length → 0 < wr b S := fun {S} g p => by
    rcases Nat.eq_zero_or_pos (wr b S) with z | z
    · rw [z, figs_zero] at g
      rw [← g] at p
      cases p
    · exact z
  have hneR : wr b R ≠ wr b (R.set i v) := fun z => by
    rw [z] at g1
    have e2 : R = R.set i v := g1.symm.trans g2
    have e3 : R[i]? = (R.set i v)[i]? := congrArg (fun l : List Nat => l[i]?) e2
    rw [hr, List.getElem?_set_self hi] at e3
    exact hne (Option.some.inj e3).symm
  refine bent_no b3 f2 fb (by rw [g1]; exact hm) (pos g1 (by omega)) (pos g2 (by omega)) (by rw [g1, g2, hlen]) hneR ?_ (by unfold mv; rw [g1]; exact e)
  have hne0 : R ≠ [] := fun z => by
    rw [z] at hm
    cases hm
  obtain ⟨I, l, hR⟩ : ∃ I l, R = I ++ [l] := ⟨R.dropLast, R.getLast hne0, (List.dropLast_concat_getLast hne0).symm⟩
  have hl : l < b := h1 l (by rw [hR]; simp)
  have dm : ∀ (J : List Nat) (u : Nat), u < b → wr b (J ++ [u]) / b = wr b J ∧ wr b (J ++ [u]) % b = u := fun J u hu => by
    rw [wr_snoc]
    exact ⟨by rw [Nat.mul_comm, Nat.mul_add_div (by omega), Nat.div_eq_of_lt hu, Nat.add_zero], by rw [Nat.mul_comm, Nat.mul_add_mod, Nat.mod_eq_of_lt hu]⟩
  rw [hR, set_snoc]
  split
  · left
    rw [(dm _ _ hl).2, (dm _ _ hl).2]
  · split
    · right
      rw [(dm _ _ hl).1, (dm _ _ hv).1]
    · left
      rfl
/-- the next number, where the last figure allows it -/
theorem next_no {b f x : Nat} (b3 : 3 ≤ b) (f2 : 2 ≤ f) (fb : f < b) (hm : 3 ≤ (figs b x).length) (hx : 0 < x) (hl : x % b + 1 < b) (e : mv b x true = f * x) : trn b f true (x + 1) = false := by
  have b2 : 2 ≤ b := by omega
  have d1 := Nat.div_add_mod x b
  have hd : (x + 1) / b = x / b := by
    have : x + 1 = b * (x / b) + (x % b + 1) := by omega
    rw [this, Nat.mul_add_div (by omega), Nat.div_eq_of_lt hl, Nat.add_zero]
  refine bent_no b3 f2 fb hm hx (by omega) ?_ (by omega) (.inr hd.symm) e
  rw [figs_pos b2 (show 0 < x + 1 by omega), figs_pos b2 hx, hd, List.length_append, List.length_append]
  rfl
theorem trn_other {b f g x : Nat} {fr : Bool} (hx : 0 < x) (e : mv b x fr = f * x) (h : f ≠ g) : trn b g fr x = false := by
  unfold trn
  rw [e, Bool.and_eq_false_iff]
  right
  refine decide_eq_false fun z => h (Nat.eq_of_mul_eq_mul_right hx z)
theorem set_cut {R : List Nat} {i v : Nat} (hi : i < R.length) : R.take i ++ [v] ++ R.drop (i + 1) = R.set i v := by
  rw [List.set_eq_take_append_cons_drop, if_pos hi, List.append_assoc]
  rfl
end Tf

/-! # the known ones of base 10 -/
namespace Tf
def kn : List Nat := [105263157894736842, 1034482758620689655172413793, 102564, 142857, 1016949152542372881355932203389830508474576271186440677966, 1014492753623188405797, 1012658227848, 10112359550561797752808988764044943820224719]
def knM : List Nat := [18, 28, 6, 6, 58, 22, 13, 44]
/-- what is known of the known x of the factor f, of m figures, d the last one -/
structure Kn (f x m d : Nat) : Prop where
  f2 : 2 ≤ f
  f9 : f ≤ 9
  pos : 0 < x
  small : x < 2 ^ 200
  len : (figs 10 x).length = m
  m6 : 6 ≤ m
  m58 : m ≤ 58
  turns : mv 10 x true = f * x
  least : leastOf 10 f true = some x
  nv : nev 10 f true = false
  up : trn 10 f true (x + 1) = false
  ten : trn 10 f true (x * 10) = false
  tenth : trn 10 f true (x / 10) = false
  rep : ∀ k, 2 ≤ k → k ≤ 5 → trn 10 f true (wr 10 (rep k (figs 10 x)) + 1) = false
  last : x % 10 = d
  fd : f ≤ d
  d9 : d ≤ 9
  lenOf : lenOf 10 f true d = some m
  share : top 10 f d * (10 * f - 1) = cut (f * 10 - 1) d * d
  nines : x * cut (f * 10 - 1) d = top 10 f d * wr 10 (List.replicate m 9)
theorem rep_cases {Pr : Nat → Prop} (h2 : Pr 2) (h3 : Pr 3) (h4 : Pr 4) (h5 : Pr 5) : ∀ k, 2 ≤ k → k ≤ 5 → Pr k := fun k a b => by
  have : k = 2 ∨ k = 3 ∨ k = 4 ∨ k = 5 := by omega
  rcases this with rfl | rfl | rfl | rfl <;> assumption
set_option maxRecDepth 100000
theorem kn0 : Kn 2 105263157894736842 18 2 := ⟨by decide +kernel, by decide +kernel, by decide +kernel, by decide +kernel, by decide +kernel, by decide +kernel, by decide +kernel, by decide +kernel, by decide +kernel, by decide +kernel, by decide +kernel, by decide +kernel, by decide +kernel, rep_cases (by decide +kernel) (by decide +kernel) (by decide +kernel) (by decide +kernel), by decide +kernel, by decide +kernel, by decide +kernel, by decide +kernel, by decide +kernel, by decide +kernel⟩
theorem kn1 : Kn 3 1034482758620689655172413793 28 3 := ⟨by decide +kernel, by decide +kernel, by decide +kernel, by decide +kernel, by decide +kernel, by decide +kernel, by decide +kernel, by decide +kernel, by decide +kernel, by decide +kernel, by decide +kernel, by decide +kernel, by decide +kernel, rep_cases (by decide +kernel) (by decide +kernel) (by decide +kernel) (by decide +kernel), by decide +kernel, by decide +kernel, by decide +kernel, by decide +kernel, by decide +kernel, by decide +kernel⟩
theorem kn2 : Kn 4 102564 6 4 := ⟨by decide +kernel, by decide +kernel, by decide +kernel, by decide +kernel, by decide +kernel, by decide +kernel, by decide +kernel, by decide +kernel, by decide +kernel, by decide +kernel, by decide +kernel, by decide +kernel, by decide +kernel, rep_cases (by decide +kernel) (by decide +kernel) (by decide +kernel) (by decide +kernel), by decide +kernel, by decide +kernel, by decide +kernel, by decide +kernel, by decide +kernel, by decide +kernel⟩
theorem kn3 : Kn 5 142857 6 7 := ⟨by decide +kernel, by decide +kernel, by decide +kernel, by decide +kernel, by decide +kernel, by decide +kernel, by decide +kernel, by decide +kernel, by decide +kernel, by decide +kernel, by decide +kernel, by decide +kernel, by decide +kernel, rep_cases (by decide +kernel) (by decide +kernel) (by decide +kernel) (by decide +kernel), by decide +kernel, by decide +kernel, by decide +kernel, by decide +kernel, by decide +kernel, by decide +kernel⟩
theorem kn4 : Kn 6 1016949152542372881355932203389830508474576271186440677966 58 6 := ⟨by decide +kernel, by decide +kernel, by decide +kernel, by decide +kernel, by decide +kernel, by decide +kernel, by decide +kernel, by decide +kernel, by decide +kernel, by decide +kernel, by decide +kernel, by decide +kernel, by decide +kernel, rep_cases (by decide +kernel) (by decide +kernel) (by decide +kernel) (by decide +kernel), by decide +kernel, by decide +kernel, by decide +kernel, by decide +kernel, by decide +kernel, by decide +kernel⟩
theorem kn5 : Kn 7 1014492753623188405797 22 7 := ⟨by decide +kernel, by decide +kernel, by decide +kernel, by decide +kernel, by decide +kernel, by decide +kernel, by decide +kernel, by decide +kernel, by decide +kernel, by decide +kernel, by decide +kernel, by decide +kernel, by decide +kernel, rep_cases (by decide +kernel) (by decide +kernel) (by decide +kernel) (by decide +kernel), by decide +kernel, by decide +kernel, by decide +kernel, by decide +kernel, by decide +kernel, by decide +kernel⟩
theorem kn6 : Kn 8 1012658227848 13 8 := ⟨by decide +kernel, by decide +kernel, by decide +kernel, by decide +kernel, by decide +kernel, by decide +kernel, by decide +kernel, by decide +kernel, by decide +kernel, by decide +kernel, by decide +kernel, by decide +kernel, by decide +kernel, rep_cases (by decide +kernel) (by decide +kernel) (by decide +kernel) (by decide +kernel), by decide +kernel, by decide +kernel, by decide +kernel, by decide +kernel, by decide +kernel, by decide +kernel⟩
theorem kn7 : Kn 9 10112359550561797752808988764044943820224719 44 9 := ⟨by decide +kernel, by decide +kernel, by decide +kernel, by decide +kernel, by decide +kernel, by decide +kernel, by decide +kernel, by decide +kernel, by decide +kernel, by decide +kernel, by decide +kernel, by decide +kernel, by decide +kernel, rep_cases (by decide +kernel) (by decide +kernel) (by decide +kernel) (by decide +kernel), by decide +kernel, by decide +kernel, by decide +kernel, by decide +kernel, by decide +kernel, by decide +kernel⟩
theorem kn_all (i : Nat) (h : i < 8) : ∃ x m d, kn[i]? = some x ∧ Kn (2 + i) x m d := by
  match i, h with
  | 0, _ => exact ⟨_, _, _, rfl, kn0⟩
  | 1, _ => exact ⟨_, _, _, rfl, kn1⟩
  | 2, _ => exact ⟨_, _, _, rfl, kn2⟩
  | 3, _ => exact ⟨_, _, _, rfl, kn3⟩
  | 4, _ => exact ⟨_, _, _, rfl, kn4⟩
  | 5, _ => exact ⟨_, _, _, rfl, kn5⟩
  | 6, _ => exact ⟨_, _, _, rfl, kn6⟩
  | 7, _ => exact ⟨_, _, _, rfl, kn7⟩
end Tf

namespace Tf
open PySem PySem.Spec PyProof.Rows L2 Evl
/-! ### a def of the module, by its promise -/
structure Has (P : Program) (w : World) (K : PySem.W.Frag) (mg : Str → Option Value) (base : Heap) (x : Str) (ps : List Str) (k : Nat) (sp : Sp) : Prop where
  ex : ∃ (f : Addr) (fd : FuncData), mg x = some (.ref f) ∧ PySem.W.keepIn K (.ref f) = true ∧ Binds K fd ps [] ∧ FnOk P w K mg base CX0 k f fd ps sp
theorem pe_fn {X : Cx} {x : Str} {ps : List Str} {j k : Nat} {sp : Sp} {p pos : Pos} {e : Expr} {es : List Expr} {t : TA} (h : Has X.prog X.w X.K X.mg X.base x ps k sp) (hr : Room j X.A) (hg : Gl X x) (ha : PA X (e :: es) t)
    (hk : k ≤ j := by decide) (hdb : (x == ("__debug__" : Str)) = false := by decide) (he : starEach (e :: es) X.env = (false, eval e X.env) :: starEach es X.env := by rfl) (hpl : (backTo pos (starEach es X.env)).any (·.1) = false := by rfl) :
    PE X (.Call (.Name x p) (e :: es) [] pos) (tCall sp [] E0 t) := by
  obtain ⟨f, fd, g, kp, b, F⟩ := h.ex
  exact pe_call F (hr.mono hk) hg g kp b .nil pass0 ha hdb he hpl
theorem pe_fn0 {X : Cx} {x : Str} {ps : List Str} {j k : Nat} {sp : Sp} {p pos : Pos} (h : Has X.prog X.w X.K X.mg X.base x ps k sp) (hr : Room j X.A) (hg : Gl X x)
    (hk : k ≤ j := by decide) (hdb : (x == ("__debug__" : Str)) = false := by decide) : PE X (.Call (.Name x p) [] [] pos) (tCall sp [] E0 tNil) := by
  obtain ⟨f, fd, g, kp, b, F⟩ := h.ex
  exact pe_call0 F (hr.mono hk) hg g kp b .nil pass0 hdb
/-! ### promises: a value told, a new list told -/
def spV (R : List V → Hp → V → Prop) : Sp := fun vs H Q _ => ∃ v, R vs H v ∧ RetV v H Q
def spL (R : List V → Hp → List V → Prop) : Sp := fun vs H Q _ => ∃ xs, R vs H xs ∧ RetL xs H Q
abbrev vi (n : Nat) : V := .int (n : Int)
abbrev vl (ns : List Nat) : List V := ns.map vi
theorem vl_app (xs ys : List Nat) : vl (xs ++ ys) = vl xs ++ vl ys := List.map_append
theorem vl_drop (ds : List Nat) (k : Nat) : vl (ds.drop k) = (vl ds).drop k := List.map_drop
theorem vl_take (ds : List Nat) (k : Nat) : vl (ds.take k) = (vl ds).take k := List.map_take
theorem vl_rev (ds : List Nat) : vl ds.reverse = (vl ds).reverse := List.map_reverse
theorem vl_len (ds : List Nat) : (vl ds).length = ds.length := List.length_map _
theorem cutV_to (xs : List V) (k : Nat) : cutV xs none (some (k : Int)) = xs.take k := by
  unfold cutV
  rw [HT.sIx_none, HT.sIx_nat, List.drop_zero, Nat.sub_zero]
  by_cases h : k ≤ xs.length
  · rw [Nat.min_eq_left h]
  · rw [Nat.min_eq_right (by omega), List.take_length, List.take_of_length_le (by omega)]
/-! ### lists met: new or old -/
section
variable {K : PySem.W.Frag} {σ : L2.St} {H H' : Hp} {ta tb tc te : TE} {x y z v : V} {xs ys : List V}
def EvS (te : TE) (σ : L2.St) (H : Hp) (xs : List V) : Prop := ∀ H1, Ex H H1 → ∀ Q : VK, (∀ p H2, Ex H1 H2 → H2 p = some (.lst xs) → Q (.ref p) H2) → te σ H1 Q
def EvQ (K : PySem.W.Frag) (te : TE) (σ : L2.St) (H : Hp) (xs : List V) : Prop := ∀ H1, Ex H H1 → ∀ Q : VK, (∀ p H2, Ex H1 H2 → SqL K H2 p xs → Q (.ref p) H2) → te σ H1 Q
theorem es_new (h : EvL te σ H xs) : EvS te σ H xs := fun H1 e Q q => h H1 e Q fun p H2 _ e2 hp => q p H2 e2 hp
theorem es_old {a : Addr} (h : Ev te σ H (.ref a)) (hx : H a = some (.lst xs)) : EvS te σ H xs := fun H1 e Q q => h H1 e Q fun H2 e2 => q a H2 e2 (e2 _ _ (e _ _ hx))
theorem eq_of (h : EvS te σ H xs) : EvQ K te σ H xs := fun H1 e Q q => h H1 e Q fun p H2 e2 hp => q p H2 e2 (sq_of hp)
theorem eq_new (h : EvL te σ H xs) : EvQ K te σ H xs := eq_of (es_new h)
theorem eq_old {a : Addr} (h : Ev te σ H (.ref a)) (hx : SqL K H a xs) : EvQ K te σ H xs := fun H1 e Q q => h H1 e Q fun H2 e2 => q a H2 e2 (ex_l e2 (ex_l e hx))
theorem EvS.mono (e : Ex H H') (h : EvS te σ H xs) : EvS te σ H' xs := fun H1 a Q q => h H1 (e.trans a) Q q
theorem EvQ.mono (e : Ex H H') (h : EvQ K te σ H xs) : EvQ K te σ H' xs := fun H1 a Q q => h H1 (e.trans a) Q q
theorem EvU.mono (e : Ex H H') (h : EvU te σ H xs) : EvU te σ H' xs := fun H1 a Q q => h H1 (e.trans a) Q q
theorem el_cat (ha : EvS ta σ H xs) (hb : EvS tb σ H ys) (hz : xs.length + ys.length ≤ 1000000) : EvL (tOp rCat ta tb) σ H (xs ++ ys) := fun H1 e Q q =>
  ha H1 e _ fun p H2 e2 hp => hb H2 (e.trans e2) _ fun p' H3 e3 hp' =>
    ⟨p, p', xs, ys, rfl, rfl, e3 _ _ hp, hp', Nat.le_trans hz (by decide), fun l hl => q l _ (fresh_back (e2.trans e3) hl) ((e2.trans e3).trans (Ex.new hl)) upd_same⟩
theorem el_rep {k : Nat} (ha : EvS ta σ H xs) (hb : Ev tb σ H (vi k)) (hk : k < 2 ^ 62) (hz : xs.length * k ≤ 1000000) : EvL (tOp rRep ta tb) σ H (List.replicate k xs).flatten := fun H1 e Q q =>
  ha H1 e _ fun p H2 e2 hp => hb H2 (e.trans e2) _ fun H3 e3 =>
    ⟨p, (k : Int), xs, rfl, rfl, e3 _ _ hp, by omega, by omega, Nat.le_trans hz (by decide), fun l hl => q l _ (fresh_back (e2.trans e3) hl) ((e2.trans e3).trans (Ex.new hl)) upd_same⟩
theorem el_cut {tl th : TO} {lo hi : Option Int} (h : EvQ K te σ H xs) (h1 : EvO tl σ H lo) (h2 : EvO th σ H hi) : EvL (tSl (rSlL K) te tl th) σ H (cutV xs lo hi) := fun H1 e _ q =>
  h H1 e _ fun a H2 e2 hx => h1 H2 (e.trans e2) _ fun H3 e3 => h2 H3 ((e.trans e2).trans e3) _ fun H4 e4 =>
    ⟨a, xs, rfl, ex_l (e3.trans e4) hx, fun p hp => q p _ (fresh_back ((e2.trans e3).trans e4) hp) (((e2.trans e3).trans e4).trans (Ex.new hp)) upd_same⟩
theorem el_rev (h : EvQ K te σ H xs) : EvL (tRevL K te) σ H xs.reverse := fun H1 e _ q =>
  h H1 e _ fun a H2 e2 hx => ⟨a, xs, rfl, hx, fun p hp => q p _ (fresh_back e2 hp) (e2.trans (Ex.new hp)) upd_same⟩
theorem ev_ix {i : Int} (ha : EvQ K ta σ H xs) (hb : Ev tb σ H (.int i)) (hv : atI xs i = some v) : Ev (tOp (rIxL K) ta tb) σ H v := fun H1 e _ q =>
  ha H1 e _ fun a H2 e2 hx => hb H2 (e.trans e2) _ fun H3 e3 => ⟨a, xs, i, v, rfl, rfl, ex_l e3 hx, hv, q H3 (e2.trans e3)⟩
theorem ev_ixU {i : Int} (ha : EvU ta σ H xs) (hb : Ev tb σ H (.int i)) (hv : atI xs i = some v) : Ev (tOp (rIxT K) ta tb) σ H v := fun H1 e _ q =>
  ha H1 e _ fun a H2 _ e2 hx => hb H2 (e.trans e2) _ fun H3 e3 => ⟨a, xs, i, v, rfl, rfl, ex_t e3 (st_of hx), hv, q H3 (e2.trans e3)⟩
theorem ev_len (ha : EvQ K ta σ H xs) : Ev (tCB (fun zs H Q => ∃ p ys, zs = [.ref p] ∧ (SqL K H p ys ∨ SqT K H p ys) ∧ Q (.int ys.length) H) (tCons ta tNil)) σ H (vi xs.length) := fun H1 e _ q =>
  ha H1 e _ fun a H2 e2 hx => ⟨a, xs, rfl, .inl hx, q H2 e2⟩
theorem ev_lenU (ha : EvU ta σ H xs) : Ev (tCB (fun zs H Q => ∃ p ys, zs = [.ref p] ∧ (SqL K H p ys ∨ SqT K H p ys) ∧ Q (.int ys.length) H) (tCons ta tNil)) σ H (vi xs.length) := fun H1 e _ q =>
  ha H1 e _ fun a H2 _ e2 hx => ⟨a, xs, rfl, .inr (st_of hx), q H2 e2⟩
theorem el_list (ha : EvQ K ta σ H xs) : EvL (tCB (fun zs H Q => ∃ p ys, zs = [.ref p] ∧ (SqL K H p ys ∨ SqT K H p ys) ∧ ∀ l, H l = none → Q (.ref l) (upd H l (.lst ys))) (tCons ta tNil)) σ H xs := fun H1 e _ q =>
  ha H1 e _ fun a H2 e2 hx => ⟨a, xs, rfl, .inl hx, fun p hp => q p _ (fresh_back e2 hp) (e2.trans (Ex.new hp)) upd_same⟩
theorem ev_any {bs : List Bool} (ha : EvQ K ta σ H (bs.map V.bl)) : Ev (tCB (rAny K) (tCons ta tNil)) σ H (.bl (bs.any id)) := fun H1 e _ q => ha H1 e _ fun a H2 e2 hx => ⟨a, bs, rfl, hx, q H2 e2⟩
theorem ev_all {bs : List Bool} (ha : EvQ K ta σ H (bs.map V.bl)) : Ev (tCB (rAll K) (tCons ta tNil)) σ H (.bl (bs.all id)) := fun H1 e _ q => ha H1 e _ fun a H2 e2 hx => ⟨a, bs, rfl, hx, q H2 e2⟩
theorem ev_sum {ns : List Int} (ha : EvQ K ta σ H (ns.map V.int)) : Ev (tCB (rSum K) (tCons ta tNil)) σ H (.int ns.sum) := fun H1 e _ q => ha H1 e _ fun a H2 e2 hx => ⟨a, ns, rfl, hx, q H2 e2⟩
theorem ev_abs {i : Int} (ha : Ev ta σ H (.int i)) : Ev (tCB (fun xs H Q => ∃ i, xs = [.int i] ∧ Q (.int (if i < 0 then -i else i)) H) (tCons ta tNil)) σ H (vi i.natAbs) := fun H1 e Q q =>
  ha H1 e _ fun H2 e2 => ⟨i, rfl, by
    have g := q H2 e2
    have w : (if i < 0 then -i else i) = (i.natAbs : Int) := by split <;> omega
    rw [w]
    exact g⟩
theorem el_if {t : TT} {b : Bool} (h : EvT t σ H b) (h1 : b = true → EvL ta σ H xs) (h2 : b = false → EvL tb σ H xs) : EvL (tIf t ta tb) σ H xs := fun H1 e Q q => h H1 e _ fun H2 e2 => by
  cases b with
  | true => exact iteT (h1 rfl H2 (e.trans e2) _ fun p H3 hp e3 h3 => q p H3 (fresh_back e2 hp) (e2.trans e3) h3)
  | false => exact iteF (h2 rfl H2 (e.trans e2) _ fun p H3 hp e3 h3 => q p H3 (fresh_back e2 hp) (e2.trans e3) h3)
theorem el_is {ys : List V} (h : EvL te σ H xs) (e : xs = ys) : EvL te σ H ys := by
  rw [← e]
  exact h
/-! isinstance -/
theorem ev_isi {t c : String} {b : Bool} (ha : Ev ta σ H x) (ht : ∀ H1, Ex H H1 → TyX K H1 x (.type t)) (hb : kitB t c = some b) : Ev (tCB (rIsi K) (tCons ta (tCons (tC (.ty c)) tNil))) σ H (.bl b) := fun H1 e _ q =>
  ha H1 e _ fun H2 e2 => ⟨x, .ty c, _, _, b, rfl, .ty c, ht H2 (e.trans e2), kit_ty hb, q H2 e2⟩
theorem ev_isiI {i : Int} {c : String} {b : Bool} (ha : Ev ta σ H (.int i)) (hb : kitB "int" c = some b) : Ev (tCB (rIsi K) (tCons ta (tCons (tC (.ty c)) tNil))) σ H (.bl b) := ev_isi ha (fun _ _ => .base (.int i)) hb
theorem ev_isiS {c : String} {b : Bool} (ha : EvS ta σ H xs) (hb : kitB "list" c = some b) : Ev (tCB (rIsi K) (tCons ta (tCons (tC (.ty c)) tNil))) σ H (.bl b) := fun H1 e _ q =>
  ha H1 e _ fun p H2 e2 hp => ⟨.ref p, .ty c, _, _, b, rfl, .ty c, .base (.lst hp), kit_ty hb, q H2 e2⟩
theorem rv_isN : RV (fun x y H Q => y = .non ∧ Q (.bl (decide (x = .non))) H) x .non H (.bl (decide (x = .non))) := fun H1 _ _ q => ⟨rfl, q H1 (Ex.refl H1)⟩
theorem rv_notN : RV (fun x y H Q => y = .non ∧ Q (.bl (!decide (x = .non))) H) x .non H (.bl (!decide (x = .non))) := fun H1 _ _ q => ⟨rfl, q H1 (Ex.refl H1)⟩
/-- the script's sum -/
theorem ev_whole {a : Addr} {ns : List Int} (hS : SqL K H a (ns.map V.int)) (hv : σ[0]? = some (some (.ref a))) :
    Ev (tOp (rI (fun _ j => 0 < j) fun i j => .int (i % j)) (tCB (fun xs H Q => ∃ i, xs = [.int i] ∧ Q (.int (if i < 0 then -i else i)) H) (tCons (tCB (rSum K) (tCons (tSl (rSlL K) (tVar 0) tNoPart (tPart (tC (.int 63)))) tNil)) tNil)) (tOp (rI CPow fun i j => .int (i ^ j.toNat)) (tC (.int 10)) (tC (.int 60)))) σ H (vi ((ns.take 63).sum.natAbs % 10 ^ 60)) := by
  refine ev_is (ev_op (ev_abs (ev_sum (ns := ns.take 63) (eq_new (el_is (el_cut (eq_old (ev_var hv) hS) eo_none (eo_some ev_c)) ?_)))) (ev_op ev_c ev_c (rv_I ⟨by decide, by decide, by decide⟩)) (rv_I (by decide +kernel))) ?_
  · rw [show (63 : Int) = ((63 : Nat) : Int) from rfl, cutV_to, List.map_take]
  · rfl
/-- the first cells, and some more -/
theorem eq_cells {a : Addr} {ns ms : List Int} {k : Nat} {tb : TE} (hS : SqL K H a (ns.map V.int)) (hl : ns.length ≤ 63) (hv : σ[0]? = some (some (.ref a))) (hb : EvL tb σ H (ms.map V.int)) (hm : ms.length ≤ 10) :
    EvQ K (tOp rCat (tSl (rSlL K) (tVar 0) tNoPart (tPart (tC (.int (k : Int))))) tb) σ H ((ns.take k ++ ms).map V.int) := by
  refine eq_new (el_is (el_cat (es_new (el_cut (eq_old (ev_var hv) hS) eo_none (eo_some ev_c))) (es_new hb) ?_) ?_)
  · have q1 := cutV_length (ns.map V.int) none (some (k : Int))
    rw [List.length_map] at q1
    rw [List.length_map]
    omega
  · rw [cutV_to, ← List.map_take, ← List.map_append]
theorem get_ints {L : List Int} {i : Nat} {x : V} (h : (L.map V.int)[i]? = some x) : ∃ c, L[i]? = some c ∧ x = .int c := by
  rw [List.getElem?_map] at h
  cases e : L[i]? with
  | none =>
    rw [e] at h
    cases h
  | some d =>
    rw [e] at h
    exact ⟨d, rfl, (Option.some.inj h).symm⟩
theorem cells_len {ns ms : List Int} {k i : Nat} {c : Int} (h : (ns.take k ++ ms)[i]? = some c) : i < k + ms.length := by
  have := (List.getElem?_eq_some_iff.mp h).1
  rw [List.length_append, List.length_take] at this
  omega
/-! chains -/
theorem ev_chain {r r' : R2} {a b : Bool} (ha : Ev ta σ H x) (hb : Ev tb σ H y) (hr : RV r x y H (.bl a)) (hc : Ev tc σ H z) (hr' : RV r' y z H (.bl b)) : Ev (tChain r r' ta tb tc) σ H (.bl (a && b)) := fun H1 e Q q =>
  ha H1 e _ fun H2 e2 => hb H2 (e.trans e2) _ fun H3 e3 => hr H3 ((e.trans e2).trans e3) _ fun H4 e4 => ⟨a, rfl, by
    have e14 := (e2.trans e3).trans e4
    cases a with
    | true =>
      refine iteT (hc H4 (e.trans e14) _ fun H5 e5 => hr' H5 ((e.trans e14).trans e5) _ fun H6 e6 => ?_)
      exact q H6 ((e14.trans e5).trans e6)
    | false => exact iteF (q H4 e14)⟩
/-! equality of lists of ints -/
def dI (ns : List Int) : List PyData := ns.map PyData.int
theorem dp_ints {H : Hp} : ∀ ns : List Int, DpAll K H (ns.map V.int) (dI ns)
  | [] => .nil
  | n :: ns => .cons (.int n) (dp_ints ns)
theorem lay_ints : ∀ ns : List Int, PyData.canLayAll0 (dI ns) = true
  | [] => by simp [dI, PyData.canLayAll0]
  | n :: ns => by
    show PyData.canLayAll0 (.int n :: dI ns) = true
    rw [PyData.canLayAll0, lay_ints ns]
    simp [PyData.canLay0]
theorem depth_ints : ∀ ns : List Int, PyData.depthAll (dI ns) = 0
  | [] => by simp [dI, PyData.depthAll]
  | n :: ns => by
    show PyData.depthAll (.int n :: dI ns) = 0
    rw [PyData.depthAll, depth_ints ns]
    simp [PyData.depth]
theorem shaped_ints (ns : List Int) : SeqAt.shaped (.list (dI ns)) = true := by
  unfold SeqAt.shaped
  rw [PyData.canLay0, lay_ints, PyData.depth, depth_ints]
  decide
theorem eqv_ints : ∀ ns ms : List Int, PyData.eqvAll (dI ns) (dI ms) = decide (ns = ms)
  | [], [] => by simp [dI, PyData.eqvAll]
  | [], m :: ms => by simp [dI, PyData.eqvAll]
  | n :: ns, [] => by simp [dI, PyData.eqvAll]
  | n :: ns, m :: ms => by
    show PyData.eqvAll (.int n :: dI ns) (.int m :: dI ms) = _
    rw [PyData.eqvAll, eqv_ints ns ms, PyData.eqv]
    by_cases h : n = m
    · subst h
      simp
    · simp [h]
theorem ev_eqL {ns ms : List Int} (ha : EvQ K ta σ H (ns.map V.int)) (hb : EvQ K tb σ H (ms.map V.int)) : Ev (tOp (rEqD K) ta tb) σ H (.bl (decide (ns = ms))) := fun H1 e Q q =>
  ha H1 e _ fun p H2 e2 hp => hb H2 (e.trans e2) _ fun p' H3 e3 hp' => ⟨.list (dI ns), .list (dI ms), .lst (ex_l e3 hp) (dp_ints ns), .lst hp' (dp_ints ms), shaped_ints ns, shaped_ints ms, by
    rw [PyData.eqv, eqv_ints]
    exact q H3 (e2.trans e3)⟩
theorem ev_neL {ns ms : List Int} (ha : EvQ K ta σ H (ns.map V.int)) (hb : EvQ K tb σ H (ms.map V.int)) : Ev (tOp (rNeD K) ta tb) σ H (.bl (!decide (ns = ms))) := fun H1 e Q q =>
  ha H1 e _ fun p H2 e2 hp => hb H2 (e.trans e2) _ fun p' H3 e3 hp' => ⟨.list (dI ns), .list (dI ms), .lst (ex_l e3 hp) (dp_ints ns), .lst hp' (dp_ints ms), shaped_ints ns, shaped_ints ms, by
    rw [PyData.eqv, eqv_ints]
    exact q H3 (e2.trans e3)⟩
theorem vl_ints (ns : List Nat) : vl ns = (ns.map fun n : Nat => (n : Int)).map V.int := by
  rw [List.map_map]
  rfl
theorem cast_inj : ∀ {ns ms : List Nat}, ns.map (fun n : Nat => (n : Int)) = ms.map (fun n : Nat => (n : Int)) → ns = ms
  | [], [], _ => rfl
  | [], _ :: _, h => by simp at h
  | _ :: _, [], h => by simp at h
  | n :: ns, m :: ms, h => by
    rw [List.map_cons, List.map_cons] at h
    injection h with h1 h2
    rw [cast_inj h2, Int.ofNat.inj h1]
theorem dec_cast (ns ms : List Nat) : decide (ns.map (fun n : Nat => (n : Int)) = ms.map (fun n : Nat => (n : Int))) = decide (ns = ms) := by
  by_cases h : ns = ms
  · rw [decide_eq_true h, h, decide_eq_true rfl]
  · rw [decide_eq_false h, decide_eq_false fun e => h (cast_inj e)]
theorem ev_eqN {ns ms : List Nat} (ha : EvQ K ta σ H (vl ns)) (hb : EvQ K tb σ H (vl ms)) : Ev (tOp (rEqD K) ta tb) σ H (.bl (decide (ns = ms))) := by
  rw [vl_ints] at ha hb
  exact ev_is (ev_eqL ha hb) (by rw [dec_cast])
theorem ev_neN {ns ms : List Nat} (ha : EvQ K ta σ H (vl ns)) (hb : EvQ K tb σ H (vl ms)) : Ev (tOp (rNeD K) ta tb) σ H (.bl (!decide (ns = ms))) := by
  rw [vl_ints] at ha hb
  exact ev_is (ev_neL ha hb) (by rw [dec_cast])
/-! calls by promises -/
theorem ev_fn {R : List V → Hp → V → Prop} {vs : List V} {t : TA} (h : EvA t σ H vs) (hR : ∀ H1, Ex H H1 → R vs H1 v) : Ev (tCall (spV R) [] E0 t) σ H v := fun H1 e Q q =>
  h H1 e _ fun H2 e2 => ⟨v, by rw [List.append_nil]; exact hR H2 (e.trans e2), fun H3 e3 => q H3 (e2.trans e3)⟩
theorem el_fn {R : List V → Hp → List V → Prop} {vs : List V} {t : TA} (h : EvA t σ H vs) (hR : ∀ H1, Ex H H1 → R vs H1 xs) : EvL (tCall (spL R) [] E0 t) σ H xs := fun H1 e Q q =>
  h H1 e _ fun H2 e2 => ⟨xs, by rw [List.append_nil]; exact hR H2 (e.trans e2), fun p H3 hp e3 h3 => q p H3 (fresh_back e2 hp) (e2.trans e3) h3⟩
/-- an argument that is a new list, the last one -/
theorem ev_fnL {R : List V → Hp → V → Prop} (h : Ev ta σ H x) (hl : EvS tb σ H xs) (hR : ∀ p H1, Ex H H1 → H1 p = some (.lst xs) → R [x, .ref p] H1 v) : Ev (tCall (spV R) [] E0 (tCons ta (tCons tb tNil))) σ H v := fun H1 e Q q =>
  h H1 e _ fun H2 e2 => hl H2 (e.trans e2) _ fun p H3 e3 hp => ⟨v, hR p H3 ((e.trans e2).trans e3) hp, fun H4 e4 => q H4 ((e2.trans e3).trans e4)⟩
end
/-! ### loops -/
section
variable {K : PySem.W.Frag} {σ : L2.St} {H H' : Hp} {te : TE} {D : Ends} {tu tz : TS} {xs : List V}
/-- for i, x in enumerate(..) -/
theorem q_forE {j l : Nat} (h : EvQ K te σ H xs) (Pv : Addr → Nat → L2.St → Hp → Prop) (h0 : ∀ p H1, Ex H H1 → SqL K H1 p xs → Pv p 0 σ H1) (hl : ∀ p i σ' H', i ≤ xs.length → Pv p i σ' H' → SqL K H' p xs)
    (hs : ∀ p i x σ' H', xs[i]? = some x → Pv p i σ' H' → ∀ H2, Ex H' H2 → tu { D with nx := Pv p (i + 1), ct := Pv p (i + 1), bk := tz D } ((σ'.set j (some (vi i))).set l (some x)) H2) (hd : ∀ p σ' H', Pv p xs.length σ' H' → tz D σ' H') :
    tSeq (tFor (iEnum K (tCons te tNil)) (gTup K 2 (gCons (gName j) (gCons (gName l) gNil))) tu) tz D σ H :=
  h H (Ex.refl H) _ fun a H1 e ha => ⟨a, xs, rfl, ha, fun i m σ' H' => m = xs.length - i ∧ i ≤ xs.length ∧ Pv a i σ' H', ⟨xs.length, by simp, Nat.zero_le _, h0 a H1 e ha⟩, by
    rintro i m σ' H' ⟨rfl, hi, p⟩
    have q := hl a i σ' H' hi p
    by_cases hlt : i < xs.length
    · refine .inr ⟨⟨xs, xs[i], q, by simp [hlt]⟩, Pv a (i + 1), fun σ2 H2 p' => ⟨xs.length - (i + 1), by omega, rfl, hlt, p'⟩, fun x H2 y => ?_⟩
      obtain ⟨T, x', rfl, nT, rfl, f⟩ := y
      exact ⟨T, [vi i, x'], rfl, st_of upd_same, rfl, vi i, [x'], rfl, x', [], rfl, rfl, hs a i x' σ' H' (f xs q) p _ (Ex.new nT)⟩
    · have e' : i = xs.length := by omega
      subst e'
      exact .inl ⟨⟨xs, q, Nat.le_refl _⟩, hd a σ' H' p⟩⟩
/-- a, b = x, y -/
theorem s_par {i j : Nat} {ta : TA} {x y : V} (h : EvA ta σ H [x, y]) (k : ∀ H1, Ex H H1 → D.nx ((σ.set i (some x)).set j (some y)) H1) : tPar i j ta D σ H := h H (Ex.refl H) _ fun H1 e => ⟨x, y, rfl, k H1 e⟩
theorem q_par {i j : Nat} {ta : TA} {x y : V} (h : EvA ta σ H [x, y]) (k : ∀ H1, Ex H H1 → tz D ((σ.set i (some x)).set j (some y)) H1) : tSeq (tPar i j ta) tz D σ H := s_par (D := { D with nx := tz D }) h k
theorem q_par3 {i j l : Nat} {ta : TA} {x y z : V} (h : EvA ta σ H [x, y, z]) (k : ∀ H1, Ex H H1 → tz D (((σ.set i (some x)).set j (some y)).set l (some z)) H1) : tSeq (tPar3 i j l ta) tz D σ H := h H (Ex.refl H) _ fun H1 e => ⟨x, y, z, rfl, k H1 e⟩
/-- a word between: what follows is shown once -/
theorem q_mid {M : L2.St → Hp → Prop} (h : tu { D with nx := M } σ H) (k : ∀ σ' H', M σ' H' → tz D σ' H') : tCut tu tz D σ H := ⟨M, h, k⟩
/-- comprehensions over range(a, b) -/
theorem el_lcR2 {ta : TA} {t : TT} {j : Nat} {vs : List Nat} {lo hi : Int} {n : Nat} (f : Nat → Bool) (v : Nat → V) (h : EvA ta σ H [.int lo, .int hi]) (hn : 0 ≤ lo ∧ lo ≤ 100000 ∧ -100000 ≤ hi ∧ hi ≤ 100000) (hz : (hi - lo).toNat = n) (hc : n ≤ 40000) (hw : ∀ x, wipe ((wipe σ vs).set j (some x)) vs = wipe σ vs)
    (ht : ∀ (i : Nat) H1, Ex H H1 → i < n → EvT t ((wipe σ vs).set j (some (.int (lo + (i : Int))))) H1 (f i)) (he : ∀ (i : Nat) H1, Ex H H1 → i < n → f i = true → Ev te ((wipe σ vs).set j (some (.int (lo + (i : Int))))) H1 (v i)) :
    EvL (tLc (iRng2 ta) (gName j) t te vs) σ H (given n f v) := fun H0 e Q q => h H0 e _ fun H1 e1 => ⟨lo, hi, rfl, ⟨by omega, by omega, by omega, by omega⟩, fun Dl hD => by
  rw [hz]
  exact lc_range (lo := lo) (n := n) (Cw H1 f v Dl) ⟨hD, Ex.new hD, upd_same⟩ (fun i H' hi p => ⟨hw _, cw_turn p (by omega) (ht i H1 (e.trans e1) hi) (fun hf => he i H1 (e.trans e1) hi hf)⟩) (fun H' p => q Dl H' (fresh_back e1 p.1) (e1.trans p.2.1) p.2.2)⟩
/-! lists of tuples -/
def Tups (H : Hp) : List V → List (List V) → Prop := Paired fun r t => ∃ a, r = V.ref a ∧ H a = some (.tup t)
theorem Tups.mono {H H' : Hp} (e : Ex H H') : ∀ {rs : List V} {ts : List (List V)}, Tups H rs ts → Tups H' rs ts
  | _, _, .nil => .nil
  | _, _, .cons ⟨a, h1, h2⟩ t => .cons ⟨a, h1, e _ _ h2⟩ (Tups.mono e t)
theorem Tups.app {H : Hp} : ∀ {rs qs : List V} {ts us : List (List V)}, Tups H rs ts → Tups H qs us → Tups H (rs ++ qs) (ts ++ us)
  | _, _, _, _, .nil, s => s
  | _, _, _, _, .cons r t, s => .cons r (Tups.app t s)
theorem Tups.len {H : Hp} : ∀ {rs : List V} {ts : List (List V)}, Tups H rs ts → rs.length = ts.length
  | _, _, .nil => rfl
  | _, _, .cons _ t => by rw [List.length_cons, List.length_cons, Tups.len t]
theorem Tups.get {H : Hp} : ∀ {rs : List V} {ts : List (List V)} {i : Nat} {r : V}, Tups H rs ts → rs[i]? = some r → ∃ a t, r = V.ref a ∧ ts[i]? = some t ∧ H a = some (.tup t)
  | _, _, _, _, .nil, h => by simp at h
  | _, _, 0, r, .cons ⟨a, h1, h2⟩ _, h => ⟨a, _, (Option.some.inj h).symm.trans h1, rfl, h2⟩
  | _, _, i + 1, r, .cons _ t, h => Tups.get (i := i) t h
def EvLT (te : TE) (σ : L2.St) (H : Hp) (ts : List (List V)) : Prop := ∀ H1, Ex H H1 → ∀ Q : VK, (∀ p rs H2, H1 p = none → Ex H1 H2 → H2 p = some (.lst rs) → Tups H2 rs ts → Q (.ref p) H2) → te σ H1 Q
def EvAT (ta : TA) (σ : L2.St) (H : Hp) (ts : List (List V)) : Prop := ∀ H1, Ex H H1 → ∀ Q : List V → Hp → Prop, (∀ rs H2, Ex H1 H2 → Tups H2 rs ts → Q rs H2) → ta σ H1 Q
theorem eat_nil : EvAT tNil σ H [] := fun H1 _ _ q => q [] H1 (Ex.refl H1) .nil
theorem eat_cons {tr : TA} {t : List V} {ts : List (List V)} (h : EvU te σ H t) (hr : EvAT tr σ H ts) : EvAT (tCons te tr) σ H (t :: ts) := fun H1 e _ q =>
  h H1 e _ fun p H2 _ e2 hp => hr H2 (e.trans e2) _ fun rs H3 e3 hs => q _ H3 (e2.trans e3) (.cons ⟨p, rfl, e3 _ _ hp⟩ hs)
theorem elt_lst {ta : TA} {ts : List (List V)} (h : EvAT ta σ H ts) (hz : ts.length ≤ 100000) : EvLT (tLst ta) σ H ts := fun H1 e _ q =>
  h H1 e _ fun rs H2 e2 hs => ⟨sz_of (by rw [hs.len]; exact hz), fun p hp => q p rs _ (fresh_back e2 hp) (e2.trans (Ex.new hp)) upd_same (hs.mono (Ex.new hp))⟩
theorem elt_cat {ta tb : TE} {a : Addr} {rs : List V} {ts us : List (List V)} (ha : Ev ta σ H (.ref a)) (h1 : H a = some (.lst rs)) (h2 : Tups H rs ts) (hb : EvLT tb σ H us) (hz : ts.length + us.length ≤ 100000) : EvLT (tOp rCat ta tb) σ H (ts ++ us) := fun H1 e Q q =>
  ha H1 e _ fun H2 e2 => hb H2 (e.trans e2) _ fun p qs H3 _ e3 hp hq => by
    have e03 := (e.trans e2).trans e3
    refine ⟨a, p, rs, qs, rfl, rfl, e03 _ _ h1, hp, sz_of (by rw [h2.len, hq.len]; exact hz), fun l hl => ?_⟩
    exact q l (rs ++ qs) _ (fresh_back (e2.trans e3) hl) ((e2.trans e3).trans (Ex.new hl)) upd_same (((h2.mono e03).app hq).mono (Ex.new hl))
theorem s_asgLT {i : Nat} {ts : List (List V)} (h : EvLT te σ H ts) (k : ∀ p rs H1, H p = none → Ex H H1 → H1 p = some (.lst rs) → Tups H1 rs ts → D.nx (σ.set i (some (.ref p))) H1) : tAsg te (gName i) D σ H := h H (Ex.refl H) _ fun p rs H1 hp e h1 h2 => k p rs H1 hp e h1 h2
theorem q_asgLT {i : Nat} {ts : List (List V)} (h : EvLT te σ H ts) (k : ∀ p rs H1, H p = none → Ex H H1 → H1 p = some (.lst rs) → Tups H1 rs ts → tz D (σ.set i (some (.ref p))) H1) : tSeq (tAsg te (gName i)) tz D σ H := s_asgLT (D := { D with nx := tz D }) h k
/-- for a, b, .. in a list of tuples: H0 is the heap at the first turn -/
theorem s_forTT {ts : List (List V)} {n : Nat} {gs : TGs} (h : EvLT te σ H ts) (hn : ∀ t ∈ ts, t.length = n) (Pv : Hp → Nat → L2.St → Hp → Prop) (h0 : ∀ H0, Ex H H0 → Pv H0 0 σ H0) (hl : ∀ H0 i σ' H', Pv H0 i σ' H' → Ex H0 H')
    (hs : ∀ H0 i t σ' H', Ex H H0 → ts[i]? = some t → Pv H0 i σ' H' → gs t σ' H' fun σ2 H2 => tu { D with nx := Pv H0 (i + 1), ct := Pv H0 (i + 1), bk := D.nx } σ2 H2) (hd : ∀ H0 σ' H', Ex H H0 → Pv H0 ts.length σ' H' → D.nx σ' H') :
    tFor (iList K te) (gTup K n gs) tu D σ H := h H (Ex.refl H) _ fun p rs H1 _ e h1 h2 => ⟨p, rfl, ⟨rs, sq_of h1⟩, for_list (xs := rs) (Pv H1) (h0 H1 e) (fun i σ' H' _ hp => sq_of (hl H1 i σ' H' hp _ _ h1)) (fun i x σ' H' hx hp => by
      obtain ⟨a, t, rfl, ht, ha⟩ := h2.get hx
      exact ⟨a, t, rfl, st_of (hl H1 i σ' H' hp _ _ ha), hn t (List.mem_of_getElem? ht), hs H1 i t σ' H' e ht hp⟩) (fun σ' H' hp => by
      rw [h2.len] at hp
      exact hd H1 σ' H' e hp)⟩
theorem q_forTT {ts : List (List V)} {n : Nat} {gs : TGs} (h : EvLT te σ H ts) (hn : ∀ t ∈ ts, t.length = n) (Pv : Hp → Nat → L2.St → Hp → Prop) (h0 : ∀ H0, Ex H H0 → Pv H0 0 σ H0) (hl : ∀ H0 i σ' H', Pv H0 i σ' H' → Ex H0 H')
    (hs : ∀ H0 i t σ' H', Ex H H0 → ts[i]? = some t → Pv H0 i σ' H' → gs t σ' H' fun σ2 H2 => tu { D with nx := Pv H0 (i + 1), ct := Pv H0 (i + 1), bk := tz D } σ2 H2) (hd : ∀ H0 σ' H', Ex H H0 → Pv H0 ts.length σ' H' → tz D σ' H') :
    tSeq (tFor (iList K te) (gTup K n gs) tu) tz D σ H := s_forTT (D := { D with nx := tz D }) h hn Pv h0 hl hs hd
theorem elt_old {a : Addr} {rs : List V} {ts : List (List V)} (ha : Ev te σ H (.ref a)) (h1 : H a = some (.lst rs)) (h2 : Tups H rs ts) : ∀ H1, Ex H H1 → ∀ Q : VK, (∀ p rs H2, Ex H1 H2 → H2 p = some (.lst rs) → Tups H2 rs ts → Q (.ref p) H2) → te σ H1 Q := fun H1 e Q q =>
  ha H1 e _ fun H2 e2 => q a rs H2 e2 (e2 _ _ (e _ _ h1)) (h2.mono (e.trans e2))
theorem et_yes : EvT tYes σ H true := fun H1 _ _ q => q H1 (Ex.refl H1)
theorem given_all (n : Nat) (v : Nat → V) : given n (fun _ => true) v = (List.range n).map v := by
  unfold given
  rw [List.filter_eq_self.mpr (fun _ _ => rfl)]
end
end Tf

namespace Tf
open PySem PySem.Spec PyProof.Rows L2 Evl
/-! ### more rules: tuples met, data of any depth, rows by their filters -/
section
variable {K : PySem.W.Frag} {σ : L2.St} {H H' : Hp} {ta tb tc te : TE} {x y z v : V} {xs ys : List V} {D : Ends} {tu tz : TS}
def EvW (K : PySem.W.Frag) (te : TE) (σ : L2.St) (H : Hp) (xs : List V) : Prop := ∀ H1, Ex H H1 → ∀ Q : VK, (∀ p H2, Ex H1 H2 → SqT K H2 p xs → Q (.ref p) H2) → te σ H1 Q
theorem ew_new (h : EvU te σ H xs) : EvW K te σ H xs := fun H1 e Q q => h H1 e Q fun p H2 _ e2 hp => q p H2 e2 (st_of hp)
theorem ew_old {a : Addr} (h : Ev te σ H (.ref a)) (hx : H a = some (.tup xs)) : EvW K te σ H xs := fun H1 e Q q => h H1 e Q fun H2 e2 => q a H2 e2 (st_of (e2 _ _ (e _ _ hx)))
theorem ev_ixW {i : Int} (ha : EvW K ta σ H xs) (hb : Ev tb σ H (.int i)) (hv : atI xs i = some v) : Ev (tOp (rIxT K) ta tb) σ H v := fun H1 e _ q =>
  ha H1 e _ fun a H2 e2 hx => hb H2 (e.trans e2) _ fun H3 e3 => ⟨a, xs, i, v, rfl, rfl, ex_t e3 hx, hv, q H3 (e2.trans e3)⟩
theorem ev_lenW (ha : EvW K ta σ H xs) : Ev (tCB (fun zs H Q => ∃ p ys, zs = [.ref p] ∧ (SqL K H p ys ∨ SqT K H p ys) ∧ Q (.int ys.length) H) (tCons ta tNil)) σ H (vi xs.length) := fun H1 e _ q =>
  ha H1 e _ fun a H2 e2 hx => ⟨a, xs, rfl, .inr hx, q H2 e2⟩
theorem ev_isiU {a : Addr} {c : String} {b : Bool} (ha : Ev ta σ H (.ref a)) (hx : H a = some (.tup xs)) (hb : kitB "tuple" c = some b) : Ev (tCB (rIsi K) (tCons ta (tCons (tC (.ty c)) tNil))) σ H (.bl b) :=
  ev_isi ha (fun _ e => .base (.tup (e _ _ hx))) hb
/-- a, b = [..], y -/
theorem q_parL {i j : Nat} (h : EvL ta σ H xs) (h2 : Ev tb σ H y) (k : ∀ p H1, H p = none → Ex H H1 → H1 p = some (.lst xs) → tz D ((σ.set i (some (.ref p))).set j (some y)) H1) : tSeq (tPar i j (tCons ta (tCons tb tNil))) tz D σ H :=
  h H (Ex.refl H) _ fun p H1 np e1 hp => h2 H1 e1 _ fun H2 e2 => ⟨.ref p, y, rfl, k p H2 np (e1.trans e2) (e2 _ _ hp)⟩
/-! data -/
mutual
theorem dp_mono {H H' : Hp} (e : Ex H H') : ∀ {v : V} {d : PyData}, Dp K H v d → Dp K H' v d
  | _, _, .non => .non
  | _, _, .bl b => .bl b
  | _, _, .int i => .int i
  | _, _, .str x => .str x
  | _, _, .lst h a => .lst (ex_l e h) (dpa_mono e a)
  | _, _, .tup h a => .tup (ex_t e h) (dpa_mono e a)
theorem dpa_mono {H H' : Hp} (e : Ex H H') : ∀ {vs : List V} {ds : List PyData}, DpAll K H vs ds → DpAll K H' vs ds
  | _, _, .nil => .nil
  | _, _, .cons h a => .cons (dp_mono e h) (dpa_mono e a)
end
def EvD (K : PySem.W.Frag) (te : TE) (σ : L2.St) (H : Hp) (d : PyData) : Prop := ∀ H1, Ex H H1 → ∀ Q : VK, (∀ v H2, Ex H1 H2 → Dp K H2 v d → Q v H2) → te σ H1 Q
def EvDA (K : PySem.W.Frag) (ta : TA) (σ : L2.St) (H : Hp) (ds : List PyData) : Prop := ∀ H1, Ex H H1 → ∀ Q : List V → Hp → Prop, (∀ vs H2, Ex H1 H2 → DpAll K H2 vs ds → Q vs H2) → ta σ H1 Q
theorem dpa_len : ∀ {vs : List V} {ds : List PyData}, DpAll K H vs ds → vs.length = ds.length
  | _, _, .nil => rfl
  | _, _, .cons _ a => by rw [List.length_cons, List.length_cons, dpa_len a]
theorem ed_v {d : PyData} (h : Ev te σ H v) (hd : ∀ H1, Ex H H1 → Dp K H1 v d) : EvD K te σ H d := fun H1 e Q q => h H1 e Q fun H2 e2 => q v H2 e2 (hd H2 (e.trans e2))
theorem ed_int {i : Int} (h : Ev te σ H (.int i)) : EvD K te σ H (.int i) := ed_v h fun _ _ => .int i
theorem ed_bl {b : Bool} (h : Ev te σ H (.bl b)) : EvD K te σ H (.bool b) := ed_v h fun _ _ => .bl b
theorem ed_non (h : Ev te σ H .non) : EvD K te σ H .none := ed_v h fun _ _ => .non
theorem ed_q {ds : List PyData} (h : EvQ K te σ H xs) (hd : ∀ H1, Ex H H1 → DpAll K H1 xs ds) : EvD K te σ H (.list ds) := fun H1 e Q q => h H1 e Q fun p H2 e2 hp => q _ H2 e2 (.lst hp (hd H2 (e.trans e2)))
theorem ed_w {ds : List PyData} (h : EvW K te σ H xs) (hd : ∀ H1, Ex H H1 → DpAll K H1 xs ds) : EvD K te σ H (.tuple ds) := fun H1 e Q q => h H1 e Q fun p H2 e2 hp => q _ H2 e2 (.tup hp (hd H2 (e.trans e2)))
theorem eda_nil : EvDA K tNil σ H [] := fun H1 _ _ q => q [] H1 (Ex.refl H1) .nil
theorem eda_cons {tr : TA} {d : PyData} {ds : List PyData} (h : EvD K te σ H d) (hr : EvDA K tr σ H ds) : EvDA K (tCons te tr) σ H (d :: ds) := fun H1 e _ q =>
  h H1 e _ fun v H2 e2 hv => hr H2 (e.trans e2) _ fun vs H3 e3 hs => q _ H3 (e2.trans e3) (.cons (dp_mono e3 hv) hs)
theorem ed_lst {ta : TA} {ds : List PyData} (h : EvDA K ta σ H ds) (hz : ds.length ≤ 100000) : EvD K (tLst ta) σ H (.list ds) := fun H1 e _ q =>
  h H1 e _ fun vs H2 e2 hs => ⟨sz_of (by rw [dpa_len hs]; exact hz), fun p hp => q _ _ (e2.trans (Ex.new hp)) (.lst (sq_of upd_same) (dpa_mono (Ex.new hp) hs))⟩
theorem ed_tup {ta : TA} {ds : List PyData} (h : EvDA K ta σ H ds) (hz : ds.length ≤ 100000) : EvD K (tTup ta) σ H (.tuple ds) := fun H1 e _ q =>
  h H1 e _ fun vs H2 e2 hs => ⟨sz_of (by rw [dpa_len hs]; exact hz), fun p hp => q _ _ (e2.trans (Ex.new hp)) (.tup (st_of upd_same) (dpa_mono (Ex.new hp) hs))⟩
theorem ev_eqD {d e : PyData} {b : Bool} (ha : EvD K ta σ H d) (hb : EvD K tb σ H e) (h1 : SeqAt.shaped d = true) (h2 : SeqAt.shaped e = true) (h : PyData.eqv d e = b) : Ev (tOp (rEqD K) ta tb) σ H (.bl b) := fun H1 e1 Q q =>
  ha H1 e1 _ fun v H2 e2 hv => hb H2 (e1.trans e2) _ fun u H3 e3 hu => ⟨d, e, dp_mono e3 hv, hu, h1, h2, by rw [h]; exact q H3 (e2.trans e3)⟩
theorem ev_neD {d e : PyData} {b : Bool} (ha : EvD K ta σ H d) (hb : EvD K tb σ H e) (h1 : SeqAt.shaped d = true) (h2 : SeqAt.shaped e = true) (h : PyData.eqv d e = b) : Ev (tOp (rNeD K) ta tb) σ H (.bl (!b)) := fun H1 e1 Q q =>
  ha H1 e1 _ fun v H2 e2 hv => hb H2 (e1.trans e2) _ fun u H3 e3 hu => ⟨d, e, dp_mono e3 hv, hu, h1, h2, by rw [h]; exact q H3 (e2.trans e3)⟩
/-! a pair of ints -/
theorem dp_pair {i j : Int} : DpAll K H [.int i, .int j] [.int i, .int j] := .cons (.int i) (.cons (.int j) .nil)
theorem ev_eqP {i j i' j' : Int} (ha : EvW K ta σ H [.int i, .int j]) (hb : EvW K tb σ H [.int i', .int j']) : Ev (tOp (rEqD K) ta tb) σ H (.bl (decide (i = i') && decide (j = j'))) := by
  refine ev_eqD (ed_w ha fun _ _ => dp_pair) (ed_w hb fun _ _ => dp_pair) ?_ ?_ ?_
  · simp [SeqAt.shaped, PyData.canLay0, PyData.canLayAll0, PyData.depth, PyData.depthAll]
  · simp [SeqAt.shaped, PyData.canLay0, PyData.canLayAll0, PyData.depth, PyData.depthAll]
  · by_cases h1 : i = i' <;> by_cases h2 : j = j' <;> simp [PyData.eqv, PyData.eqvAll, h1, h2]
/-! rows by a filter -/
theorem getD_range (ns : List Nat) : (List.range ns.length).map (fun i => ns.getD i 0) = ns := by
  apply List.ext_getElem
  · rw [List.length_map, List.length_range]
  · intro i h1 h2
    rw [List.getElem_map, List.getElem_range]
    simp [h2]
theorem getD_of {ns : List Nat} {i d : Nat} (h : ns[i]? = some d) : ns.getD i 0 = d := by
  rw [List.getD_eq_getElem?_getD, h]
  rfl
theorem given_filter (ns : List Nat) (p : Nat → Bool) : given (vl ns).length (fun i => p (ns.getD i 0)) (fun i => vi (ns.getD i 0)) = vl (ns.filter p) := by
  unfold given
  rw [List.length_map]
  show _ = (ns.filter p).map vi
  conv => rhs; rw [← getD_range ns, List.filter_map, List.map_map]
  rfl
theorem given_map (ns : List Nat) (g : Nat → V) : given (vl ns).length (fun _ => true) (fun i => g (ns.getD i 0)) = ns.map g := by
  rw [given_all, List.length_map]
  conv => rhs; rw [← getD_range ns, List.map_map]
  rfl
end
end Tf
namespace Tf
open PySem PySem.Spec PyProof.Rows L2 Evl
section
variable {K : PySem.W.Frag} {σ : L2.St} {H H' : Hp} {ta : TA} {te : TE} {x y z v : V} {xs ys : List V} {D : Ends} {tu tz : TS}
/-- a, b = x, y where one of the names is a cell: a tuple is made -/
theorem q_unp {i j : Nat} (h : EvA ta σ H [x, y]) (k : ∀ H1, Ex H H1 → tz D ((σ.set i (some x)).set j (some y)) H1) : tSeq (tAsg (tTup ta) (gTup K 2 (gCons (gName i) (gCons (gName j) gNil)))) tz D σ H :=
  h H (Ex.refl H) _ fun H1 e1 => ⟨sz_of (show 2 ≤ 100000 by decide), fun p hp => ⟨p, [x, y], rfl, st_of upd_same, rfl, x, [y], rfl, y, [], rfl, rfl, k _ (e1.trans (Ex.new hp))⟩⟩
end
end Tf
namespace Tf
open PySem PySem.Spec PyProof.Rows L2 Evl
theorem ev_neP {K : PySem.W.Frag} {σ : L2.St} {H : Hp} {ta tb : TE} {i j i' j' : Int} (ha : EvW K ta σ H [.int i, .int j]) (hb : EvW K tb σ H [.int i', .int j']) : Ev (tOp (rNeD K) ta tb) σ H (.bl (!(decide (i = i') && decide (j = j')))) := by
  refine ev_neD (ed_w ha fun _ _ => dp_pair) (ed_w hb fun _ _ => dp_pair) ?_ ?_ ?_
  · simp [SeqAt.shaped, PyData.canLay0, PyData.canLayAll0, PyData.depth, PyData.depthAll]
  · simp [SeqAt.shaped, PyData.canLay0, PyData.canLayAll0, PyData.depth, PyData.depthAll]
  · by_cases h1 : i = i' <;> by_cases h2 : j = j' <;> simp [PyData.eqv, PyData.eqvAll, h1, h2]
end Tf

namespace Tf
open PySem PySem.Spec PyProof.Rows L2 Evl
/-! ### objects -/
section
variable {X : Cx} {C : Addr} {x : Str} {p pos : Pos}
/-- a choice of two readings of one expression -/
def tEi (t u : TE) : TE := fun σ H Q => t σ H Q ∨ u σ H Q
theorem pe_ei {e : Expr} {t u : TE} (h : PE X e t) (g : PE X e u) : PE X e (tEi t u) := ⟨fun pins s σ H Q I q => q.elim (h.run pins s σ H Q I) (g.run pins s σ H Q I)⟩
/-- C() of a class that has no __init__ of its own -/
structure Bare (K : PySem.W.Frag) (C : Addr) : Prop where
  makes : PySem.W.makesIn K C = true
  init : PySem.W.findIn K (.ref C) "__init__" = some (some (.builtin "object.__init__"))
  top : PySem.W.mroIn K C (.type "object") = some true
  kp : PySem.W.keepIn K (.ref C) = true
def tBare (C : Addr) : TE := fun _ H Q => ∀ x dx, H x = none → H dx = none → dx ≠ x → Q (.ref x) (upd (upd H dx (.own x)) x (.ins C dx []))
theorem run_bare {pins : List (Addr × Obj)} {σ : L2.St} {H : Hp} {s : Shared} {Q : VK} (B : Bare X.K C) (I : Inv X pins σ H s) (h : tBare C σ H Q) : wpAny (model X.prog X.w) X.A (call (.ref C) []) (EP X pins σ Q) X.xe s := by
  have hq := h (s.heap.objs.size + 1) s.heap.objs.size (I.hok.fresh (Nat.le_succ _)) (I.hok.fresh (Nat.le_refl _)) (Nat.ne_of_lt (Nat.lt_succ_self _))
  have J := Inv.made (C := C) I
  have at1 : ((s.heap.push PySem.W.emptyDict).push (PySem.W.instObj C s.heap.objs.size)).get? (s.heap.objs.size + 1) = some (PySem.W.instObj C s.heap.objs.size) := by
    have z := Heap.get?_push_size (s.heap.push PySem.W.emptyDict) (o := PySem.W.instObj C s.heap.objs.size) rfl
    rwa [Heap.size_push] at z
  have t1 : PySem.W.Looks (model X.prog X.w) ((s.heap.push PySem.W.emptyDict).push (PySem.W.instObj C s.heap.objs.size)) (typeOf (.ref (s.heap.objs.size + 1))) (.ref C) := NwA.type_at at1 rfl
  have t2 : PySem.W.Looks (model X.prog X.w) ((s.heap.push PySem.W.emptyDict).push (PySem.W.instObj C s.heap.objs.size)) (isInstance (.ref (s.heap.objs.size + 1)) (.type "object")) true := t1.andThen (PySem.W.looks_mroIn J.kIn B.top)
  refine wpAny_call (make_map0 I.kIn B.makes B.init (fun self => PySem.W.Looks.of_pure (PySem.W.oi_bind self)) ?_)
  refine codeAny_call_builtin PySem.W.oi_plain PySem.W.entry_oi (PySem.W.check_slot PySem.W.oi_kind PySem.W.oi_split t2 (NwA.oi_args_any _ [] []) ?_)
  rw [PySem.W.oi_run]
  exact wpAny_pure ⟨rfl, V.ref (s.heap.objs.size + 1), _, J, rfl, hq⟩
theorem pe_bare (B : Bare X.K C) (hg : Gl X x) (hm : X.mg x = some (.ref C)) (hdb : (x == ("__debug__" : Str)) = false := by decide) : PE X (.Call (.Name x p) [] [] pos) (tBare C) :=
  ⟨fun _ _ _ _ _ I h => wpAny_Call_Name_kw (ld_glob I hg hm (PySem.W.callWith_K0 I.kIn B.kp (run_bare B I h)) hdb)⟩
end
section
variable {K : PySem.W.Frag} {σ : L2.St} {H H' : Hp} {ta tb te : TE} {t : TA} {x y z v : V} {vs xs ys : List V} {D : Ends} {tu tz : TS} {C C' : Addr} {fs : List (Str × V)}
theorem ev_l (h : Ev ta σ H v) : Ev (tEi ta tb) σ H v := fun H1 e Q q => .inl (h H1 e Q q)
theorem ev_r (h : Ev tb σ H v) : Ev (tEi ta tb) σ H v := fun H1 e Q q => .inr (h H1 e Q q)
/-- a new instance -/
def EvI (te : TE) (σ : L2.St) (H : Hp) (C : Addr) (fs : List (Str × V)) : Prop := ∀ H1, Ex H H1 → ∀ Q : VK, (∀ p dx H2, H1 p = none → Ex H1 H2 → H2 p = some (.ins C dx fs) → Q (.ref p) H2) → te σ H1 Q
/-- an instance met -/
def EvJ (te : TE) (σ : L2.St) (H : Hp) (C : Addr) (fs : List (Str × V)) : Prop := ∀ H1, Ex H H1 → ∀ Q : VK, (∀ p dx H2, Ex H1 H2 → H2 p = some (.ins C dx fs) → Q (.ref p) H2) → te σ H1 Q
theorem ej_new (h : EvI te σ H C fs) : EvJ te σ H C fs := fun H1 e Q q => h H1 e Q fun p dx H2 _ e2 hp => q p dx H2 e2 hp
theorem ej_old {a dx : Addr} (h : Ev te σ H (.ref a)) (hx : H a = some (.ins C dx fs)) : EvJ te σ H C fs := fun H1 e Q q => h H1 e Q fun H2 e2 => q a dx H2 e2 (e2 _ _ (e _ _ hx))
theorem ei_bare : EvI (tBare C) σ H C [] := fun H1 _ Q q x dx nx ndx ne => q x dx _ nx ((Ex.new ndx).trans (Ex.new (by rw [upd_ne (Ne.symm ne)]; exact nx))) upd_same
/-- what an __init__ that stores its one argument promises -/
def spInit1 (C : Addr) (f : Str) : Sp := fun vs H Q _ => ∃ (p dx : Addr) (v : V), vs = [.ref p, v] ∧ H p = some (.ins C dx []) ∧ Q .non (upd H p (.ins C dx [(f, v)]))
theorem ei_make {f : Str} (h : Ev ta σ H v) : EvI (tMake C (spInit1 C f) [] E0 (tCons ta tNil)) σ H C [(f, v)] := fun H1 e Q q => h H1 e _ fun H2 e2 x dx nx ndx ne => by
  refine ⟨x, dx, v, rfl, upd_same, rfl, q x dx _ (fresh_back e2 nx) ?_ upd_same⟩
  exact Ex.mut (Ex.mut (Ex.trans e2 (Ex.new ndx)) (fresh_back e2 nx)) (fresh_back e2 nx)
theorem ev_methJ {m : Str} {R : List V → Hp → V → Prop} (h : EvJ te σ H C fs) (hl : fs.lookup m = none) (ha : EvA t σ H vs) (hR : ∀ p dx H1, Ex H H1 → H1 p = some (.ins C dx fs) → R (.ref p :: vs) H1 v) : Ev (tMeth C m (spV R) [] E0 te t) σ H v := fun H1 e Q q =>
  h H1 e _ fun p dx H2 e2 hp => ⟨p, dx, fs, rfl, hp, hl, ha H2 (e.trans e2) _ fun H3 e3 => ⟨v, by rw [List.append_nil]; exact hR p dx H3 ((e.trans e2).trans e3) (e3 _ _ hp), fun H4 e4 => q H4 ((e2.trans e3).trans e4)⟩⟩
theorem ev_fldJ {f : Str} (h : EvJ te σ H C fs) (c : Cls K C) (n : NoAttr K C f) (hl : fs.lookup f = some v) : Ev (tFld K te f) σ H v := fun H1 e Q q => h H1 e _ fun p dx H2 e2 hp => ⟨p, C, dx, fs, v, rfl, hp, c, n, hl, q H2 e2⟩
/-- the facts of a class -/
structure Kls (K : PySem.W.Frag) (mg : Str → Option Value) (x : Str) (C : Addr) : Prop where
  g : mg x = some (.ref C)
  cl : Cls K C
  ha : PySem.W.findIn K (.ref C) "__class__" = some (some (.builtin "object.__class__"))
  hn : PySem.W.specialIn K (.builtin "object.__class__") "__get__" = some (some (.builtin "getset_descriptor.__get__"))
  htk : PySem.W.takesIn K (.builtin "object.__class__") = some true
  hm : PySem.W.mroIn K C (.type "object") = some true
theorem Kls.ty {mg : Str → Option Value} {n : Str} {a dx : Addr} (k : Kls K mg n C) (h : H a = some (.ins C dx fs)) : TyX K H (.ref a) (.ref C) := .base (.ins h k.cl k.ha k.hn k.htk k.hm)
theorem ev_isiJ {mg : Str → Option Value} {n : Str} {b : Bool} (h : EvJ te σ H C fs) (k : Kls K mg n C) (hb : PySem.W.kitOne K (.ref C) (.ref C') = some b) : Ev (tCB (rIsi K) (tCons te (tCons (tC (.ref C')) tNil))) σ H (.bl b) := fun H1 e _ q =>
  h H1 e _ fun p dx H2 e2 hp => ⟨.ref p, .ref C', _, _, b, rfl, .own C', k.ty hp, hb, q H2 e2⟩
theorem q_asgI {i : Nat} (h : EvI te σ H C fs) (k : ∀ p dx H1, H p = none → Ex H H1 → H1 p = some (.ins C dx fs) → tz D (σ.set i (some (.ref p))) H1) : tSeq (tAsg te (gName i)) tz D σ H := h H (Ex.refl H) _ fun p dx H1 hp e h1 => k p dx H1 hp e h1
theorem s_retI (h : EvI te σ H C fs) (k : ∀ p dx H1, H p = none → Ex H H1 → H1 p = some (.ins C dx fs) → D.rt (.ref p) H1) : tRet te D σ H := h H (Ex.refl H) _ k
/-- is of a truth -/
theorem ev_orL (h : Ev ta σ H v) : Ev (tEi ta tb) σ H v := ev_l h
end
end Tf
namespace Tf
open PySem PySem.Spec PyProof.Rows L2 Evl
/-! a method, a class that is made, by their promises -/
structure HasM (P : Program) (w : World) (K : PySem.W.Frag) (mg : Str → Option Value) (base : Heap) (C : Addr) (m : Str) (ps : List Str) (k : Nat) (sp : Sp) : Prop where
  ex : ∃ (f : Addr) (fd : FuncData), Meth K C m f ∧ Binds K fd ps [] ∧ FnOk P w K mg base CX0 k f fd ps sp
  cl : Cls K C
theorem pe_mth {X : Cx} {C : Addr} {m : Str} {ps : List Str} {j k : Nat} {sp : Sp} {apos pos : Pos} {o e : Expr} {es : List Expr} {ta : TE} {t : TA} {pl : Sem Bool} (h : HasM X.prog X.w X.K X.mg X.base C m ps k sp) (hr : Room j X.A) (he : PE X o ta) (ha : PA X (e :: es) t) (hk : k ≤ j := by decide)
    (hst : starEach (e :: es) X.env = (false, eval e X.env) :: starEach es X.env := by rfl) (hpl : (backTo pos (starEach es X.env)).any (·.1) = false := by rfl)
    (ht : eval (.Call (.Attribute o m apos) (e :: es) [] pos) X.env = (do
      let ov ← eval o X.env
      standAt apos.atName
      let (f, first) ← holding [ov] (getMethod ov m pl)
      callWith pos f first (backTo pos (starEach (e :: es) X.env)) (backToKw pos (keywordEach [] X.env))) := by rfl) : PE X (.Call (.Attribute o m apos) (e :: es) [] pos) (tMeth C m sp [] E0 ta t) := by
  obtain ⟨f, fd, me, b, F⟩ := h.ex
  exact pe_meth he h.cl me F (hr.mono hk) b .nil pass0 ha hst hpl ht
structure HasMk (P : Program) (w : World) (K : PySem.W.Frag) (mg : Str → Option Value) (base : Heap) (x : Str) (C : Addr) (ps : List Str) (k : Nat) (sp : Sp) : Prop where
  ex : ∃ (f : Addr) (fd : FuncData), Mk K C f ∧ Binds K fd ps [] ∧ FnOk P w K mg base CX0 k f fd ps sp
  g : mg x = some (.ref C)
theorem pe_mk {X : Cx} {x : Str} {C : Addr} {ps : List Str} {j k : Nat} {sp : Sp} {p pos : Pos} {e : Expr} {es : List Expr} {t : TA} (h : HasMk X.prog X.w X.K X.mg X.base x C ps k sp) (hr : Room j X.A) (hg : Gl X x) (ha : PA X (e :: es) t) (hk : k + 1 ≤ j := by decide)
    (hdb : (x == ("__debug__" : Str)) = false := by decide) (he : starEach (e :: es) X.env = (false, eval e X.env) :: starEach es X.env := by rfl) (hpl : (backTo pos (starEach es X.env)).any (·.1) = false := by rfl) : PE X (.Call (.Name x p) (e :: es) [] pos) (tMake C sp [] E0 t) := by
  obtain ⟨f, fd, M, b, F⟩ := h.ex
  exact pe_make M F (hr.mono hk) hg h.g b .nil pass0 ha hdb he hpl
section
variable {K : PySem.W.Frag} {σ : L2.St} {H H' : Hp} {ta tb te : TE} {t : TA} {x y z v : V} {vs xs ys : List V} {C C' : Addr} {fs : List (Str × V)}
theorem ev_min {ns : List Nat} {m : Nat} (h : EvQ K ta σ H (vl ns)) (hm : m ∈ ns) (hl : ∀ y ∈ ns, m ≤ y) : Ev (tCB (rMin K) (tCons ta tNil)) σ H (vi m) := fun H1 e Q q =>
  h H1 e _ fun a H2 e2 hx => by
    rw [vl_ints] at hx
    refine ⟨a, _, rfl, hx, ?_, fun k hk hle => ?_⟩
    · rw [List.length_map]
      exact List.length_pos_of_mem hm
    · obtain ⟨n, hn, rfl⟩ := List.mem_map.mp hk
      have h1 := hl n hn
      have h2 := hle _ (List.mem_map.mpr ⟨m, hm, rfl⟩)
      have e3 : n = m := by omega
      rw [e3]
      exact q H2 e2
theorem ev_index {j : Nat} (h : EvQ K ta σ H xs) (hb : Ev tb σ H y) (fy : flatV y = true) (fx : xs.all flatV = true) (hj : xs[j]? = some z) (hz : eqV z y = true) (hno : ∀ (m : Nat) (z' : V), m < j → xs[m]? = some z' → eqV z' y = false) :
    Ev (tBM K "list" (rIndex K) ta (tCons tb tNil)) σ H (vi j) := fun H1 e Q q => h H1 e _ fun a H2 e2 hx => ⟨Or.inl ⟨rfl, xs, hx⟩, hb H2 (e.trans e2) _ fun H3 e3 => ⟨a, xs, y, j, z, rfl, rfl, ex_l e3 hx, fy, fx, hj, hz, hno, q H3 (e2.trans e3)⟩⟩
theorem rv_notB {a b : Bool} : RV rNotB (.bl a) (.bl b) H (.bl (!decide (a = b))) := fun H1 _ _ q => ⟨a, b, rfl, rfl, q H1 (Ex.refl H1)⟩
theorem rv_isB {a b : Bool} : RV rIsB (.bl a) (.bl b) H (.bl (decide (a = b))) := fun H1 _ _ q => ⟨a, b, rfl, rfl, q H1 (Ex.refl H1)⟩
def RetI (C : Addr) (fs : List (Str × V)) (H : Hp) (Q : VK) : Prop := ∀ p dx H2, H p = none → Ex H H2 → H2 p = some (.ins C dx fs) → Q (.ref p) H2
theorem ei_call {sp : Sp} (h : EvA t σ H vs) (hs : ∀ H1 Q E, Ex H H1 → RetI C fs H1 Q → sp vs H1 Q E) : EvI (tCall sp [] E0 t) σ H C fs := fun H1 e Q q =>
  h H1 e _ fun H2 e2 => by
    rw [List.append_nil]
    exact hs H2 Q E0 (e.trans e2) fun p dx H3 hp e3 h3 => q p dx H3 (fresh_back e2 hp) (e2.trans e3) h3
end
end Tf
namespace Tf
open PySem PySem.Spec PyProof.Rows L2 Evl
structure Kits (K : PySem.W.Frag) (CA CT CN : Addr) : Prop where
  ta : PySem.W.kitOne K (.ref CT) (.ref CA) = some true
  na : PySem.W.kitOne K (.ref CN) (.ref CA) = some true
  tt : PySem.W.kitOne K (.ref CT) (.ref CT) = some true
  tn : PySem.W.kitOne K (.ref CT) (.ref CN) = some false
  nt : PySem.W.kitOne K (.ref CN) (.ref CT) = some false
  nn : PySem.W.kitOne K (.ref CN) (.ref CN) = some true
theorem shaped_bb (a b : Bool) : SeqAt.shaped (.list [.bool a, .bool b]) = true := by
  simp [SeqAt.shaped, PyData.canLay0, PyData.canLayAll0, PyData.depth, PyData.depthAll]
theorem eqv_bb (a b c d : Bool) : PyData.eqv (.list [.bool a, .bool b]) (.list [.bool c, .bool d]) = (decide (a = c) && decide (b = d)) := by
  cases a <;> cases b <;> cases c <;> cases d <;> simp [PyData.eqv, PyData.eqvAll]
theorem int_lt {x : Nat} (h : x < 2 ^ 50000) : ((x : Nat) : Int) < 2 ^ 50000 := by exact_mod_cast h
end Tf
namespace Tf
open PySem PySem.Spec PyProof.Rows L2 Evl
theorem kit_by {K : PySem.W.Frag} {C D : Addr} {v : Bool} (h1 : PySem.W.isClsIn K D = true) (h2 : PySem.W.typeIn K (.ref D) = some (.type "type")) (h3 : PySem.W.subIn K (.ref C) (.ref D) = some v) (h4 : C = D → v = true) : PySem.W.kitOne K (.ref C) (.ref D) = some v := by
  unfold PySem.W.kitOne
  split
  · rename_i h
    have e : Value.ref C = Value.ref D := eq_of_beq h
    rw [h4 (Value.ref.inj e)]
  · have e1 : (PySem.W.clsIn K D).isSome = true := h1
    show (if ((PySem.W.clsIn K D).isSome && PySem.W.typeIn K (.ref D) == some (.type "type")) = true then PySem.W.subIn K (.ref C) (.ref D) else none) = some v
    rw [e1, h2, if_pos (by rfl)]
    exact h3
theorem kits_by {K : PySem.W.Frag} {CA CT CN : Addr} (iA : PySem.W.isClsIn K CA = true) (iT : PySem.W.isClsIn K CT = true) (iN : PySem.W.isClsIn K CN = true) (yA : PySem.W.typeIn K (.ref CA) = some (.type "type")) (yT : PySem.W.typeIn K (.ref CT) = some (.type "type")) (yN : PySem.W.typeIn K (.ref CN) = some (.type "type"))
    (ta : PySem.W.subIn K (.ref CT) (.ref CA) = some true) (na : PySem.W.subIn K (.ref CN) (.ref CA) = some true) (tt : PySem.W.subIn K (.ref CT) (.ref CT) = some true) (tn : PySem.W.subIn K (.ref CT) (.ref CN) = some false) (nt : PySem.W.subIn K (.ref CN) (.ref CT) = some false) (nn : PySem.W.subIn K (.ref CN) (.ref CN) = some true) : Kits K CA CT CN := by
  have ne : CT ≠ CN := fun e => by
    rw [e, nn] at tn
    cases tn
  exact ⟨kit_by iA yA ta fun _ => rfl, kit_by iA yA na fun _ => rfl, kit_by iT yT tt fun _ => rfl, kit_by iN yN tn fun e => absurd e ne, kit_by iT yT nt fun e => absurd e.symm ne, kit_by iN yN nn fun _ => rfl⟩
end Tf
namespace Tf
open PySem PySem.Spec PyProof.Rows L2 Evl
section
variable {K : PySem.W.Frag} {σ : L2.St} {H : Hp} {ta te : TE} {xs ys : List V} {D : Ends} {tz : TS}
/-- xs.extend([..]) -/
theorem q_ext {l : Addr} (hl : H l = some (.lst xs)) (ha : Ev ta σ H (.ref l)) (h : EvL te σ H ys) (hz : xs.length + ys.length ≤ 100000) (k : ∀ H1, Ex H H1 → tz D σ (upd H1 l (.lst (xs ++ ys)))) : tSeq (tDrop (tBM K "list" rExtend ta (tCons te tNil))) tz D σ H :=
  ha H (Ex.refl H) _ fun H1 e1 => ⟨Or.inl ⟨rfl, xs, sq_of (e1 _ _ hl)⟩, h H1 e1 _ fun p H2 _ e2 hp => ⟨l, p, xs, ys, rfl, rfl, e2 _ _ (e1 _ _ hl), hp, sz_of hz, k H2 (e1.trans e2)⟩⟩
end
end Tf
namespace Tf
open PySem PySem.Spec PyProof.Rows L2 Evl
section
variable {K : PySem.W.Frag} {σ : L2.St} {H : Hp} {ta te : TE} {xs ys : List V} {D : Ends} {tu tz : TS}
theorem lt_of_nodup : ∀ {l : List Int}, l.Pairwise (· ≤ ·) → l.Nodup → l.Pairwise (· < ·)
  | [], _, _ => .nil
  | x :: l, p, n => by
    rw [List.pairwise_cons] at p
    rw [List.nodup_cons] at n
    refine List.pairwise_cons.mpr ⟨fun y hy => ?_, lt_of_nodup p.2 n.2⟩
    have h1 := p.1 y hy
    have h2 : x ≠ y := fun e => n.1 (by rw [e]; exact hy)
    omega
/-- sorted(xs) of a rising row is a row like it -/
theorem el_sorted {ns : List Int} (rise : ∀ {as bs : List Int}, as.Pairwise (· < ·) → bs.Pairwise (· < ·) → (∀ x, x ∈ as ↔ x ∈ bs) → as = bs) (ha : EvQ K ta σ H (ns.map V.int)) (hp : ns.Pairwise (· < ·)) : EvL (tCB (rSortedI K) (tCons ta tNil)) σ H (ns.map V.int) := fun H1 e Q q =>
  ha H1 e _ fun a H2 e2 hx => ⟨a, ns, rfl, hx, fun ms p hm hs np => by
    have nd : ns.Nodup := List.Pairwise.imp (fun h => by omega) hp
    have em : ms = ns := rise (lt_of_nodup hs (hm.nodup_iff.mpr nd)) hp fun x => hm.mem_iff
    rw [em]
    exact q p _ (fresh_back e2 np) (e2.trans (Ex.new np)) upd_same⟩
/-- for a, b, .. in a list of tuples that stands -/
theorem q_forTO {a : Addr} {rs : List V} {ts : List (List V)} {n : Nat} {gs : TGs} (h : Ev te σ H (.ref a)) (h1 : H a = some (.lst rs)) (h2 : Tups H rs ts) (hn : ∀ t ∈ ts, t.length = n) (Pv : Nat → L2.St → Hp → Prop) (h0 : ∀ H1, Ex H H1 → Pv 0 σ H1) (hl : ∀ i σ' H', Pv i σ' H' → Ex H H')
    (hs : ∀ i t σ' H', ts[i]? = some t → Pv i σ' H' → gs t σ' H' fun σ2 H2 => tu { D with nx := Pv (i + 1), ct := Pv (i + 1), bk := tz D } σ2 H2) (hd : ∀ σ' H', Pv ts.length σ' H' → tz D σ' H') :
    tSeq (tFor (iList K te) (gTup K n gs) tu) tz D σ H := h H (Ex.refl H) _ fun H1 e => ⟨a, rfl, ⟨rs, sq_of (e _ _ h1)⟩, for_list (xs := rs) Pv (h0 H1 e) (fun i σ' H' _ hp => sq_of (hl i σ' H' hp _ _ h1)) (fun i x σ' H' hx hp => by
      obtain ⟨b, t, rfl, ht, hb⟩ := h2.get hx
      exact ⟨b, t, rfl, st_of (hl i σ' H' hp _ _ hb), hn t (List.mem_of_getElem? ht), hs i t σ' H' ht hp⟩) (fun σ' H' hp => by
      rw [h2.len] at hp
      exact hd σ' H' hp)⟩
end
end Tf

namespace Tf
open PySem PySem.Spec PyProof.Rows L2 Evl
/-! ### lambdas of one parameter that capture nothing -/
/-- a lambda's text -/
structure Lam where
  q : Str
  params : Arguments
  body : Expr
  scope : Scope
def LamF (L : Lam) (f c : Addr) : HO := .ext fun h => ∃ pm ctv : Value, h.get? f = some (PySem.W.kla_obj "<lambda>" L.q L.params L.body L.scope [] pm c ctv)
/-- at f stands a function that was made of L -/
def IsLam (H : Hp) (L : Lam) (f : Addr) : Prop := ∃ c, H f = some (LamF L f c) ∧ H c = some (LamX.CodeO c L.q)
theorem lamF_ne {L : Lam} {f c : Addr} (ps : Array Value) : LamF L f c ≠ .tbl ps := fun z => by
  unfold LamF at z
  cases z
theorem IsLam.ex {H H' : Hp} {L : Lam} {f : Addr} (e : Ex H H') (h : IsLam H L f) : IsLam H' L f := by
  obtain ⟨c, h1, h2⟩ := h
  exact ⟨c, e _ _ h1, e _ _ h2⟩
theorem IsLam.extN {H H' : Hp} {L : Lam} {f : Addr} (e : LamX.ExtN H H') (h : IsLam H L f) : IsLam H' L f := by
  obtain ⟨c, h1, h2⟩ := h
  exact ⟨c, e _ _ h1 lamF_ne, e _ _ h2 LamX.codeO_ne⟩
/-- L, called, keeps the promise sp -/
def LamOk (P : Program) (w : World) (K : PySem.W.Frag) (mg : Str → Option Value) (base : Heap) (k : Nat) (L : Lam) (sp : Sp) : Prop :=
  ∀ (A : Around) (outer : List Env) (s : Shared) (H : Hp) (us : List Value) (vs : List V) (Q : VK) (E : XK) (f : Addr), Room k A → Env0 P w K mg base A outer s H → IsLam H L f → Vals vs us → sp vs H Q E →
    codeAny (model P w) A (.call (.ref f) ⟨us, []⟩) (CR (L2N.CX P w) outer P w H s Q E) s
theorem lam_ok {P : Program} {w : World} {K : PySem.W.Frag} {mg : Str → Option Value} {base : Heap} {k : Nat} {L : Lam} {sp : Sp} {N ps : List Str} (S : FnScope N ps L.scope) (len : ∀ vs H Q E, sp vs H Q E → vs.length = ps.length)
    (bind : ∀ (pm cv ctv : Value) (us : List Value), us.length = ps.length → bindArgs (PySem.W.kla_fn "<lambda>" L.q L.params L.body L.scope [] pm cv ctv) ⟨us, []⟩ = pure (ps.zip us))
    (hbody : ∀ (A : Around) (outer : List Env) (s : Shared) (H : Hp) (vs : List V) (Q : VK) (E : XK) (f c : Addr), Room k (A.deeper (envOfC L.q L.scope s.heap.objs.size f (.ref c))) → sp vs H Q E →
      ∃ t, PE (cxOf (L2N.CX P w) P w K mg base N L.q L.scope f (.ref c) A outer s H E) L.body t ∧ t (L2.start N vs) H Q) : LamOk P w K mg base (k + 1) L sp := by
  intro A outer s H us vs Q E f hr e0 hL r hsp
  obtain ⟨c, hf, hc⟩ := hL
  obtain ⟨⟨pm, ctv, of⟩, _⟩ := e0.hok f _ hf
  obtain ⟨⟨oc, ws, t0, hoc, hdc, hvc⟩, _⟩ := e0.hok c _ hc
  have hl := len _ _ _ _ hsp
  have hlu : us.length = ps.length := by rw [← r.length]; exact hl
  have lim : s.heap.NoLimit := e0.mod.nolimit.keeps fun b o e => (e0.bs b o e).1
  have kinds : ∀ y ∈ ps.zip us, L.scope.names.lookup y.1 = some .local ∨ (L.scope.names.lookup y.1 = some .cell ∧ ((cellsFrom (s.heap.objs.size + 1) L.scope.names []).lookup y.1).isSome = true) := fun ⟨n, v⟩ hy => by
    rcases S.par n (List.of_mem_zip hy).1 with q | q
    · exact .inl q
    · exact .inr ⟨q, PySem.W.cellsFrom_some _ _ _ (.inl q)⟩
  refine PySem.W.kla_callFunE hr.depth of rfl S.co S.gen rfl ⟨c, oc, ws, t0, rfl, hoc, hdc, hvc⟩ ?_
  rw [bind pm (.ref c) ctv us hlu]
  refine wpAny_pure (wpAny_newFunctionEnv_cells S.kind kinds fun env he s1 x => ?_)
  subst he
  refine ⟨lim.keeps x.toInCall.keep, ?_⟩
  obtain ⟨t, ht, hq⟩ := hbody A outer s H vs Q E f c (hr.deeper _) hsp
  have I : Inv (cxOf (L2N.CX P w) P w K mg base N L.q L.scope f (.ref c) A outer s H E) [] (L2.start N vs) H s1 := inv_start S hr.hd e0 hl r x
  refine PySem.W.kla_codeExpr (wpAny_mono (ht.run [] s1 (L2.start N vs) H Q I hq) (fun u s' hs => ?_) fun e s' hs => hs)
  obtain ⟨v, H', J, rv, q⟩ := hs
  exact ⟨v, H', J.os, J.bare, J.base, J.hok, rv, q⟩
/-! a lambda called by a name that holds it -/
def tLamC (P : Program) (w : World) (K : PySem.W.Frag) (mg : Str → Option Value) (base : Heap) (k i : Nat) (E : L2.St → XK) (t : TA) : TE := fun σ H Q =>
  ∃ (L : Lam) (sp : Sp) (f : Addr), LamOk P w K mg base k L sp ∧ σ[i]? = some (some (.ref f)) ∧ IsLam H L f ∧ t σ H fun vs H1 => IsLam H1 L f ∧ sp vs H1 Q (E σ)
theorem fnAt_of {X : Cx} {pins : List (Addr × Obj)} {σ : L2.St} {H : Hp} {s : Shared} {L : Lam} {f : Addr} (I : Inv X pins σ H s) (h : IsLam H L f) : PySem.W.FnAt f s.heap := by
  obtain ⟨c, hf, _⟩ := h
  obtain ⟨⟨pm, ctv, of⟩, _⟩ := I.hok f _ hf
  exact ⟨_, _, _, _, of⟩
theorem pe_lamc {X : Cx} {k i : Nat} {E : L2.St → XK} {x : Str} {p pos : Pos} {e : Expr} {es : List Expr} {t : TA} (hr : Room k X.A) (hN : X.N[i]? = some x) (hv : Vis X.env.scope x) (hx : ∀ σ, PassesAt (L2N.CX X.prog X.w) X σ (E σ)) (ha : PA X (e :: es) t)
    (hdb : (x == ("__debug__" : Str)) = false := by decide) (hcd : (x == ("__classdict__" : Str)) = false := by decide)
    (he : starEach (e :: es) X.env = (false, eval e X.env) :: starEach es X.env := by rfl) (hpl : (backTo pos (starEach es X.env)).any (·.1) = false := by rfl) :
    PE X (.Call (.Name x p) (e :: es) [] pos) (tLamC X.prog X.w X.K X.mg X.base k i E t) := by
  refine ⟨fun pins s σ H Q I h => ?_⟩
  obtain ⟨L, sp, f, ok, hs, hL, ht⟩ := h
  refine wpAny_Call_Name_kw (thn ((pe_var (pos := p) hN hv hdb hcd).run pins s σ H (fun v H1 => v = .ref f ∧ H1 = H) I ⟨.ref f, hs, rfl, rfl⟩) fun u s1 ⟨v, H1, I1, r1, q1⟩ => ?_)
  obtain ⟨rfl, rfl⟩ := q1
  cases r1
  refine PySem.W.callWith_F (fnAt_of I1 hL) (thn (ha.run pos pins s1 σ _ _ I1 ht) fun us s2 ⟨vs, H2, I2, r, hL2, q⟩ => ⟨fnAt_of I2 hL2, ?_⟩) he hpl
  refine wpAny_call (codeAny_mono (ok X.A X.stack s2 H2 us vs Q (E σ) f hr I2.env0 hL2 r q) fun rr s3 hq => ?_)
  cases rr with
  | error e => exact hx σ pins H2 s2 e s3 I2 hq
  | ok fl =>
    cases fl with
    | ret u => exact I2.after hq
    | next => exact False.elim hq
    | brk => exact False.elim hq
    | cont => exact False.elim hq
/-! a lambda made -/
def tLamM (T : List (Addr × Str)) (L : Lam) : TE := fun _ H Q => LamX.Tabs T H ∧ ∀ f H1, LamX.ExtN H H1 → LamX.Tabs T H1 → H f = none → IsLam H1 L f → Q (.ref f) H1
theorem lamF_ok {P : Program} {w : World} {H : Hp} {h : Heap} {L : Lam} {f c : Addr} {pm ctv : Value} (e : h.get? f = some (PySem.W.kla_obj "<lambda>" L.q L.params L.body L.scope [] pm c ctv)) : ObjOk P w H h f (LamF L f c) :=
  ⟨⟨pm, ctv, e⟩, ⟨_, e⟩, fun h1 h2 ⟨pm, ctv, a⟩ st => ⟨pm, ctv, st _ a⟩⟩
theorem pe_lam {X : Cx} {T : List (Addr × Str)} {c P : Addr} {params : Arguments} {body : Expr} {scope : Scope} {pos : Pos} (TB : LamX.TabB X.base X.mg c P) (hcode : X.env.code = .ref c) (hm : (P, X.env.qual ++ "<lambda>") ∈ T) (hu : ∀ p ∈ T, p.1 = P → p.2 = X.env.qual ++ "<lambda>")
    (hdef : defaultsOf params X.env = ([], [])) (hfree : ∀ y ∈ scope.names, y.2 ≠ .free) (hclo : cloFrom X.env.cells scope.names [] = []) : PE X (.Lambda params body scope pos) (tLamM T ⟨X.env.qual ++ "<lambda>", params, body, scope⟩) := by
  refine ⟨fun pins s σ H Q I h => ?_⟩
  obtain ⟨hT, h⟩ := h
  obtain ⟨ps, hP, ht, ha⟩ := hT _ hm
  have cl : closureFor scope X.env = pure [] := by
    rw [← hclo]
    exact closure_ok fun y hy e => absurd e (hfree y hy)
  refine PySem.W.kla_eval hdef ?_
  have bP : s.heap.BuiltinsAt X.mg P := TB.bm.keeps I.bk
  have hP' : s.heap.get? P = some { cls := .none, data := .fields ps } := I.hok P _ hP
  cases hc : codeAmong pos ps.toList with
  | none =>
    refine PySem.W.kla_makeFunction (mg := X.mg) (c := c) (P := P) (ps := ps) cl I.ok.glob (I.mod.glob.keeps I.bk) hcode (TB.code.keeps I.bk) hP' ht hc TB.gP bP fun c' ctv h' tk hx hge hlt hrec htb => ?_
    obtain ⟨c2, oc, vs, t, e2, hoc, hd, hv⟩ := hrec
    cases e2
    have sz : s.heap.objs.size ≤ h'.objs.size := Nat.le_trans hge (Nat.le_of_lt hlt)
    have nC : H c' = none := I.hok.fresh hge
    have J1 := LamX.inv_table (t' := tk) (more := #[rawInt pos.line, rawInt pos.col, .ref c']) (h' := h') I hP (fun b o hb e => hx b o hb e) htb hge ⟨oc, vs, t, hoc, hd, hv⟩
    have J2 := J1.laid (t' := tk) (o := LamF ⟨X.env.qual ++ "<lambda>", params, body, scope⟩ h'.objs.size c') (h' := h'.push (PySem.W.kla_obj "<lambda>" (X.env.qual ++ "<lambda>") params body scope [] ((X.mg "__name__").getD .none) c' ctv)) (fun b u e => Heap.get?_push_of_some _ e) (Nat.le_refl _) (lamF_ok (Heap.get?_push_size _ rfl))
    have nF : upd (upd H P (.tbl (ps ++ #[rawInt pos.line, rawInt pos.col, .ref c']))) c' (LamX.CodeO c' (X.env.qual ++ "<lambda>")) h'.objs.size = none := J1.hok.fresh (Nat.le_refl _)
    have exN : LamX.ExtN H (upd (upd H P (.tbl (ps ++ #[rawInt pos.line, rawInt pos.col, .ref c']))) c' (LamX.CodeO c' (X.env.qual ++ "<lambda>"))) := fun b o e n => by
      rw [upd_ne (ne_of_none e nC), upd_ne (fun z => n ps (Option.some.inj (e.symm.trans (by rw [z]; exact hP))))]
      exact e
    have tabs1 : LamX.Tabs T (upd (upd H P (.tbl (ps ++ #[rawInt pos.line, rawInt pos.col, .ref c']))) c' (LamX.CodeO c' (X.env.qual ++ "<lambda>"))) := fun p hp => by
      have eL : (ps ++ #[rawInt pos.line, rawInt pos.col, .ref c']).toList = ps.toList ++ [rawInt pos.line, rawInt pos.col, .ref c'] := by simp
      by_cases hb : p.1 = P
      · rw [hu p hp hb, hb]
        refine ⟨_, (by rw [upd_ne (ne_of_none hP nC), upd_same]), (by rw [eL]; exact PySem.TriplesOk_snoc _ _ _ _ ht), fun p' cv hcv => ?_⟩
        rw [eL] at hcv
        rcases LamX.among_app _ ht hcv with z | z
        · obtain ⟨c0, e1, e2⟩ := ha p' cv z
          exact ⟨c0, e1, exN _ _ e2 LamX.codeO_ne⟩
        · exact ⟨c', z, upd_same⟩
      · obtain ⟨ps', a1, a2, a3⟩ := hT p hp
        refine ⟨ps', (by rw [upd_ne (ne_of_none a1 nC), upd_ne hb]; exact a1), a2, fun p' cv hcv => ?_⟩
        obtain ⟨c0, e1, e2⟩ := a3 p' cv hcv
        exact ⟨c0, e1, exN _ _ e2 LamX.codeO_ne⟩
    exact ⟨.ref h'.objs.size, _, J2, rfl, h h'.objs.size _ (exN.trans (LamX.ExtN.of (Ex.new nF))) (tabs1.ext (Ex.new nF)) (I.hok.fresh sz) ⟨c', upd_same, (Ex.new nF) _ _ upd_same⟩⟩
  | some cv =>
    obtain ⟨c', e, hco⟩ := ha pos cv hc
    subst e
    refine PySem.W.kla_makeFunctionHit (mg := X.mg) (c := c) (P := P) (ps := ps) cl I.ok.glob (I.mod.glob.keeps I.bk) hcode (TB.code.keeps I.bk) hP' ht hc bP fun ctv h' tk hx sz => ?_
    have nF : H h'.objs.size = none := I.hok.fresh sz
    have J2 := I.laid (t' := tk) (o := LamF ⟨X.env.qual ++ "<lambda>", params, body, scope⟩ h'.objs.size c') (h' := h'.push (PySem.W.kla_obj "<lambda>" (X.env.qual ++ "<lambda>") params body scope [] ((X.mg "__name__").getD .none) c' ctv)) (fun b u e => Heap.get?_push_of_some _ (hx b u e)) sz (lamF_ok (Heap.get?_push_size _ rfl))
    exact ⟨.ref h'.objs.size, _, J2, rfl, h h'.objs.size _ (LamX.ExtN.of (Ex.new nF)) (hT.ext (Ex.new nF)) nF ⟨c', upd_same, (Ex.new nF) _ _ hco⟩⟩
end Tf

namespace Tf
open PySem PySem.Spec PyProof.Rows L2 Evl L2H
/-! ### a comprehension over range(..) within an except suite -/
/-- the block of a comprehension, with pins -/
abbrev blkP (X : Cx) (s : Shared) (H : Hp) (scope : Scope) (ce : Env) (fp : List Addr) (pn : List (Addr × Obj)) : Cx := { X.blk s H scope ce fp with pn := pn }
theorem inv_pn {X : Cx} {s0 : Shared} {H0 : Hp} {scope : Scope} {ce : Env} {fp : List Addr} {p : Addr × Obj} {σ : L2.St} {H : Hp} {s : Shared} (I : Inv (X.blk s0 H0 scope ce fp) [] σ H s) (h : s.heap.get? p.1 = some p.2 ∧ H p.1 = none ∧ p.1 ≠ ce.locals ∧ p.1 ∉ frs X.stack ∧ ∀ v, p.2.data ≠ .cell v) :
    Inv (blkP X s0 H0 scope ce fp [p]) [] σ H s :=
  ⟨⟨I.ok.mod, I.ok.kind, I.ok.glob, I.ok.blt, I.ok.above, I.ok.inj, I.ok.has, I.ok.cab, I.ok.hd, I.ok.frames, I.ok.stk, I.ok.exf, I.ok.bs, I.ok.bsz, I.ok.noex, I.ok.exfs, I.ok.funs, I.ok.frf⟩, I.os, I.bare, I.base, I.loc, I.cell, I.free, I.freeC, fun q hq => by
    have hq : q ∈ [p] ++ ([] : List (Addr × Obj)) := hq
    rw [List.append_nil, List.mem_singleton] at hq
    rw [hq]
    exact h, I.hok, I.len⟩
section
variable {X : Cx}
theorem lc_hot {pins : List (Addr × Obj)} {s : Shared} {σ : L2.St} {H : Hp} {Q : VK} {elt tg iter : Expr} {scope : Scope} {own : List (Str × Nat)} {pos pos' : Pos} {wi : TI} {g : TG} {te : TE} {Qf : Value → Shared → Prop}
    (hot : HotC X) (hN : X.N.Nodup) (I : Inv X pins σ H s) (hi : PIH X tg iter wi) (ok : BlkOk X.N X.env.scope scope own)
    (hg : ∀ (s : Shared) (H : Hp) (C : Addr) (cl : List (Str × Addr)) (fp : List Addr) (pn : List (Addr × Obj)), PG (blkP X s H scope (compEnvC scope cl C X.env) fp pn) tg g)
    (he : ∀ (s : Shared) (H : Hp) (C : Addr) (cl : List (Str × Addr)) (fp : List Addr) (pn : List (Addr × Obj)), PE (blkP X s H scope (compEnvC scope cl C X.env) fp pn) elt te) (hs : ∀ x, foldedSetIterable iter X.env x = pure x)
    (h : tLc wi g tYes te (own.map (·.2)) σ H Q)
    (back : ∀ D C s' m H', Inv X pins σ H' s' → Q (.ref D) H' → s'.heap.Ns C m → FpOk X pins H' C → compPost (model X.prog X.w) X.A X.xe none Qf (.ref D) C (.ok .next) s') :
    wpAny (model X.prog X.w) X.A (comprehension (.ListComp elt [⟨tg, iter, [], 0⟩] scope pos) scope X.env pos' (newList []) false (eval iter X.env) none) Qf X.xe s := by
  have free : ∀ y ∈ scope.names, y.2 = .free → ∃ c, X.env.cells.lookup y.1 = some c := fun y hy e => (ok.free y hy e).elim (fun k => I.ok.has _ (.inl k)) fun k => I.ok.has _ (.inr k)
  refine wpAny_comprehension_free (use := none) rfl hs (closure_ok free) ok.kind (fun y hy e => by rw [ok.uniq y hy, e]) (thn (hi.run pins s σ H _ I h) fun xv s1 hx => thn hx fun itv s2 h2 => ?_)
  obtain ⟨it, fp, tn, J, H2, rfl, I2, T, st2, f2, q⟩ := h2
  refine wpAny_newObj_type (newEnv_comp ?_) (show 0 ≤ sizeLine from Nat.zero_le _)
  obtain ⟨D, hD⟩ : ∃ D, s2.heap.objs.size = D := ⟨_, rfl⟩
  rw [hD]
  have nD : H2 D = none := I2.hok.fresh (Nat.le_of_eq hD)
  obtain ⟨W, ⟨m0, w0⟩, turn⟩ := q D nD
  obtain ⟨s3, hs3⟩ : ∃ s3 : Shared, ({ s2 with heap := s2.heap.push { cls := .type "list", data := .seq ([] : List Value).toArray } } : Shared) = s3 := ⟨_, rfl⟩
  rw [hs3]
  have I3 : Inv X pins σ (upd H2 D (.lst [])) s3 := by
    rw [← hs3]
    refine I2.laid (t' := s2.toks) (fun b o e => Heap.get?_push_of_some _ e) (Nat.le_of_eq hD) ⟨Nat.zero_le _, [], 0, .nil, ?_⟩
    rw [← hD]
    exact Heap.get?_push_size _ rfl
  have hp3 : s3.heap = s2.heap.push { cls := .type "list", data := .seq ([] : List Value).toArray } := by rw [← hs3]
  have lt2 : ∀ b ∈ fp, b < s2.heap.objs.size := fun b hb => let ⟨o, e, _⟩ := T.obj _ _ st2 b hb; Heap.lt_size e
  have f3 : ∀ b ∈ fp, FpOk X pins (upd H2 D (.lst [])) b ∧ b < s3.heap.objs.size := fun b hb => by
    have l := lt2 b hb
    refine ⟨⟨?_, (f2 b hb).2⟩, by rw [hp3, Heap.size_push]; exact Nat.lt_succ_of_lt l⟩
    rw [upd_ne (by rw [← hD]; exact Nat.ne_of_lt l)]
    exact (f2 b hb).1
  have st3 : tn 0 s3.heap := T.keep _ _ _ st2 fun b _ o e => by rw [hp3]; exact Heap.get?_push_of_some _ e
  have I4 := block_start I3 ok hN f3
  obtain ⟨ep, hot1, hep⟩ := hot
  obtain ⟨pin1, pin2, pin3, pin4, pin5⟩ := I3.pin ep (List.mem_append_left _ hep)
  have pg := hg s3 (upd H2 D (.lst [])) s3.heap.objs.size (cellsFrom (s3.heap.objs.size + 1) scope.names (cloFrom X.env.cells scope.names [])) fp [ep]
  have pe := he s3 (upd H2 D (.lst [])) s3.heap.objs.size (cellsFrom (s3.heap.objs.size + 1) scope.names (cloFrom X.env.cells scope.names [])) fp [ep]
  show codeAny _ _ (.compStart (.ListComp elt [⟨tg, iter, [], 0⟩] scope pos) 0 (.ref it) (.ref D) (compEnvC scope (cellsFrom (s3.heap.objs.size + 1) scope.names (cloFrom X.env.cells scope.names [])) s3.heap.objs.size X.env)) (compPost (model X.prog X.w) X.A X.xe none Qf (.ref D) s3.heap.objs.size) { s3 with heap := pushCells (s3.heap.push { cls := .type "dict", data := .dict #[] }) scope.names }
  have nfp : ∀ b ∈ fp, (upd H2 D (.lst [])) b = none := fun b hb => (f3 b hb).1.1
  generalize hce : compEnvC scope (cellsFrom (s3.heap.objs.size + 1) scope.names (cloFrom X.env.cells scope.names [])) s3.heap.objs.size X.env = ce at I4 pg pe ⊢
  have cL : ce.locals = s3.heap.objs.size := by subst hce; rfl
  generalize hH3 : upd H2 D (.lst []) = H3 at I3 I4 pg pe w0 nfp f3 pin2
  generalize hs4 : ({ s3 with heap := pushCells (s3.heap.push { cls := .type "dict", data := .dict #[] }) scope.names } : Shared) = s4 at I4 ⊢
  have kp4 : ∀ b o, s3.heap.get? b = some o → s4.heap.get? b = some o := fun b o e => by rw [← hs4]; exact pushCells_keeps _ _ _ _ (Heap.get?_push_of_some _ e)
  have st4 : tn 0 s4.heap := T.keep _ _ _ st3 fun b _ o e => kp4 b o e
  have nst : ep.1 ∉ frs X.stack := fun z => (List.mem_cons.mp (I3.stkSub _ z)).elim pin3 pin4
  have J4 : Inv (blkP X s3 H3 scope ce fp [ep]) [] (wipe σ (own.map (·.2))) H3 s4 := inv_pn I4 ⟨kp4 _ _ pin1, pin2, by rw [cL]; exact Nat.ne_of_lt (Heap.lt_size pin1), nst, pin5⟩
  have hotB : HotC (blkP X s3 H3 scope ce fp [ep]) := ⟨ep, hot1, List.mem_singleton.mpr rfl⟩
  have nep : ∀ b ∈ fp, ep.1 ≠ b := fun b hb => (f3 b hb).1.2.2.2.2.2 ep (List.mem_append_left _ hep)
  have stat : ∀ {σ' : L2.St} {H' : Hp} {s' : Shared}, Inv (blkP X s3 H3 scope ce fp [ep]) [] σ' H' s' → (∀ b ∈ fp, H' b = none) → ∀ b ∈ fp, FpOk (blkP X s3 H3 scope ce fp [ep]) [] H' b := fun {σ' H' s'} I' hn b hb =>
    ⟨hn b hb, (I'.ok.exf b hb).1, I'.ok.exfs b hb, .inl hb, fun x c e => (I'.ok.exf b hb).2 x c e, fun p hp => by
      have hp : p ∈ [ep] ++ ([] : List (Addr × Obj)) := hp
      rw [List.append_nil, List.mem_singleton] at hp
      rw [hp]
      exact nep b hb⟩
  have loop : codeAny (model X.prog X.w) X.A (.compLoop (.ListComp elt [⟨tg, iter, [], 0⟩] scope pos) 0 (.ref it) (.ref D) ce) (compPost (model X.prog X.w) X.A X.xe none Qf (.ref D) s3.heap.objs.size) s4 := by
    refine compLoop_any (fun n s' => ∃ i H', Inv (blkP X s3 H3 scope ce fp [ep]) [] (wipe σ (own.map (·.2))) H' s' ∧ tn i s'.heap ∧ (∀ b ∈ fp, H' b = none) ∧ W i n H') ?_ m0 ⟨0, H3, J4, st4, nfp, w0⟩
    rintro n s5 ⟨i, H5, I5, st5, n5, w5⟩
    rcases turn i n H5 w5 with ⟨stop, qq⟩ | ⟨go, Nx, hNx, step⟩
    · refine thnF (T.done (blkP X s3 H3 scope ce fp [ep]) rfl rfl rfl hotB i [] s5 _ H5 (fun _ _ => False) I5 (stat I5 n5) st5 stop) fun r s6 ⟨hr, I6⟩ => ?_
      subst hr
      have I7 : Inv X pins σ H5 s6 := I3.call' (ch := fp) I6.os I6.base I6.hok I6.bare fun b hb => ⟨(f3 b hb).1.2.2.2.1, (f3 b hb).1.2.1, (f3 b hb).1.2.2.2.2.1, (f3 b hb).1.2.2.2.2.2⟩
      have nC : H5 s3.heap.objs.size = none := by
        have z : H5 ce.locals = none := I6.free
        rwa [cL] at z
      obtain ⟨m, hn, _⟩ := I6.loc
      have hn : s6.heap.Ns ce.locals m := hn
      rw [cL] at hn
      exact back D s3.heap.objs.size s6 m H5 I7 qq hn (I3.fpOk (Nat.le_refl _) nC)
    · refine thnF (T.item (blkP X s3 H3 scope ce fp [ep]) rfl rfl rfl hotB i [] s5 _ H5 (fun _ _ => False) I5 (stat I5 n5) st5 go) fun r s6 ⟨u, hr, h6⟩ => ?_
      subst hr
      refine thnF h6 fun _ s7 ⟨x, H7, I7, r7, y7, st7, n7⟩ => ?_
      have I7' := I7.pinned (stat I7 n7) (T.obj _ _ st7)
      refine thnF (pg.run _ s7 _ H7 x u _ I7' r7 (step x H7 y7)) fun _ s8 ⟨σ8, H8, I8, hw8, q8⟩ => ?_
      have fin : ∀ {s' : Shared} {H' : Hp}, Inv (blkP X s3 H3 scope ce fp [ep]) ([] ++ pinsAt fp s7.heap) σ8 H' s' → Nx H' → ∃ m, m < n ∧ ∃ i H', Inv (blkP X s3 H3 scope ce fp [ep]) [] (wipe σ (own.map (·.2))) H' s' ∧ tn i s'.heap ∧ (∀ b ∈ fp, H' b = none) ∧ W i m H' := fun {s' H'} I' nx => by
        obtain ⟨m', hm, w'⟩ := hNx H' nx
        have held : ∀ b ∈ fp, ∀ o, s7.heap.get? b = some o → s'.heap.get? b = some o ∧ H' b = none := fun b hb o e =>
          have z := I'.pin (b, o) (List.mem_append_right _ (List.mem_append_right _ (mem_pinsAt hb e)))
          ⟨z.1, z.2.1⟩
        have hl : (wipe σ (own.map (·.2))).length = σ8.length := by rw [← hw8, wipe_length]
        refine ⟨m', hm, i + 1, H', (I'.unpinned (pins := [])).weak hl (fun j v e => ?_), T.keep _ _ _ st7 fun b hb o e => (held b hb o e).1, fun b hb => ?_, w'⟩
        · rw [← hw8] at e
          exact (wipe_some e).1
        · obtain ⟨o, e, _⟩ := T.obj _ _ st7 b hb
          exact (held b hb o e).2
      have q9 : te σ8 H8 fun y H4 => ∃ acc, H4 D = some (.lst acc) ∧ acc.length < sizeLine ∧ Nx (upd H4 D (.lst (acc ++ [y]))) := q8
      refine thnF ((pts_nil (X := blkP X s3 H3 scope ce fp [ep])).run _ s8 σ8 H8 (fun b H9 => b = true ∧ te σ8 H9 fun y H4 => ∃ acc, H4 D = some (.lst acc) ∧ acc.length < sizeLine ∧ Nx (upd H4 D (.lst (acc ++ [y])))) I8 ⟨rfl, q9⟩) fun b s9 ⟨H9, I9, hb, q10⟩ => ?_
      subst hb
      simp only [if_true]
      refine thnF (pe.run _ s9 σ8 H9 _ I9 q10) fun z s10 ⟨yv, H10, I10, r10, acc, hD10, hz10, nx⟩ => ?_
      exact app_ok (X := blkP X s3 H3 scope ce fp [ep]) I10 hD10 hz10 r10 fun s11 I11 => fin I11 nx
  exact codeAny_compStart_list loop (T.self X.A 0 _ _ _ st4 loop)
theorem pe_lcH {elt tg iter : Expr} {scope : Scope} {own : List (Str × Nat)} {pos : Pos} {wi : TI} {g : TG} {te : TE} (hot : HotC X) (hN : X.N.Nodup) (hi : PIH X tg iter wi) (ok : BlkOk X.N X.env.scope scope own)
    (hg : ∀ (s : Shared) (H : Hp) (C : Addr) (cl : List (Str × Addr)) (fp : List Addr) (pn : List (Addr × Obj)), PG (blkP X s H scope (compEnvC scope cl C X.env) fp pn) tg g)
    (he : ∀ (s : Shared) (H : Hp) (C : Addr) (cl : List (Str × Addr)) (fp : List Addr) (pn : List (Addr × Obj)), PE (blkP X s H scope (compEnvC scope cl C X.env) fp pn) elt te) (hs : ∀ x, foldedSetIterable iter X.env x = pure x := by intro _; rfl) :
    PE X (.ListComp elt [⟨tg, iter, [], 0⟩] scope pos) (tLc wi g tYes te (own.map (·.2))) := by
  refine ⟨fun pins s σ H Q I h => ?_⟩
  rw [eval_ListComp]
  refine lc_hot hot hN I hi ok hg he hs h fun D C s' m H' I' q hn f => ⟨m, hn, fun h2 sb => ?_⟩
  obtain ⟨f0, f1, f2, f3, f4, f5⟩ := f
  exact ⟨.ref D, H', I'.turned (t' := s'.toks) (fun b o hb e => (sb.2 b hb).trans e) f0 f1 f3 f4 f5, rfl, q⟩
end
end Tf

namespace Tf
open PySem PySem.Spec PyProof.Rows L2 Evl
/-! ### raising -/
section
variable {P : Program} {w : World} {K : PySem.W.Frag} {mg : Str → Option Value} {base : Heap}
def spX (R : List V → Hp → Addr → Prop) : Sp := fun vs H _ E => ∃ C, R vs H C ∧ ∀ H2, Ex H H2 → E (.ref C) none H2
structure HasX (P : Program) (w : World) (K : PySem.W.Frag) (mg : Str → Option Value) (base : Heap) (x : Str) (ps : List Str) (k : Nat) (sp : Sp) : Prop where
  ex : ∃ (f : Addr) (fd : FuncData), mg x = some (.ref f) ∧ PySem.W.keepIn K (.ref f) = true ∧ Binds K fd ps [] ∧ FnOk P w K mg base (L2N.CX P w) k f fd ps sp
theorem pe_fnX {X : Cx} {x : Str} {ps : List Str} {j k : Nat} {sp : Sp} {W : WX} {p pos : Pos} {e : Expr} {es : List Expr} {t : TA} (h : HasX X.prog X.w X.K X.mg X.base x ps k sp) (tk : L2N.Takes X W) (hr : Room j X.A) (hg : Gl X x) (ha : PA X (e :: es) t)
    (hk : k ≤ j := by decide) (hdb : (x == ("__debug__" : Str)) = false := by decide) (he : starEach (e :: es) X.env = (false, eval e X.env) :: starEach es X.env := by rfl) (hpl : (backTo pos (starEach es X.env)).any (·.1) = false := by rfl) :
    PE X (.Call (.Name x p) (e :: es) [] pos) (tCallS sp (WE W) t) := by
  obtain ⟨f, fd, g, kp, b, F⟩ := h.ex
  exact pe_callS F (hr.mono hk) hg g kp b (fun σ => L2N.passAt tk σ) ha hdb he hpl
theorem okN {x qual : Str} {st : Stmt} {f : Addr} {fd : FuncData} {N ps : List Str} {k : Nat} {sp : Sp} (F : Fun K x qual st f fd) (S : FnScope N ps (defScope st)) (len : ∀ vs H Q E, sp vs H Q E → vs.length = ps.length)
    (hbody : ∀ (cdv : Value) (A : Around) (outer : List Env) (s : Shared) (H : Hp) (vs : List V) (Q : VK) (E : XK), Room k (A.deeper (envOfC qual (defScope st) s.heap.objs.size f cdv)) → sp vs H Q E →
      ∃ t, PSs (cxOf (L2N.CX P w) P w K mg base N qual (defScope st) f cdv A outer s H E) (defBody st) t ∧ t { nx := fun _ H' => Q .non H', rt := Q } (L2.start N vs) H) : FnOk P w K mg base (L2N.CX P w) (k + 1) f fd ps sp := by
  obtain ⟨oc, od, kV, doc, pm, an, cdv, ct, osl, rfl, lk, hcd⟩ := F.ex
  exact fn_of lk hcd S len fun A outer s H vs Q E hr hsp => hbody cdv A outer s H vs Q E hr hsp
theorem takesN {X : Cx} : L2N.Takes X (fun _ _ _ _ => False) := fun _ _ x => by
  obtain ⟨_, _, _, _, _, _, _, _, _, _, _, _, _, _, _, _, z⟩ := x
  exact z.elim
end
section
variable {σ : L2.St} {H : Hp} {D : Ends} {tz : TS} {t0 : TE} {v : V} {ta : TA} {vs : List V} {C : Addr} {R : List V → Hp → Addr → Prop} {E : L2.St → XK}
theorem q_ok {tb : TE} (h : Ev t0 σ H v) (k : ∀ H1, Ex H H1 → tz D σ H1) : tSeq (tDrop (tEi t0 tb)) tz D σ H := .inl (h H (Ex.refl H) _ fun H1 e => k H1 e)
theorem q_bad (h : EvA ta σ H vs) (hR : ∀ H1, Ex H H1 → R vs H1 C) (k : ∀ H2, Ex H H2 → E σ (.ref C) none H2) : tSeq (tDrop (tEi t0 (tCallS (spX R) E ta))) tz D σ H :=
  .inr (h H (Ex.refl H) _ fun H1 e => ⟨C, hR H1 e, fun H2 e2 => k H2 (e.trans e2)⟩)
end
/-! ### things that are no whole numbers, or none of these -/
theorem tyx_extN {K : PySem.W.Frag} {H H' : Hp} {x : V} {t : Value} (e : LamX.ExtN H H') (h : TyX K H x t) : TyX K H' x t := by
  cases h with
  | base h =>
    cases h with
    | non => exact .base .non
    | bl x => exact .base (.bl x)
    | int i => exact .base (.int i)
    | str x => exact .base (.str x)
    | flt x => exact .base (.flt x)
    | lst h => exact .base (.lst (e _ _ h fun _ z => nomatch z))
    | frz h => exact .base (.frz (e _ _ h fun _ z => nomatch z))
    | tup h => exact .base (.tup (e _ _ h fun _ z => nomatch z))
    | dK h => exact .base (.dK (e _ _ h fun _ z => nomatch z))
    | dT h => exact .base (.dT (e _ _ h fun _ z => nomatch z))
    | ins h a b c d f => exact .base (.ins (e _ _ h fun _ z => nomatch z) a b c d f)
  | byt b => exact .byt b
  | set h => exact .set (e _ _ h fun _ z => nomatch z)
  | kList h c => exact .kList h c
  | kTuple h c => exact .kTuple h c
  | kDict h c => exact .kDict h c
  | fTuple h => exact .fTuple (e _ _ h fun _ z => nomatch z)
  | fDict h => exact .fDict (e _ _ h fun _ z => nomatch z)
/-- no whole number -/
def NotW (K : PySem.W.Frag) (H : Hp) (x : V) : Prop := ∃ (t : String) (b c : Bool), TyX K H x (.type t) ∧ kitB t "int" = some b ∧ kitB t "bool" = some c ∧ (b && !c) = false
theorem NotW.extN {K : PySem.W.Frag} {H H' : Hp} {x : V} (e : LamX.ExtN H H') (h : NotW K H x) : NotW K H' x := by
  obtain ⟨t, b, c, h1, h2, h3, h4⟩ := h
  exact ⟨t, b, c, tyx_extN e h1, h2, h3, h4⟩
theorem extN_ex {H H' : Hp} (e : Ex H H') : LamX.ExtN H H' := LamX.ExtN.of e
/-- no whole number, or one for which ok is false -/
def Bad (K : PySem.W.Frag) (ok : Int → Bool) (H : Hp) (x : V) : Prop := NotW K H x ∨ ∃ i, x = .int i ∧ ok i = false
theorem Bad.extN {K : PySem.W.Frag} {ok : Int → Bool} {H H' : Hp} {x : V} (e : LamX.ExtN H H') (h : Bad K ok H x) : Bad K ok H' x := h.imp (·.extN e) id
theorem Bad.ex {K : PySem.W.Frag} {ok : Int → Bool} {H H' : Hp} {x : V} (e : Ex H H') (h : Bad K ok H x) : Bad K ok H' x := h.extN (extN_ex e)
theorem nw_non {K : PySem.W.Frag} {H : Hp} : NotW K H .non := ⟨"NoneType", false, false, .base .non, by decide +kernel, by decide +kernel, rfl⟩
theorem nw_str {K : PySem.W.Frag} {H : Hp} (x : Str) : NotW K H (.str x) := ⟨"str", false, false, .base (.str x), by decide +kernel, by decide +kernel, rfl⟩
theorem nw_bl {K : PySem.W.Frag} {H : Hp} (x : Bool) : NotW K H (.bl x) := ⟨"bool", true, true, .base (.bl x), by decide +kernel, by decide +kernel, rfl⟩
theorem nw_lst {K : PySem.W.Frag} {H : Hp} {a : Addr} {xs : List V} (h : H a = some (.lst xs)) : NotW K H (.ref a) := ⟨"list", false, false, .base (.lst h), by decide +kernel, by decide +kernel, rfl⟩
theorem nw_tup {K : PySem.W.Frag} {H : Hp} {a : Addr} {xs : List V} (h : H a = some (.tup xs)) : NotW K H (.ref a) := ⟨"tuple", false, false, .base (.tup h), by decide +kernel, by decide +kernel, rfl⟩
theorem nw_dK {K : PySem.W.Frag} {H : Hp} {a : Addr} {xs : List (Key × V)} (h : H a = some (.dK xs)) : NotW K H (.ref a) := ⟨"dict", false, false, .base (.dK h), by decide +kernel, by decide +kernel, rfl⟩
/-! ### a list against the empty one -/
def rEqNil : R2 := fun x y H Q => ∃ a b xs, x = .ref a ∧ y = .ref b ∧ H a = some (.lst xs) ∧ H b = some (.lst []) ∧ Q (.bl xs.isEmpty) H
theorem op_eqNil {X : Cx} (hu : X.A.units + 64 < cLine) : OpR X (compareOp .Eq) rEqNil := by
  intro pins s σ H x y v u Q I rx ry h
  obtain ⟨a, b, xs, rfl, rfl, ha, hb, q⟩ := h
  cases rx
  cases ry
  obtain ⟨_, its, n, r1, e1⟩ := I.hok a _ ha
  obtain ⟨_, jts, m, r2, e2⟩ := I.hok b _ hb
  cases r2
  have l1 : s.heap.IsList a its.toArray := ⟨_, e1, rfl, n, rfl⟩
  have l2 : s.heap.IsList b ([] : List Value).toArray := ⟨_, e2, rfl, m, rfl⟩
  have hu' : X.A.units < cLine := by omega
  cases xs with
  | nil =>
    cases r1
    exact SeqAt.RcAt.lists (e := fun _ => true) l1 l2 rfl hu' (fun j h1 _ => absurd h1 (Nat.not_lt_zero _)) X.prog X.w _ _ ⟨.bl true, H, I, rfl, q⟩
  | cons z zs =>
    cases r1
    exact SeqAt.RcAt.lists_lengths l1 l2 (by simp) hu' X.prog X.w _ _ ⟨.bl false, H, I, rfl, q⟩
theorem ev_eqNil {σ : L2.St} {H : Hp} {ta tb : TE} {xs : List V} (ha : EvS ta σ H xs) (hb : EvL tb σ H []) : Ev (tOp rEqNil ta tb) σ H (.bl xs.isEmpty) := fun H1 e Q q =>
  ha H1 e _ fun p H2 e2 hp => hb H2 (e.trans e2) _ fun p' H3 _ e3 hp' => ⟨p, p', xs, rfl, rfl, e3 _ _ hp, hp', q H3 (e2.trans e3)⟩
/-! ### x is not False -/
def rNotBl : R2 := fun x y H Q => ∃ b : Bool, y = .bl b ∧ Q (.bl (!decide (x = .bl b))) H
theorem op_notB {X : Cx} : OpR X (compareOp .IsNot) rNotBl := by
  intro pins s σ H x y v u Q I rx ry h
  obtain ⟨b, rfl, q⟩ := h
  cases (show u = Value.bool b from ry)
  by_cases e : x = .bl b
  · subst e
    cases (show v = Value.bool b from rx)
    exact wpAny_isNot_self rfl ⟨.bl false, H, I, rfl, by simpa using q⟩
  · have q' : Q (.bl true) H := by simpa [e] using q
    cases x with
    | non => cases (show v = Value.none from rx); exact wpAny_isNot_other rfl (fun z => nomatch z) ⟨.bl true, H, I, rfl, q'⟩
    | bl c => cases (show v = Value.bool c from rx); exact wpAny_isNot_other rfl (fun z => e (by rw [Value.bool.inj z])) ⟨.bl true, H, I, rfl, q'⟩
    | int i => obtain ⟨t, rfl⟩ := rx; exact wpAny_isNot_other rfl (fun z => nomatch z) ⟨.bl true, H, I, rfl, q'⟩
    | str y => obtain ⟨t, rfl⟩ := rx; exact wpAny_isNot_other rfl (fun z => nomatch z) ⟨.bl true, H, I, rfl, q'⟩
    | byt y => obtain ⟨t, rfl⟩ := rx; exact wpAny_isNot_other rfl (fun z => nomatch z) ⟨.bl true, H, I, rfl, q'⟩
    | flt y => obtain ⟨t, rfl⟩ := rx; exact wpAny_isNot_other rfl (fun z => nomatch z) ⟨.bl true, H, I, rfl, q'⟩
    | ref a => cases (show v = Value.ref a from rx); exact wpAny_isNot_other rfl (fun z => nomatch z) ⟨.bl true, H, I, rfl, q'⟩
    | ty n => cases (show v = Value.type n from rx); exact wpAny_isNot_other rfl (fun z => nomatch z) ⟨.bl true, H, I, rfl, q'⟩
/-! ### the classes -/
abbrev bmV : List Value := [.type "ValueError", .type "Exception", .type "BaseException", .type "object"]
/-- an own class that is raised -/
structure Exc1 (K : PySem.W.Frag) (C : Addr) : Prop where
  x : PySem.W.excIn K C bmV "ValueError.__new__" = true
  k : PySem.W.keepIn K (.ref C) = true
  t : PySem.W.typeIn K (.ref C) = some (.type "type")
  c : ExcC K C
theorem ps_raiseN {X : Cx} {W : WX} {C : Addr} {x m : Str} {j : Nat} {p p2 pos pos' : Pos} (c : Exc1 X.K C) (gC : X.mg x = some (.ref C)) (tk : L2N.Takes X W) (hc : X.calm = true) (hg : Gl X x) (hdb : (x == ("__debug__" : Str)) = false := by decide) :
    PS X (.Raise (some (.Call (.Name x p) [.Constant (.str m) j p2] [] pos)) none pos') (fun _ σ H => W (.ref C) none σ H) :=
  L2N.ps_raise hc tk (L2N.pmk_own PySem.F.excBase_ValueError c.x gC c.k (raises_own c.c.hs c.t) hg hdb)
end Tf

namespace Tf
open PySem PySem.Spec PyProof.Rows L2 Evl
/-! ### isinstance of the caught one; lists of truths compared -/
def tIsE (K : PySem.W.Frag) (cls : Value) (d : Option Addr) (a : Addr) (t : TA) : TE := fun σ H Q => ∃ D, cls = .ref D ∧ d = none ∧ ExcC K D ∧ t σ H fun vs H1 => rIsE K D a vs H1 Q
theorem pe_isE {X : Cx} {a : Addr} {oe : Obj} {pn : List (Addr × Obj)} {cls : Value} {d : Option Addr} {e : Expr} {es : List Expr} {t : TA} {p pos : Pos} (hz : L2N.Zn cls d oe) (hd : ∃ vs, oe.data = .fields vs) (hg : Gl (X.suite a ((a, oe) :: pn)) "isinstance") (hm : X.mg "isinstance" = none) (ha : PA (X.suite a ((a, oe) :: pn)) (e :: es) t)
    (he : starEach (e :: es) X.env = (false, eval e X.env) :: starEach es X.env := by rfl) (hpl : (backTo pos (starEach es X.env)).any (·.1) = false := by rfl) : PE (X.suite a ((a, oe) :: pn)) (.Call (.Name "isinstance" p) (e :: es) [] pos) (tIsE X.K cls d a t) :=
  ⟨fun pins s σ H Q I h => by
    obtain ⟨D, rfl, rfl, c, h⟩ := h
    exact (pe_callB (call_isE c hz.zc hd) hg hm (by decide +kernel) ha (by decide) (by decide) he hpl).run pins s σ H Q I h⟩
section
variable {K : PySem.W.Frag} {σ : L2.St} {H : Hp} {ta tb tc : TE}
theorem ev_isE {D a : Addr} {c : V} {cv : Value} {b : Bool} (C : ExcC K D) (ha : Ev ta σ H (.ref a)) (hc : Ev tc σ H c) (hcv : ∀ u, RelV c u → u = cv) (hb : PySem.W.kitOne K (.ref D) cv = some b) : Ev (tIsE K (.ref D) none a (tCons ta (tCons tc tNil))) σ H (.bl b) := fun H1 e Q q =>
  ⟨D, rfl, rfl, C, ha H1 e _ fun H2 e2 => hc H2 (e.trans e2) _ fun H3 e3 => ⟨c, cv, b, rfl, hcv, hb, q H3 (e2.trans e3)⟩⟩
def dB (bs : List Bool) : List PyData := bs.map PyData.bool
theorem dp_bools {H : Hp} : ∀ bs : List Bool, DpAll K H (bs.map V.bl) (dB bs)
  | [] => .nil
  | b :: bs => .cons (.bl b) (dp_bools bs)
theorem lay_bools : ∀ bs : List Bool, PyData.canLayAll0 (dB bs) = true
  | [] => by simp [dB, PyData.canLayAll0]
  | b :: bs => by
    show PyData.canLayAll0 (.bool b :: dB bs) = true
    rw [PyData.canLayAll0, lay_bools bs]
    simp [PyData.canLay0]
theorem depth_bools : ∀ bs : List Bool, PyData.depthAll (dB bs) = 0
  | [] => by simp [dB, PyData.depthAll]
  | b :: bs => by
    show PyData.depthAll (.bool b :: dB bs) = 0
    rw [PyData.depthAll, depth_bools bs]
    simp [PyData.depth]
theorem shaped_bools (bs : List Bool) : SeqAt.shaped (.list (dB bs)) = true := by
  unfold SeqAt.shaped
  rw [PyData.canLay0, lay_bools, PyData.depth, depth_bools]
  decide
theorem eqv_bools : ∀ bs cs : List Bool, PyData.eqvAll (dB bs) (dB cs) = decide (bs = cs)
  | [], [] => by simp [dB, PyData.eqvAll]
  | [], m :: ms => by simp [dB, PyData.eqvAll]
  | n :: ns, [] => by simp [dB, PyData.eqvAll]
  | n :: ns, m :: ms => by
    show PyData.eqvAll (.bool n :: dB ns) (.bool m :: dB ms) = _
    rw [PyData.eqvAll, eqv_bools ns ms, PyData.eqv]
    by_cases h : n = m
    · subst h
      simp
    · simp [h]
theorem ev_eqB {bs cs : List Bool} (ha : EvQ K ta σ H (bs.map V.bl)) (hb : EvQ K tb σ H (cs.map V.bl)) : Ev (tOp (rEqD K) ta tb) σ H (.bl (decide (bs = cs))) := fun H1 e Q q =>
  ha H1 e _ fun p H2 e2 hp => hb H2 (e.trans e2) _ fun p' H3 e3 hp' => ⟨.list (dB bs), .list (dB cs), .lst (ex_l e3 hp) (dp_bools bs), .lst hp' (dp_bools cs), shaped_bools bs, shaped_bools cs, by
    rw [PyData.eqv, eqv_bools]
    exact q H3 (e2.trans e3)⟩
end
end Tf

namespace Tf
open PySem PySem.Spec PyProof.Rows L2 Evl
/-! ### where lambdas are made: the tables grow, all else stays -/
open LamX (ExtN Tabs)
section
variable {P : Program} {w : World} {K : PySem.W.Frag} {mg : Str → Option Value} {base : Heap}
/-- a def whose code object is known -/
theorem okC {x qual : Str} {st : Stmt} {f c : Addr} {fd : FuncData} {N ps : List Str} {k : Nat} {sp : Sp} (F : Fun K x qual st f fd) (hc : fd.code = .ref c) (S : FnScope N ps (defScope st)) (len : ∀ vs H Q E, sp vs H Q E → vs.length = ps.length)
    (hbody : ∀ (A : Around) (outer : List Env) (s : Shared) (H : Hp) (vs : List V) (Q : VK) (E : XK), Room k (A.deeper (envOfC qual (defScope st) s.heap.objs.size f (.ref c))) → sp vs H Q E →
      ∃ t, PSs (cxOf CX0 P w K mg base N qual (defScope st) f (.ref c) A outer s H E).nox (defBody st) t ∧ t { nx := fun _ H' => Q .non H', rt := Q } (L2.start N vs) H) : FnOk P w K mg base CX0 (k + 1) f fd ps sp := by
  obtain ⟨oc, od, kV, doc, pm, an, cdv, ct, osl, rfl, lk, hcd⟩ := F.ex
  have e : cdv = .ref c := hc
  subst e
  refine fn_of lk hcd S len fun A outer s H vs Q E hr hsp => ?_
  obtain ⟨t, h, q⟩ := hbody A outer s H vs Q E hr hsp
  exact ⟨t, h.nox, q⟩
end
def Lams (H : Hp) : List V → List Lam → Prop := Paired fun r L => ∃ f, r = V.ref f ∧ IsLam H L f
theorem Lams.extN {H H' : Hp} (e : ExtN H H') : ∀ {rs : List V} {Ls : List Lam}, Lams H rs Ls → Lams H' rs Ls
  | _, _, .nil => .nil
  | _, _, .cons ⟨f, h1, h2⟩ t => .cons ⟨f, h1, h2.extN e⟩ (Lams.extN e t)
theorem Lams.app {H : Hp} : ∀ {rs qs : List V} {Ls Ms : List Lam}, Lams H rs Ls → Lams H qs Ms → Lams H (rs ++ qs) (Ls ++ Ms)
  | _, _, _, _, .nil, s => s
  | _, _, _, _, .cons r t, s => .cons r (Lams.app t s)
theorem Lams.len {H : Hp} : ∀ {rs : List V} {Ls : List Lam}, Lams H rs Ls → rs.length = Ls.length
  | _, _, .nil => rfl
  | _, _, .cons _ t => by rw [List.length_cons, List.length_cons, Lams.len t]
theorem Lams.all {H : Hp} {Pr : Lam → Prop} : ∀ {rs : List V} {Ls : List Lam}, Lams H rs Ls → (∀ L ∈ Ls, Pr L) → ∀ r ∈ rs, ∃ f L, r = V.ref f ∧ IsLam H L f ∧ Pr L
  | _, _, .nil, _, r, h => by cases h
  | _, _, .cons ⟨f, h1, h2⟩ t, p, r, h => by
    rcases List.mem_cons.mp h with z | z
    · exact ⟨f, _, z.trans h1, h2, p _ List.mem_cons_self⟩
    · exact Lams.all t (fun L hL => p L (List.mem_cons_of_mem _ hL)) r z
section
variable {T : List (Addr × Str)} {K : PySem.W.Frag} {σ : L2.St} {H : Hp} {D : Ends} {tu tz : TS} {te tb tc : TE} {ta tr : TA} {v x y : V} {Ls Ms : List Lam} {L : Lam} {xs : List V}
def EvAM (T : List (Addr × Str)) (ta : TA) (Ls : List Lam) : Prop := ∀ (σ : L2.St) (H : Hp), Tabs T H → ∀ Q : List V → Hp → Prop, (∀ rs H1, ExtN H H1 → Tabs T H1 → Lams H1 rs Ls → Q rs H1) → ta σ H Q
theorem eam_nil : EvAM T tNil [] := fun _ H hT _ q => q [] H (ExtN.refl H) hT .nil
theorem eam_cons (h : EvAM T tr Ls) : EvAM T (tCons (tLamM T L) tr) (L :: Ls) := fun σ H hT Q q => ⟨hT, fun f H1 e1 t1 _ hL => h σ H1 t1 _ fun rs H2 e2 t2 hs => q _ H2 (e1.trans e2) t2 (.cons ⟨f, rfl, hL.extN e2⟩ hs)⟩
def EvM (T : List (Addr × Str)) (te : TE) (σ : L2.St) (H : Hp) (Ls : List Lam) : Prop := Tabs T H → ∀ Q : VK, (∀ p rs H1, ExtN H H1 → Tabs T H1 → H1 p = some (.lst rs) → Lams H1 rs Ls → Q (.ref p) H1) → te σ H Q
theorem em_lst (h : EvAM T ta Ls) (hz : Ls.length ≤ 1000) : EvM T (tLst ta) σ H Ls := fun hT Q q => h σ H hT _ fun rs H1 e1 t1 hs =>
  ⟨sz_of (by rw [hs.len]; omega), fun p hp => q p rs _ (e1.trans (ExtN.of (Ex.new hp))) (t1.ext (Ex.new hp)) upd_same (hs.extN (ExtN.of (Ex.new hp)))⟩
theorem em_cat {a : Addr} {i : Nat} {rs : List V} (hs : σ[i]? = some (some (.ref a))) (ha : H a = some (.lst rs)) (hl : Lams H rs Ms) (h : EvAM T ta Ls) (hz : Ms.length + Ls.length ≤ 1000) : EvM T (tOp rCat (tVar i) (tLst ta)) σ H (Ms ++ Ls) := fun hT Q q =>
  ⟨.ref a, hs, em_lst h (by omega) hT _ fun p qs H1 e1 t1 hp hq => ⟨a, p, rs, qs, rfl, rfl, e1 _ _ ha (fun _ z => nomatch z), hp, sz_of (by rw [hl.len, hq.len]; omega), fun l hlN =>
    q l _ _ (e1.trans (ExtN.of (Ex.new hlN))) (t1.ext (Ex.new hlN)) upd_same ((hl.extN (e1.trans (ExtN.of (Ex.new hlN)))).app (hq.extN (ExtN.of (Ex.new hlN))))⟩⟩
theorem q_asgM {i : Nat} (h : EvM T te σ H Ls) (hT : Tabs T H) (k : ∀ p rs H1, ExtN H H1 → Tabs T H1 → H1 p = some (.lst rs) → Lams H1 rs Ls → tz D (σ.set i (some (.ref p))) H1) : tSeq (tAsg te (gName i)) tz D σ H := h hT _ fun p rs H1 e1 t1 hp hs => k p rs H1 e1 t1 hp hs
/-- a value met while the tables may grow -/
def EvN (T : List (Addr × Str)) (te : TE) (σ : L2.St) (H : Hp) (v : V) : Prop := Tabs T H → ∀ Q : VK, (∀ H1, ExtN H H1 → Tabs T H1 → Q v H1) → te σ H Q
def EvTN (T : List (Addr × Str)) (t : TT) (σ : L2.St) (H : Hp) (b : Bool) : Prop := Tabs T H → ∀ Q : Bool → Hp → Prop, (∀ H1, ExtN H H1 → Tabs T H1 → Q b H1) → t σ H Q
theorem en_of (h : Ev te σ H v) : EvN T te σ H v := fun hT Q q => h H (Ex.refl H) _ fun H1 e1 => q H1 (ExtN.of e1) (hT.ext e1)
theorem etn_of {t : TT} {b : Bool} (h : EvT t σ H b) : EvTN T t σ H b := fun hT Q q => h H (Ex.refl H) _ fun H1 e1 => q H1 (ExtN.of e1) (hT.ext e1)
theorem etn_B {b : Bool} (h : EvN T te σ H (.bl b)) : EvTN T (tB te) σ H b := fun hT Q q => h hT _ fun H1 e1 t1 => ⟨b, rfl, q H1 e1 t1⟩
theorem etn_not {t : TT} {b : Bool} (h : EvTN T t σ H b) : EvTN T (tNot t) σ H (!b) := fun hT Q q => h hT _ fun H1 e1 t1 => q H1 e1 t1
theorem etn_or {t u : TT} (h : EvTN T t σ H false) (h2 : ∀ H1, ExtN H H1 → Tabs T H1 → EvTN T u σ H1 false) : EvTN T (tOr t u) σ H false := fun hT Q q => h hT _ fun H1 e1 t1 => iteF (h2 H1 e1 t1 t1 _ fun H2 e2 t2 => q H2 (e1.trans e2) t2)
theorem q_goN {t : TT} (h : EvTN T t σ H false) (hT : Tabs T H) (k : ∀ H1, ExtN H H1 → Tabs T H1 → tz D σ H1) : tSeq (tIfS t tu tNext) tz D σ H := h hT _ fun H1 e1 t1 => iteF (k H1 e1 t1)
theorem s_retN (h : EvN T te σ H v) (hT : Tabs T H) (k : ∀ H1, ExtN H H1 → Tabs T H1 → D.rt v H1) : tRet te D σ H := h hT _ fun H1 e1 t1 => k H1 e1 t1
/-- f([lambda ..], list, y) -/
theorem en_call {R : List V → Hp → V → Prop} (h : EvM T te σ H Ls) (hb : ∀ H1, ExtN H H1 → EvS tb σ H1 xs) (hc : ∀ H1, Ev tc σ H1 y) (hR : ∀ p q rs H1, ExtN H H1 → H1 p = some (.lst rs) → Lams H1 rs Ls → H1 q = some (.lst xs) → R [.ref p, .ref q, y] H1 v) :
    EvN T (tCall (spV R) [] E0 (tCons te (tCons tb (tCons tc tNil)))) σ H v := fun hT Q q => h hT _ fun p rs H1 e1 t1 hp hs =>
  hb H1 e1 H1 (Ex.refl H1) _ fun p' H2 e2 hp' => hc H2 H2 (Ex.refl H2) _ fun H3 e3 =>
    ⟨v, hR p p' rs H3 (e1.trans (ExtN.of (e2.trans e3))) ((e2.trans e3) _ _ hp) (hs.extN (ExtN.of (e2.trans e3))) (e3 _ _ hp'), fun H4 e4 => q H4 (e1.trans (ExtN.of ((e2.trans e3).trans e4))) (t1.ext ((e2.trans e3).trans e4))⟩
/-- f(x, list, y) -/
theorem ev_call3 {R : List V → Hp → V → Prop} {ta : TE} (h : Ev ta σ H x) (hb : EvS tb σ H xs) (hc : Ev tc σ H y) (hR : ∀ q H1, Ex H H1 → H1 q = some (.lst xs) → R [x, .ref q, y] H1 v) : Ev (tCall (spV R) [] E0 (tCons ta (tCons tb (tCons tc tNil)))) σ H v := fun H1 e Q q =>
  h H1 e _ fun H2 e2 => hb H2 (e.trans e2) _ fun p H3 e3 hp => hc H3 ((e.trans e2).trans e3) _ fun H4 e4 =>
    ⟨v, hR p H4 (((e.trans e2).trans e3).trans e4) (e4 _ _ hp), fun H5 e5 => q H5 (((e2.trans e3).trans e4).trans e5)⟩
theorem sql_extN {K : PySem.W.Frag} {H H' : Hp} {a : Addr} {xs : List V} (e : ExtN H H') (h : SqL K H a xs) : SqL K H' a xs := by
  rcases h with (h | ⟨o, h⟩) | h
  · exact .inl (.inl (e _ _ h fun _ z => nomatch z))
  · exact .inl (.inr ⟨o, e _ _ h fun _ z => nomatch z⟩)
  · exact .inr h
end
/-! ### lists whose elements keep a word -/
section
variable {K : PySem.W.Frag} {σ : L2.St} {H : Hp} {te : TE} {ta tr : TA} {v : V} {xs : List V} {n : Nat} {G : Hp → V → Prop}
def Stay (G : Hp → V → Prop) : Prop := ∀ {H H' : Hp} {x : V}, ExtN H H' → G H x → G H' x
/-- a value of which G is known -/
def EvG (G : Hp → V → Prop) (te : TE) (σ : L2.St) (H : Hp) : Prop := ∀ H1, Ex H H1 → ∀ Q : VK, (∀ x H2, Ex H1 H2 → G H2 x → Q x H2) → te σ H1 Q
def EvAG (G : Hp → V → Prop) (ta : TA) (σ : L2.St) (H : Hp) (n : Nat) : Prop := ∀ H1, Ex H H1 → ∀ Q : List V → Hp → Prop, (∀ vs H2, Ex H1 H2 → vs.length = n → (∀ x ∈ vs, G H2 x) → Q vs H2) → ta σ H1 Q
theorem eg_val (h : Ev te σ H v) (g : ∀ H1, Ex H H1 → G H1 v) : EvG G te σ H := fun H1 e Q q => h H1 e _ fun H2 e2 => q v H2 e2 (g H2 (e.trans e2))
theorem eg_lst (h : EvL te σ H xs) (g : ∀ p H1, Ex H H1 → H1 p = some (.lst xs) → G H1 (.ref p)) : EvG G te σ H := fun H1 e Q q => h H1 e _ fun p H2 _ e2 hp => q _ H2 e2 (g p H2 (e.trans e2) hp)
theorem eg_tup (h : EvU te σ H xs) (g : ∀ p H1, Ex H H1 → H1 p = some (.tup xs) → G H1 (.ref p)) : EvG G te σ H := fun H1 e Q q => h H1 e _ fun p H2 _ e2 hp => q _ H2 e2 (g p H2 (e.trans e2) hp)
theorem eg_dict (g : ∀ p H1, Ex H H1 → H1 p = some (.dK []) → G H1 (.ref p)) : EvG G tDNewK σ H := fun H1 e Q q => fun p hp => q _ _ (Ex.new hp) (g p _ (e.trans (Ex.new hp)) upd_same)
theorem eag_nil : EvAG G tNil σ H 0 := fun H1 _ _ q => q [] H1 (Ex.refl H1) rfl fun x hx => by cases hx
theorem eag_cons (hG : Stay G) (h : EvG G te σ H) (hr : EvAG G tr σ H n) : EvAG G (tCons te tr) σ H (n + 1) := fun H1 e Q q =>
  h H1 e _ fun x H2 e2 hx => hr H2 (e.trans e2) _ fun vs H3 e3 hl hs => q _ H3 (e2.trans e3) (by rw [List.length_cons, hl]) fun z hz => by
    rcases List.mem_cons.mp hz with rfl | hz
    · exact hG (ExtN.of e3) hx
    · exact hs z hz
/-- a new list of n such; Hb is the heap ahead of its making -/
def EvGL (G : Hp → V → Prop) (te : TE) (σ : L2.St) (H : Hp) (n : Nat) : Prop := ∀ H1, Ex H H1 → ∀ Q : VK, (∀ p xs Hb H2, Ex H1 Hb → Hb p = none → Ex Hb H2 → H2 p = some (.lst xs) → xs.length = n → (∀ x ∈ xs, G Hb x) → Q (.ref p) H2) → te σ H1 Q
theorem egl_lst (h : EvAG G ta σ H n) (hz : n ≤ 1000) : EvGL G (tLst ta) σ H n := fun H1 e Q q => h H1 e _ fun vs H2 e2 hl hs =>
  ⟨sz_of (by omega), fun p hp => q p vs H2 _ e2 hp (Ex.new hp) upd_same hl hs⟩
theorem egl_if {t : TT} {b : Bool} {tb tc : TE} (h : EvT t σ H b) (h1 : b = true → EvGL G tb σ H n) (h2 : b = false → EvGL G tc σ H n) : EvGL G (tIf t tb tc) σ H n := fun H1 e Q q => h H1 e _ fun H2 e2 => by
  cases b with
  | true => exact iteT (h1 rfl H2 (e.trans e2) _ fun p xs Hb H3 eb np e3 h3 => q p xs Hb H3 (e2.trans eb) np e3 h3)
  | false => exact iteF (h2 rfl H2 (e.trans e2) _ fun p xs Hb H3 eb np e3 h3 => q p xs Hb H3 (e2.trans eb) np e3 h3)
theorem q_asgG {D : Ends} {tz : TS} {i : Nat} (h : EvGL G te σ H n) (k : ∀ p xs Hb H1, Ex H Hb → Hb p = none → Ex Hb H1 → H1 p = some (.lst xs) → xs.length = n → (∀ x ∈ xs, G Hb x) → tz D (σ.set i (some (.ref p))) H1) : tSeq (tAsg te (gName i)) tz D σ H := h H (Ex.refl H) _ fun p xs Hb H1 eb np e1 hp hl hs => k p xs Hb H1 eb np e1 hp hl hs
theorem s_extG {D : Ends} {ta : TE} {l : Addr} (hl : H l = some (.lst xs)) (ha : Ev ta σ H (.ref l)) (h : EvGL G te σ H n) (hz : xs.length + n ≤ 1000) (k : ∀ ys H1, Ex H H1 → ys.length = n → (∃ Hb, Ex H Hb ∧ Ex Hb H1 ∧ ∀ y ∈ ys, G Hb y) → D.nx σ (upd H1 l (.lst (xs ++ ys)))) : tDrop (tBM K "list" rExtend ta (tCons te tNil)) D σ H :=
  ha H (Ex.refl H) _ fun H1 e1 => ⟨Or.inl ⟨rfl, xs, sq_of (e1 _ _ hl)⟩, h H1 e1 _ fun p ys Hb H2 eb _ e2 hp hn hs => ⟨l, p, xs, ys, rfl, rfl, e2 _ _ (eb _ _ (e1 _ _ hl)), hp, sz_of (by omega), k ys H2 (e1.trans (eb.trans e2)) hn ⟨Hb, e1.trans eb, e2, hs⟩⟩⟩
theorem ev_notFalse {ta : TE} (ha : Ev ta σ H v) : Ev (tOp rNotBl ta (tC (.bl false))) σ H (.bl (!decide (v = .bl false))) := fun H1 e Q q => ha H1 e _ fun H2 e2 => ⟨false, rfl, q H2 e2⟩
end
end Tf

namespace Tf
open PySem PySem.Spec PyProof.Rows L2 Evl
/-! ### the lambdas of a def's text, in the order of the text -/
mutual
def lamsE : Nat → Str → Expr → List Lam
  | 0, _, _ => []
  | n + 1, q, .Lambda a b s _ => [⟨q, a, b, s⟩]
  | n + 1, q, .List es _ => lamsEs n q es
  | n + 1, q, .BinOp l _ r _ => lamsE n q l ++ lamsE n q r
  | n + 1, q, .BoolOp _ es _ => lamsEs n q es
  | n + 1, q, .UnaryOp _ e _ => lamsE n q e
  | n + 1, q, .Call f es _ _ => lamsE n q f ++ lamsEs n q es
  | _ + 1, _, _ => []
def lamsEs : Nat → Str → List Expr → List Lam
  | 0, _, _ => []
  | _ + 1, _, [] => []
  | n + 1, q, e :: es => lamsE n q e ++ lamsEs n q es
end
mutual
def lamsS : Nat → Str → Stmt → List Lam
  | 0, _, _ => []
  | n + 1, q, .Assign _ e _ => lamsE n q e
  | n + 1, q, .Expr e _ => lamsE n q e
  | n + 1, q, .Return (some e) _ => lamsE n q e
  | n + 1, q, .If e b o _ => lamsE n q e ++ (lamsSs n q b ++ lamsSs n q o)
  | n + 1, q, .For _ _ b o _ => lamsSs n q b ++ lamsSs n q o
  | _ + 1, _, _ => []
def lamsSs : Nat → Str → List Stmt → List Lam
  | 0, _, _ => []
  | _ + 1, _, [] => []
  | n + 1, q, s :: ss => lamsS n q s ++ lamsSs n q ss
end
/-- the i-th lambda of the def st, by the name q -/
def lamAt (q : Str) (st : Stmt) (i : Nat) : Lam := (lamsSs 60 (q ++ ".<locals>." ++ "<lambda>") (defBody st)).getD i ⟨q, ⟨[], [], none, [], [], none, []⟩, .Constant .none 0 ⟨0, 0, 0, 0⟩, ⟨.function, [], false, false, []⟩⟩
end Tf

namespace Tf
open PySem PySem.Spec PyProof.Rows L2 LamX
/-- what is known of a def's code object and its table -/
def TabsKnown (q : Program) (K : PySem.W.Frag) (h : Heap) : Prop := ∀ (x : Str) (c Pt : Addr), ((recsOf q).find? (fun e => e.name == x)).isSome = true → PySem.W.tabIn K x = some (c, Pt) → PySem.W.CodeHd h c Pt ∧ h.get? Pt = some { cls := .none, data := .fields #[] }
theorem walk_tabs {l : PySem.W.OpenLaw} {n k : Nat} {q : Program} {loose : List Str} {XP : (Str → Option Value) → Heap → Prop} {YP : World → Heap → Prop} {d : DefRec} {K : Params → PySem.W.Frag} {CX : World → CXT} {x : Str}
    (hn : l.most = some n) (hn2 : n ≤ sizeLine) (hdf : d.params.defaults = []) (hr : Room k callerA) (hY : ∀ (w : World) (h : Heap), YP w h → (K w.params).In h)
    (F : ∀ (w : World) (mg : Str → Option Value) (fa : Addr) (h : Heap), YP w h → (K w.params).In h → h.Ns mainGlobals mg → mg d.name = some (.ref fa) → TabsKnown q (K w.params) h → LawAtS l w (K w.params) (CX w) k n x mg fa h)
    (hCX : ∀ (w : World) (H : Hp) (s : Shared) (e : Value) (s' : Shared), CX w [] H s (fun _ _ _ => False) e s' → False) :
    PySem.W.WalkO q loose XP YP l.row.toRowW d [] (fun f vs => PySem.call f vs) := by
  refine Att.attach_callB hn hdf fun w s₀ s₁ mg mb fa o pm cd doc a vs ns G Y ho hd hcd hmg hobj hints hlen hbits hg => ?_
  have KX := hY w _ Y
  have own : TabsKnown q (K w.params) s₁.heap := fun x c Pt h1 h2 => by
    obtain ⟨dd, hdd⟩ := Option.isSome_iff_exists.mp h1
    exact PySem.W.tab_of G.T KX hdd h2
  obtain ⟨fd, cs, sp, hT, nT, C, hb, hsp, hF⟩ := F w mg fa _ Y KX G.T.g hmg own
  exact law_callTs KX G.T.g G.T.b G.T.builtins G.T.nolimit hg hT nT C G.T.bmain hobj hints (Nat.le_trans hlen hn2) hr hF hb (fun H hH hS => hsp H a ns hlen hbits hH hS) fun H e s' => hCX w H s₁ e s'
end Tf
namespace Tf
open PySem PySem.Spec PyProof.Rows L2 LamX
theorem tt1 {Pa : Addr} {qa : Str} : ∀ p ∈ [(Pa, qa)], p.1 = Pa → p.2 = qa := fun p hp _ => by rw [List.mem_singleton.mp hp]
theorem tt2_a {Pa Pb : Addr} {qa qb : Str} (ne : Pa ≠ Pb) : ∀ p ∈ [(Pa, qa), (Pb, qb)], p.1 = Pa → p.2 = qa := fun p hp e => by
  rcases List.mem_cons.mp hp with h | h
  · rw [h]
  · rw [List.mem_singleton.mp h] at e
    exact absurd e.symm ne
theorem tt2_b {Pa Pb : Addr} {qa qb : Str} (ne : Pa ≠ Pb) : ∀ p ∈ [(Pa, qa), (Pb, qb)], p.1 = Pb → p.2 = qb := fun p hp e => by
  rcases List.mem_cons.mp hp with h | h
  · rw [h] at e
    exact absurd e ne
  · rw [List.mem_singleton.mp h]
theorem tabs1 {H : Hp} {c P : Addr} {q : Str} (h : ∀ p ∈ [(c, P)], H p.2 = some (.tbl #[])) : Tabs [(P, q)] H := fun p hp => by
  rw [List.mem_singleton.mp hp]
  exact TabS.nil (h (c, P) (.head _))
theorem tabs2 {H : Hp} {c P c' P' : Addr} {q q' : Str} (h : ∀ p ∈ [(c, P), (c', P')], H p.2 = some (.tbl #[])) : Tabs [(P, q), (P', q')] H := fun p hp => by
  rcases List.mem_cons.mp hp with e | e
  · rw [e]
    exact TabS.nil (h (c, P) (.head _))
  · rw [List.mem_singleton.mp e]
    exact TabS.nil (h (c', P') (.tail _ (.head _)))
theorem ever1 {Pr : Addr × Addr → Prop} {a : Addr × Addr} (h : Pr a) : ∀ p ∈ [a], Pr p := fun p hp => by
  rw [List.mem_singleton.mp hp]
  exact h
theorem ever2 {Pr : Addr × Addr → Prop} {a b : Addr × Addr} (h : Pr a) (h' : Pr b) : ∀ p ∈ [a, b], Pr p := fun p hp => by
  rcases List.mem_cons.mp hp with e | e
  · rw [e]
    exact h
  · rw [List.mem_singleton.mp e]
    exact h'
theorem kit_ne {K : PySem.W.Frag} {C D : Addr} (h1 : PySem.W.isClsIn K D = true) (h2 : PySem.W.typeIn K (.ref D) = some (.type "type")) (h3 : PySem.W.subIn K (.ref C) (.ref D) = some false) (h4 : PySem.W.subIn K (.ref D) (.ref D) = some true) : PySem.W.kitOne K (.ref C) (.ref D) = some false :=
  kit_by h1 h2 h3 fun e => by
    subst e
    rw [h3] at h4
    cases h4
theorem kit_ve {K : PySem.W.Frag} {C : Addr} (h : PySem.W.subIn K (.ref C) (.type "ValueError") = some true) : PySem.W.kitOne K (.ref C) (.type "ValueError") = some true := by
  unfold PySem.W.kitOne
  rw [if_neg (by intro z; exact nomatch (eq_of_beq z))]
  show (if PySem.W.kitMeta "ValueError" = true then PySem.W.subIn K (.ref C) (.type "ValueError") else none) = some true
  rw [if_pos (by decide +kernel)]
  exact h
theorem tab_mk {K : PySem.W.Frag} {x : Str} {f c Pt : Addr} {oc e : Value} {od d : Option Addr} {fd : FuncData} {sl s : Array (Option Value)} {vs : Array Value} (a : PySem.W.nsIn K mainGlobals x = some (some (.ref f))) (l : K.lookup f = some ⟨oc, od, .func fd, sl⟩) (hc : fd.code = .ref c)
    (lc : K.lookup c = some ⟨e, d, .fields vs, s⟩) (hp : vs[11]? = some (.ref Pt)) : PySem.W.tabIn K x = some (c, Pt) := by
  unfold PySem.W.tabIn
  rw [a]
  dsimp only
  rw [l]
  dsimp only
  rw [hc]
  dsimp only
  rw [lc]
  dsimp only
  rw [hp]
/-- seven of a kind -/
def cf7 (C0 C1 C2 C3 C4 C5 C6 : Addr) : Nat → Addr
  | 0 => C0
  | 1 => C1
  | 2 => C2
  | 3 => C3
  | 4 => C4
  | 5 => C5
  | _ => C6
end Tf

namespace Tf
open PySem PySem.Spec PyProof.Rows L2 Evl
def topS (i : Nat) : Stmt := PySem.Challenge.pw_turnfigures_k08_whole_known.main.body.getD i (.Pass ⟨0, 0, 0, 0⟩)
/-- names that are still the built-in ones -/
structure Nm (mg : Str → Option Value) : Prop where
  n_isinstance : mg "isinstance" = none
  n_int : mg "int" = none
  n_bool : mg "bool" = none
  n_str : mg "str" = none
  n_list : mg "list" = none
  n_min : mg "min" = none
  n_all : mg "all" = none
  n_any : mg "any" = none
  n_abs : mg "abs" = none
  n_sum : mg "sum" = none
  n_range : mg "range" = none
  n_len : mg "len" = none
  n_ValueError : mg "ValueError" = none
end Tf

namespace Tf
open PySem PySem.Spec PyProof.Rows L2 Evl
/-! ### texts of sides -/
def sd (fr : Bool) : Str := if fr then "front" else "behind"
abbrev vs' (fr : Bool) : V := .str (sd fr)
theorem sd_eq (fr : Bool) : decide (V.str (sd fr) = V.str "front") = fr := by
  cases fr <;> decide +kernel
theorem tyx_mono {K : PySem.W.Frag} {H H' : Hp} {x : V} {t : Value} (e : Ex H H') (h : TyX K H x t) : TyX K H' x t := by
  cases h with
  | base h =>
    cases h with
    | non => exact .base .non
    | bl x => exact .base (.bl x)
    | int i => exact .base (.int i)
    | str x => exact .base (.str x)
    | flt x => exact .base (.flt x)
    | lst h => exact .base (.lst (e _ _ h))
    | frz h => exact .base (.frz (e _ _ h))
    | tup h => exact .base (.tup (e _ _ h))
    | dK h => exact .base (.dK (e _ _ h))
    | dT h => exact .base (.dT (e _ _ h))
    | ins h a b c d f => exact .base (.ins (e _ _ h) a b c d f)
  | byt b => exact .byt b
  | set h => exact .set (e _ _ h)
  | kList h c => exact .kList h c
  | kTuple h c => exact .kTuple h c
  | kDict h c => exact .kDict h c
  | fTuple h => exact .fTuple (e _ _ h)
  | fDict h => exact .fDict (e _ _ h)
section
variable {P : Program} {w : World} {K : PySem.W.Frag} {mg : Str → Option Value} {base : Heap}
def R_is_whole (K : PySem.W.Frag) : List V → Hp → V → Prop := fun vs H v => ∃ (x : V) (t : String) (b c : Bool), vs = [x] ∧ TyX K H x (.type t) ∧ kitB t "int" = some b ∧ kitB t "bool" = some c ∧ v = .bl (b && !c)
theorem r_whole {K : PySem.W.Frag} {H : Hp} (i : Int) : R_is_whole K [.int i] H (.bl true) := ⟨.int i, "int", true, false, rfl, .base (.int i), by decide +kernel, by decide +kernel, rfl⟩
abbrev s_is_whole : Stmt := topS 11
abbrev N_is_whole : List Str := ["thing"]
abbrev P_is_whole : List Str := ["thing"]
theorem sc_is_whole : FnScope N_is_whole P_is_whole (defScope s_is_whole) := ⟨rfl, rfl, rfl, by decide +kernel, rfl, by decide +kernel, by decide +kernel⟩

theorem ok_is_whole {f : Addr} {fd : FuncData} (T : Nm mg) (F : Fun K "is_whole" "is_whole" s_is_whole f fd) : FnOk P w K mg base CX0 1 f fd P_is_whole (spV (R_is_whole K)) := by
  refine F.ok sc_is_whole (fun vs H Q E h => ?_) (fun cdv A outer s H vs Q E hr h => ?_)
  · obtain ⟨v, ⟨x, t, b, c, rfl, _⟩, _⟩ := h
    rfl
  · obtain ⟨v, ⟨x, t, b, c, rfl, hx, hb, hc, rfl⟩, k⟩ := h
    refine ⟨_, (pss_one (ps_ret (pe_and (pe_callB call_isi (by rfl) T.n_isinstance (by decide +kernel) (pa_cons (pv 0) (pa_cons (pe_bltn (v := .ty "int") (by rfl) T.n_int (by decide +kernel) rfl) pa_nil))) (pe_one (pe_not (pe_callB call_isi (by rfl) T.n_isinstance (by decide +kernel) (pa_cons (pv 0) (pa_cons (pe_bltn (v := .ty "bool") (by rfl) T.n_bool (by decide +kernel) rfl) pa_nil)))))))), ?_⟩
    refine s_ret (ev_andV (ev_isi (ev_var rfl) (fun H1 e => tyx_mono e hx) hb) fun _ => ev_notV (ev_isi (ev_var rfl) (fun H1 e => tyx_mono e hx) hc)) k
def R_asked_base : List V → Hp → V → Prop := fun vs _ v => ∃ b : Nat, vs = [vi b] ∧ 3 ≤ b ∧ b ≤ 36 ∧ v = .non
abbrev s_asked_base : Stmt := topS 12
abbrev N_asked_base : List Str := ["base"]
abbrev P_asked_base : List Str := ["base"]
theorem sc_asked_base : FnScope N_asked_base P_asked_base (defScope s_asked_base) := ⟨rfl, rfl, rfl, by decide +kernel, rfl, by decide +kernel, by decide +kernel⟩

theorem ok_asked_base {f : Addr} {fd : FuncData} (F : Fun K "asked_base" "asked_base" s_asked_base f fd) (h_is_whole : Has P w K mg base "is_whole" P_is_whole 1 (spV (R_is_whole K))) : FnOk P w K mg base CX0 2 f fd P_asked_base (spV R_asked_base) := by
  refine F.ok sc_asked_base (fun vs H Q E h => ?_) (fun cdv A outer s H vs Q E hr h => ?_)
  · obtain ⟨v, ⟨b, rfl, _⟩, _⟩ := h
    rfl
  · obtain ⟨v, ⟨b, rfl, h1, h2, rfl⟩, k⟩ := h
    refine ⟨_, (pss_one (ps_if (PW.pt (pw_or (pt_not (pt_val (pe_fn h_is_whole hr (by rfl) (pa_cons (pv 0) pa_nil)))) (pw_or1 (pt_not (pt_chain op_le op_le pe_int (pv 0) pe_int))))) (pss_one ps_never) pss_nil)), ?_⟩
    refine s_when (b := false) (et_is (et_or (et_not (et_B (ev_fn (ea_cons (ev_var rfl) ea_nil) fun _ _ => r_whole _))) fun _ => et_not (et_test (ev_chain ev_c (ev_var rfl) rv_I0 ev_c rv_I0))) ?_) (fun z => nomatch z) (fun _ H1 e1 => k H1 e1)
    have a1 : decide ((3 : Int) ≤ (b : Int)) = true := decide_eq_true (by omega)
    have a2 : decide ((b : Int) ≤ (36 : Int)) = true := decide_eq_true (by omega)
    rw [a1, a2]
    rfl
def R_asked_number : List V → Hp → V → Prop := fun vs _ v => ∃ n : Nat, vs = [vi n] ∧ 1 ≤ n ∧ v = .non
abbrev s_asked_number : Stmt := topS 13
abbrev N_asked_number : List Str := ["number"]
abbrev P_asked_number : List Str := ["number"]
theorem sc_asked_number : FnScope N_asked_number P_asked_number (defScope s_asked_number) := ⟨rfl, rfl, rfl, by decide +kernel, rfl, by decide +kernel, by decide +kernel⟩

theorem ok_asked_number {f : Addr} {fd : FuncData} (F : Fun K "asked_number" "asked_number" s_asked_number f fd) (h_is_whole : Has P w K mg base "is_whole" P_is_whole 1 (spV (R_is_whole K))) : FnOk P w K mg base CX0 2 f fd P_asked_number (spV R_asked_number) := by
  refine F.ok sc_asked_number (fun vs H Q E h => ?_) (fun cdv A outer s H vs Q E hr h => ?_)
  · obtain ⟨v, ⟨b, rfl, _⟩, _⟩ := h
    rfl
  · obtain ⟨v, ⟨n, rfl, h1, rfl⟩, k⟩ := h
    refine ⟨_, (pss_one (ps_if (PW.pt (pw_or (pt_not (pt_val (pe_fn h_is_whole hr (by rfl) (pa_cons (pv 0) pa_nil)))) (pw_or1 (pt_cmpR op_lt (pv 0) pe_int (nomark _))))) (pss_one ps_never) pss_nil)), ?_⟩
    refine s_when (b := false) (et_is (et_or (et_not (et_B (ev_fn (ea_cons (ev_var rfl) ea_nil) fun _ _ => r_whole _))) fun _ => et_test (ev_op (ev_var rfl) ev_c rv_I0)) ?_) (fun z => nomatch z) (fun _ H1 e1 => k H1 e1)
    rw [decide_eq_false (show ¬ ((n : Int) < 1) by omega)]
    rfl
def R_asked_side : List V → Hp → V → Prop := fun vs _ v => ∃ fr : Bool, vs = [vs' fr] ∧ v = .non
/-- the module's SIDES -/
structure Sides (K : PySem.W.Frag) (mg : Str → Option Value) (a : Addr) : Prop where
  g : mg "SIDES" = some (.ref a)
  t : ∀ H : Hp, SqT K H a [.str "front", .str "behind"]
theorem in_sides (fr : Bool) : inV (.str (sd fr)) [.str "front", .str "behind"] = true := by
  cases fr <;> decide +kernel
abbrev s_asked_side : Stmt := topS 14
abbrev N_asked_side : List Str := ["side"]
abbrev P_asked_side : List Str := ["side"]
theorem sc_asked_side : FnScope N_asked_side P_asked_side (defScope s_asked_side) := ⟨rfl, rfl, rfl, by decide +kernel, rfl, by decide +kernel, by decide +kernel⟩

theorem ok_asked_side {f aS : Addr} {fd : FuncData} (T : Nm mg) (S : Sides K mg aS) (F : Fun K "asked_side" "asked_side" s_asked_side f fd) : FnOk P w K mg base CX0 1 f fd P_asked_side (spV R_asked_side) := by
  refine F.ok sc_asked_side (fun vs H Q E h => ?_) (fun cdv A outer s H vs Q E hr h => ?_)
  · obtain ⟨v, ⟨b, rfl, _⟩, _⟩ := h
    rfl
  · obtain ⟨v, ⟨fr, rfl, rfl⟩, k⟩ := h
    refine ⟨_, (pss_one (ps_if (PW.pt (pw_or (pt_not (pt_val (pe_callB call_isi (by rfl) T.n_isinstance (by decide +kernel) (pa_cons (pv 0) (pa_cons (pe_bltn (v := .ty "str") (by rfl) T.n_str (by decide +kernel) rfl) pa_nil))))) (pw_or1 (pt_cmpR op_notIn_seq (pv 0) (pe_glob (v := .ref aS) rfl S.g rfl) (by rfl))))) (pss_one ps_never) pss_nil)), ?_⟩
    refine s_when (b := false) (et_is (et_or (et_not (et_B (ev_isi (b := true) (ev_var rfl) (fun H1 e => .base (.str _)) (by decide +kernel)))) fun _ => et_test (ev_op (ev_var rfl) ev_c (rv_niT (S.t _) rfl rfl))) ?_) (fun z => nomatch z) (fun _ H1 e1 => k H1 e1)
    rw [in_sides]
    rfl
def R_figs : List V → Hp → List V → Prop := fun vs _ xs => ∃ b n : Nat, vs = [vi b, vi n] ∧ 2 ≤ b ∧ b ≤ 36 ∧ n < 2 ^ 50000 ∧ xs = vl (figs b n)
abbrev s_figures_of : Stmt := topS 15
abbrev N_figures_of : List Str := ["base", "number", "found"]
abbrev P_figures_of : List Str := ["base", "number"]
theorem sc_figures_of : FnScope N_figures_of P_figures_of (defScope s_figures_of) := ⟨rfl, rfl, rfl, by decide +kernel, rfl, by decide +kernel, by decide +kernel⟩

theorem ok_figures_of {f : Addr} {fd : FuncData} (F : Fun K "figures_of" "figures_of" s_figures_of f fd) : FnOk P w K mg base CX0 1 f fd P_figures_of (spL R_figs) := by
  refine F.ok sc_figures_of (fun vs H Q E h => ?_) (fun cdv A outer s H vs Q E hr h => ?_)
  · obtain ⟨v, ⟨b, n, rfl, _⟩, _⟩ := h
    rfl
  · obtain ⟨xs, ⟨b, n, rfl, hb, hb2, hn, rfl⟩, k⟩ := h
    refine ⟨_, (pss_cons (ps_set (i := 2) sc_figures_of.nd rfl (.inl rfl) (pe_lst pa_nil))
      (pss_cons (ps_while PassesOwn.never (pt_cmpR op_gt (pv 1) pe_int (nomark _)) (pss_cons (ps_expr (pe_bm PySem.F.plainAttrs_list PySem.F.slot_list_append PySem.F.type_list_append mt_append (pv 2) (pa_cons (pe_op op_mod (pv 1) (pv 0)) pa_nil)))
      (pss_one (ps_set (i := 1) sc_figures_of.nd rfl (.inl rfl) (pe_op op_fdiv (pv 1) (pv 0))))))
      (pss_one (ps_ret (pe_revL (pv 2)))))), ?_⟩
    refine q_asgL (el_lst ea_nil (Nat.zero_le _)) fun p H1 np e1 hp => ?_
    have hlen : (low b n).length ≤ 50000 := by
      have := figs_len2 hb hn
      unfold figs at this
      rw [List.length_reverse] at this
      exact this
    refine q_while (fun m σ H' => ∃ acc : List Nat, σ = [some (vi b), some (vi m), some (.ref p)] ∧ Ex H H' ∧ H' p = some (.lst (vl acc)) ∧ acc ++ low b m = low b n) n ⟨[], rfl, e1, hp, rfl⟩ ?_
    rintro m σ' H' ⟨acc, rfl, e2, hp2, ha⟩
    refine ⟨_, et_test (ev_op (ev_var rfl) ev_c rv_I0), fun hm H3 e3 => ⟨_, fun σ2 H2 z => z, ?_⟩, fun hm H3 e3 => ?_⟩
    · have hm' : 0 < m := by
        have := of_decide_eq_true hm
        omega
      have hl := low_pos (b := b) hb hm'
      rw [hl] at ha
      have hacc : acc.length < 100000 := by
        have := congrArg List.length ha
        rw [List.length_append] at this
        omega
      refine q_app (e3 _ _ hp2) (ev_var rfl) (ev_op (ev_var rfl) (ev_var rfl) (rv_I (show (0 : Int) < (b : Int) by omega))) (by rw [List.length_map]; exact hacc) fun H4 e4 => ?_
      refine s_asg (ev_op (ev_var rfl) (ev_var rfl) (rv_I ⟨show (0 : Int) < (b : Int) by omega, show (b : Int) < 1073741824 by omega⟩)) fun H5 e5 => ?_
      refine ⟨m / b, div_lt hb hm', acc ++ [m % b], rfl, ?_, ?_, ?_⟩
      · exact (Ex.mut ((e2.trans e3).trans e4) np).trans e5
      · rw [e5 _ _ upd_same, vl_app]
        rfl
      · rw [List.append_assoc]
        exact ha
    · have hm' : m = 0 := by
        have := of_decide_eq_false hm
        omega
      subst hm'
      rw [low_zero, List.append_nil] at ha
      subst ha
      refine s_retL (xs := vl (figs b n)) ?_ fun q H4 nq e4 hq => k q H4 (fresh_back (e2.trans e3) nq) ((e2.trans e3).trans e4) hq
      have := el_rev (K := K) (te := tVar 2) (σ := [some (vi b), some (vi 0), some (.ref p)]) (eq_old (ev_var rfl) (sq_of (e3 _ _ hp2)))
      unfold vl figs
      rw [List.map_reverse]
      exact this
def R_figures : List V → Hp → List V → Prop := fun vs _ xs => ∃ b n : Nat, vs = [vi b, vi n] ∧ 3 ≤ b ∧ b ≤ 36 ∧ 1 ≤ n ∧ n < 2 ^ 50000 ∧ xs = vl (figs b n)
abbrev s_figures : Stmt := topS 16
abbrev N_figures : List Str := ["base", "number"]
abbrev P_figures : List Str := ["base", "number"]
theorem sc_figures : FnScope N_figures P_figures (defScope s_figures) := ⟨rfl, rfl, rfl, by decide +kernel, rfl, by decide +kernel, by decide +kernel⟩

theorem ok_figures {f : Addr} {fd : FuncData} (F : Fun K "figures" "figures" s_figures f fd) (h_asked_base : Has P w K mg base "asked_base" P_asked_base 2 (spV R_asked_base)) (h_asked_number : Has P w K mg base "asked_number" P_asked_number 2 (spV R_asked_number))
    (h_figures_of : Has P w K mg base "figures_of" P_figures_of 1 (spL R_figs)) : FnOk P w K mg base CX0 3 f fd P_figures (spL R_figures) := by
  refine F.ok sc_figures (fun vs H Q E h => ?_) (fun cdv A outer s H vs Q E hr h => ?_)
  · obtain ⟨v, ⟨b, n, rfl, _⟩, _⟩ := h
    rfl
  · obtain ⟨xs, ⟨b, n, rfl, h1, h2, h3, h4, rfl⟩, k⟩ := h
    refine ⟨_, (pss_cons (ps_expr (pe_fn h_asked_base hr (by rfl) (pa_cons (pv 0) pa_nil)))
      (pss_cons (ps_expr (pe_fn h_asked_number hr (by rfl) (pa_cons (pv 1) pa_nil)))
      (pss_one (ps_ret (pe_fn h_figures_of hr (by rfl) (pa_cons (pv 0) (pa_cons (pv 1) pa_nil))))))), ?_⟩
    refine q_drop (ev_fn (v := .non) (ea_cons (ev_var rfl) ea_nil) fun _ _ => ⟨b, rfl, h1, h2, rfl⟩) fun H1 e1 => ?_
    refine q_drop (ev_fn (v := .non) (ea_cons (ev_var rfl) ea_nil) fun _ _ => ⟨n, rfl, h3, rfl⟩) fun H2 e2 => ?_
    exact s_retL (el_fn (ea_cons (ev_var rfl) (ea_cons (ev_var rfl) ea_nil)) fun _ _ => ⟨b, n, rfl, by omega, h2, h4, rfl⟩) fun q H4 nq e4 hq => k q H4 (fresh_back (e1.trans e2) nq) ((e1.trans e2).trans e4) hq
def R_worth (K : PySem.W.Frag) : List V → Hp → V → Prop := fun vs H v => ∃ (b : Nat) (a : Addr) (ds : List Nat), vs = [vi b, .ref a] ∧ b ≤ 36 ∧ SqL K H a (vl ds) ∧ v = vi (wr b ds)
theorem get_vl {ds : List Nat} {i : Nat} {x : V} (h : (vl ds)[i]? = some x) : ∃ d, ds[i]? = some d ∧ x = vi d := by
  rw [List.getElem?_map] at h
  cases e : ds[i]? with
  | none =>
    rw [e] at h
    cases h
  | some d =>
    rw [e] at h
    exact ⟨d, rfl, (Option.some.inj h).symm⟩
abbrev s_worth : Stmt := topS 17
abbrev N_worth : List Str := ["base", "row", "found", "figure"]
abbrev P_worth : List Str := ["base", "row"]
theorem sc_worth : FnScope N_worth P_worth (defScope s_worth) := ⟨rfl, rfl, rfl, by decide +kernel, rfl, by decide +kernel, by decide +kernel⟩

theorem ok_worth {f : Addr} {fd : FuncData} (F : Fun K "worth" "worth" s_worth f fd) : FnOk P w K mg base CX0 1 f fd P_worth (spV (R_worth K)) := by
  refine F.ok sc_worth (fun vs H Q E h => ?_) (fun cdv A outer s H vs Q E hr h => ?_)
  · obtain ⟨v, ⟨b, a, ds, rfl, _⟩, _⟩ := h
    rfl
  · obtain ⟨v, ⟨b, a, ds, rfl, hb, hS, rfl⟩, k⟩ := h
    refine ⟨_, (pss_cons (ps_set (i := 2) sc_worth.nd rfl (.inl rfl) pe_int)
      (pss_cons (ps_for PassesOwn.never rfl (pi_list (pv 1)) (pg_name (i := 3) sc_worth.nd rfl (.inl rfl)) (pss_one (ps_set (i := 2) sc_worth.nd rfl (.inl rfl) (pe_op op_add (pe_op op_mul (pv 2) (pv 0)) (pv 3)))))
      (pss_one (ps_ret (pv 2))))), ?_⟩
    refine q_asg ev_c fun H1 e1 => ?_
    refine q_forLn (ev_var rfl) (ex_l e1 hS) (fun i σ H' => ∃ x, σ = [some (vi b), some (.ref a), some (vi (wr b (ds.take i))), x] ∧ Ex H H') (fun H2 e2 => ⟨none, rfl, e1.trans e2⟩) (fun i σ' H' _ ⟨x, _, e⟩ => ex_l e hS) ?_ ?_
    · rintro i x σ' H' hx ⟨y, rfl, e2⟩
      obtain ⟨d, hd, rfl⟩ := get_vl hx
      refine s_asg (ev_op (ev_op (ev_var rfl) (ev_var rfl) (rv_I (.inr ⟨?_, ?_⟩))) (ev_var rfl) rv_I0) fun H3 e3 => ⟨some (vi d), ?_, e2.trans e3⟩
      · show (-(2 ^ 64) : Int) < (b : Int)
        omega
      · show (b : Int) < 2 ^ 64
        omega
      · rw [wr_take hd]
        rfl
    · rintro σ' H' ⟨x, rfl, e2⟩
      refine s_ret (ev_var rfl) fun H3 e3 => ?_
      rw [List.length_map, List.take_length]
      exact k H3 (e2.trans e3)
def R_number_of (K : PySem.W.Frag) : List V → Hp → V → Prop := fun vs H v => ∃ (b : Nat) (a : Addr) (ds : List Nat), vs = [vi b, .ref a] ∧ 3 ≤ b ∧ b ≤ 36 ∧ H a = some (.lst (vl ds)) ∧ ds.length ≤ 20000 ∧ (∀ d ∈ ds, d < b) ∧ (∃ d, ds[0]? = some d ∧ 0 < d) ∧ v = vi (wr b ds)
abbrev s_number_of : Stmt := topS 18
abbrev N_number_of : List Str := ["base", "row", "one"]
abbrev P_number_of : List Str := ["base", "row"]
theorem sc_number_of : FnScope N_number_of P_number_of (defScope s_number_of) := ⟨rfl, rfl, rfl, by decide +kernel, rfl, by decide +kernel, by decide +kernel⟩

theorem ok_number_of {f : Addr} {fd : FuncData} (T : Nm mg) (F : Fun K "number_of" "number_of" s_number_of f fd) (h_asked_base : Has P w K mg base "asked_base" P_asked_base 2 (spV R_asked_base)) (h_is_whole : Has P w K mg base "is_whole" P_is_whole 1 (spV (R_is_whole K)))
    (h_worth : Has P w K mg base "worth" P_worth 1 (spV (R_worth K))) : FnOk P w K mg base CX0 3 f fd P_number_of (spV (R_number_of K)) := by
  refine F.ok sc_number_of (fun vs H Q E h => ?_) (fun cdv A outer s H vs Q E hr h => ?_)
  · obtain ⟨v, ⟨b, a, ds, rfl, _⟩, _⟩ := h
    rfl
  · obtain ⟨v, ⟨b, a, ds, rfl, h1, h2, hS, hl, hlt, ⟨d0, hd0, hd1⟩, rfl⟩, k⟩ := h
    refine ⟨_, (pss_cons (ps_expr (pe_fn h_asked_base hr (by rfl) (pa_cons (pv 0) pa_nil)))
      (pss_cons (ps_if (PW.pt (pw_or (pt_not (pt_val (pe_callB call_isi (by rfl) T.n_isinstance (by decide +kernel) (pa_cons (pv 1) (pa_cons (pe_bltn (v := .ty "list") (by rfl) T.n_list (by decide +kernel) rfl) pa_nil))))) (pw_or (pt_cmpR (op_eqD hr.units) (pv 1) (pe_lst pa_nil) (nomark _)) (pw_or1 (pt_not (pt_val (pe_callB (cr_all rfl) (by rfl) T.n_all (by decide +kernel) (pa_cons (pe_lc (own := [("one", 2)]) (g := gName 2) (tt := tYes) rfl sc_number_of.nd (pi_list (pv 1)) (blkOk_by (own := [("one", 2)]) (N := N_number_of) (sc := defScope s_number_of) (by decide +kernel)) (fun _ _ _ _ _ => pg_name (i := 2) sc_number_of.nd rfl (.inl rfl)) (fun _ _ _ _ _ => pts_nil) (fun _ _ _ _ _ => (pe_and (pe_fn h_is_whole hr (by rfl) (pa_cons (pv 2) pa_nil)) (pe_one (pe_chain op_le op_lt pe_int (pv 2) (pv 0)))))) pa_nil)))))))) (pss_one ps_never) pss_nil)
      (pss_cons (ps_if (pt_cmpR op_eq (pe_ix ix_list (pv 1) pe_int (fun _ _ => rfl)) pe_int (nomark _)) (pss_one ps_never) pss_nil)
      (pss_one (ps_ret (pe_fn h_worth hr (by rfl) (pa_cons (pv 0) (pa_cons (pv 1) pa_nil)))))))), ?_⟩
    refine q_drop (ev_fn (v := .non) (ea_cons (ev_var rfl) ea_nil) fun _ _ => ⟨b, rfl, h1, h2, rfl⟩) fun H1 e1 => ?_
    have hne : ds ≠ [] := fun z => by
      rw [z] at hd0
      cases hd0
    have hS1 := e1 _ _ hS
    refine q_when (b := false) (et_is (et_or (et_not (et_B (ev_isiS (b := true) (es_old (ev_var rfl) hS1) (by decide +kernel)))) fun _ => et_or (et_test (ev_eqN (ms := []) (eq_of (es_old (ev_var rfl) hS1)) (eq_new (el_lst ea_nil (Nat.zero_le _))))) fun _ =>
      et_not (et_B (ev_all (bs := ds.map fun _ => true) (eq_new ?_)))) ?_) (fun z => nomatch z) fun _ H2 e2 => ?_
    · have g := el_lcL (K := K) (te := ?te) (tl := tVar 1) (t := tYes) (j := 2) (vs := [2]) (σ := [some (vi b), some (.ref a), none]) (fun _ => true) (fun _ => V.bl true) (ev_var rfl) (sq_of hS1) (by rw [List.length_map]; omega) (fun x => rfl) (fun i x H3 e3 _ => et_yes) (fun i x H3 e3 hx _ => ?_)
      · rw [given_all, List.length_map] at g
        have e : (List.range ds.length).map (fun _ => V.bl true) = (ds.map fun _ => true).map V.bl := by
          rw [List.map_map]
          apply List.ext_getElem
          · simp
          · intro i q1 q2
            simp
        rw [e] at g
        exact g
      · obtain ⟨d, hd, rfl⟩ := get_vl hx
        have hdb := hlt d (List.mem_of_getElem? hd)
        refine ev_is (ev_andV (ev_fn (ea_cons (ev_var rfl) ea_nil) fun _ _ => r_whole _) fun _ => ev_chain ev_c (ev_var rfl) rv_I0 (ev_var rfl) rv_I0) ?_
        rw [decide_eq_true (show (0 : Int) ≤ (d : Int) by omega), decide_eq_true (show (d : Int) < (b : Int) by omega)]
        rfl
    · rw [decide_eq_false hne]
      have : (ds.map fun _ => true).all id = true := by simp
      rw [this]
      rfl
    · have hS2 := e2 _ _ hS1
      refine q_when (b := false) (et_is (et_test (ev_op (ev_ix (eq_of (es_old (ev_var rfl) hS2)) ev_c (atI_nat (j := 0) (v := vi d0) (by rw [List.getElem?_map, hd0]; rfl))) ev_c (rv_eq rfl))) ?_) (fun z => nomatch z) fun _ H3 e3 => ?_
      · refine decide_eq_false fun z => ?_
        have := V.int.inj z
        omega
      · refine s_ret (ev_fn (ea_cons (ev_var rfl) (ea_cons (ev_var rfl) ea_nil)) fun H4 e4 => ⟨b, a, ds, rfl, h2, sq_of (e4 _ _ (e3 _ _ hS2)), rfl⟩) fun H4 e4 => k H4 (((e1.trans e2).trans e3).trans e4)
/-! slices of rows -/
theorem cut_last (ds : List Nat) : cutV (vl ds) (some (-1)) none = vl (ds.drop (ds.length - 1)) := by
  unfold cutV
  rw [HT.sIx_none, List.length_map]
  have e : HT.sIx ds.length 0 (some (-1)) = ds.length - 1 := by
    show (if (-1 : Int) < 0 then (-1 + (ds.length : Int)).toNat else min (-1 : Int).toNat ds.length) = _
    rw [if_pos (by decide)]
    omega
  rw [e, List.take_of_length_le (by rw [List.length_drop, List.length_map]; omega), vl_drop]
theorem cut_init (ds : List Nat) : cutV (vl ds) none (some (-1)) = vl (ds.take (ds.length - 1)) := by
  unfold cutV
  rw [HT.sIx_none, List.length_map, List.drop_zero]
  have e : HT.sIx ds.length ds.length (some (-1)) = ds.length - 1 := by
    show (if (-1 : Int) < 0 then (-1 + (ds.length : Int)).toNat else min (-1 : Int).toNat ds.length) = _
    rw [if_pos (by decide)]
    omega
  rw [e, vl_take, Nat.sub_zero]
theorem cut_from (ds : List Nat) (k : Nat) : cutV (vl ds) (some (k : Int)) none = vl (ds.drop k) := by
  unfold cutV
  rw [HT.sIx_none, HT.sIx_nat, List.length_map, List.take_of_length_le (by rw [List.length_drop, List.length_map]; omega), vl_drop]
  by_cases h : k ≤ ds.length
  · rw [Nat.min_eq_left h]
  · rw [Nat.min_eq_right (by omega), List.drop_of_length_le (by simp), List.drop_of_length_le (by simp; omega)]
theorem cut_to (ds : List Nat) (k : Nat) : cutV (vl ds) none (some (k : Int)) = vl (ds.take k) := by
  unfold cutV
  rw [HT.sIx_none, HT.sIx_nat, List.length_map, List.drop_zero, Nat.sub_zero, vl_take]
  by_cases h : k ≤ ds.length
  · rw [Nat.min_eq_left h]
  · rw [Nat.min_eq_right (by omega), List.take_of_length_le (by simp), List.take_of_length_le (by simp; omega)]
def R_moved_of : List V → Hp → V → Prop := fun vs _ v => ∃ (b n : Nat) (fr : Bool), vs = [vi b, vi n, vs' fr] ∧ 2 ≤ b ∧ b ≤ 36 ∧ n < 2 ^ 50000 ∧ v = vi (mv b n fr)
abbrev s_moved_of : Stmt := topS 19
abbrev N_moved_of : List Str := ["base", "number", "side", "row", "turned"]
abbrev P_moved_of : List Str := ["base", "number", "side"]
theorem sc_moved_of : FnScope N_moved_of P_moved_of (defScope s_moved_of) := ⟨rfl, rfl, rfl, by decide +kernel, rfl, by decide +kernel, by decide +kernel⟩

theorem ok_moved_of {f : Addr} {fd : FuncData} (F : Fun K "moved_of" "moved_of" s_moved_of f fd) (h_figures_of : Has P w K mg base "figures_of" P_figures_of 1 (spL R_figs)) (h_worth : Has P w K mg base "worth" P_worth 1 (spV (R_worth K))) :
    FnOk P w K mg base CX0 2 f fd P_moved_of (spV R_moved_of) := by
  refine F.ok sc_moved_of (fun vs H Q E h => ?_) (fun cdv A outer s H vs Q E hr h => ?_)
  · obtain ⟨v, ⟨b, n, fr, rfl, _⟩, _⟩ := h
    rfl
  · obtain ⟨v, ⟨b, n, fr, rfl, h1, h2, hn, rfl⟩, k⟩ := h
    refine ⟨_, (pss_cons (ps_set (i := 3) sc_moved_of.nd rfl (.inl rfl) (pe_fn h_figures_of hr (by rfl) (pa_cons (pv 0) (pa_cons (pv 1) pa_nil))))
      (pss_cons (ps_set (i := 4) sc_moved_of.nd rfl (.inl rfl) (pe_ifExp (pt_cmpR op_eq (pv 2) pe_str (nomark _)) (pe_op op_cat (pe_slice sl_list (pv 3) (po_some (pe_un un_neg pe_int)) po_none) (pe_slice sl_list (pv 3) po_none (po_some (pe_un un_neg pe_int)))) (pe_op op_cat (pe_slice sl_list (pv 3) (po_some pe_int) po_none) (pe_slice sl_list (pv 3) po_none (po_some pe_int)))))
      (pss_one (ps_ret (pe_fn h_worth hr (by rfl) (pa_cons (pv 0) (pa_cons (pv 4) pa_nil))))))), ?_⟩
    refine q_asgL (el_fn (ea_cons (ev_var rfl) (ea_cons (ev_var rfl) ea_nil)) fun _ _ => ⟨b, n, rfl, h1, h2, hn, rfl⟩) fun p H1 np e1 hp => ?_
    have hlen := figs_len2 h1 hn
    refine q_asgL (xs := vl (rot fr (figs b n))) (el_if (b := fr) (et_is (et_test (ev_op (ev_var rfl) ev_c (rv_eq rfl))) (sd_eq fr)) (fun hb => ?_) (fun hb => ?_)) fun q H2 nq e2 hq => ?_
    · subst hb
      refine el_is (el_cat (es_new (el_cut (eq_old (ev_var rfl) (sq_of hp)) (eo_some (ev_un ev_c ru_neg)) eo_none)) (es_new (el_cut (eq_old (ev_var rfl) (sq_of hp)) eo_none (eo_some (ev_un ev_c ru_neg)))) ?_) ?_
      · have q1 := cutV_length (vl (figs b n)) (some (-1)) none
        have q2 := cutV_length (vl (figs b n)) none (some (-1))
        rw [List.length_map] at q1 q2
        omega
      · rw [cut_last, cut_init, ← vl_app]
        rfl
    · subst hb
      refine el_is (el_cat (es_new (el_cut (eq_old (ev_var rfl) (sq_of hp)) (eo_some ev_c) eo_none)) (es_new (el_cut (eq_old (ev_var rfl) (sq_of hp)) eo_none (eo_some ev_c))) ?_) ?_
      · have q1 := cutV_length (vl (figs b n)) (some 1) none
        have q2 := cutV_length (vl (figs b n)) none (some 1)
        rw [List.length_map] at q1 q2
        omega
      · rw [show (1 : Int) = ((1 : Nat) : Int) from rfl, cut_from, cut_to, ← vl_app]
        rfl
    · exact s_ret (ev_fn (ea_cons (ev_var rfl) (ea_cons (ev_var rfl) ea_nil)) fun H3 e3 => ⟨b, q, _, rfl, h2, sq_of (e3 _ _ hq), rfl⟩) fun H3 e3 => k H3 ((e1.trans e2).trans e3)
def R_moved : List V → Hp → V → Prop := fun vs _ v => ∃ (b n : Nat) (fr : Bool), vs = [vi b, vi n, vs' fr] ∧ 3 ≤ b ∧ b ≤ 36 ∧ 1 ≤ n ∧ n < 2 ^ 50000 ∧ v = vi (mv b n fr)
abbrev s_moved : Stmt := topS 20
abbrev N_moved : List Str := ["base", "number", "side"]
abbrev P_moved : List Str := ["base", "number", "side"]
theorem sc_moved : FnScope N_moved P_moved (defScope s_moved) := ⟨rfl, rfl, rfl, by decide +kernel, rfl, by decide +kernel, by decide +kernel⟩

theorem ok_moved {f : Addr} {fd : FuncData} (F : Fun K "moved" "moved" s_moved f fd) (h_asked_base : Has P w K mg base "asked_base" P_asked_base 2 (spV R_asked_base)) (h_asked_number : Has P w K mg base "asked_number" P_asked_number 2 (spV R_asked_number))
    (h_asked_side : Has P w K mg base "asked_side" P_asked_side 1 (spV R_asked_side)) (h_moved_of : Has P w K mg base "moved_of" P_moved_of 2 (spV R_moved_of)) : FnOk P w K mg base CX0 3 f fd P_moved (spV R_moved) := by
  refine F.ok sc_moved (fun vs H Q E h => ?_) (fun cdv A outer s H vs Q E hr h => ?_)
  · obtain ⟨v, ⟨b, n, fr, rfl, _⟩, _⟩ := h
    rfl
  · obtain ⟨v, ⟨b, n, fr, rfl, h1, h2, h3, h4, rfl⟩, k⟩ := h
    refine ⟨_, (pss_cons (ps_expr (pe_fn h_asked_base hr (by rfl) (pa_cons (pv 0) pa_nil)))
      (pss_cons (ps_expr (pe_fn h_asked_number hr (by rfl) (pa_cons (pv 1) pa_nil)))
      (pss_cons (ps_expr (pe_fn h_asked_side hr (by rfl) (pa_cons (pv 2) pa_nil)))
      (pss_one (ps_ret (pe_fn h_moved_of hr (by rfl) (pa_cons (pv 0) (pa_cons (pv 1) (pa_cons (pv 2) pa_nil))))))))), ?_⟩
    refine q_drop (ev_fn (v := .non) (ea_cons (ev_var rfl) ea_nil) fun _ _ => ⟨b, rfl, h1, h2, rfl⟩) fun H1 e1 => ?_
    refine q_drop (ev_fn (v := .non) (ea_cons (ev_var rfl) ea_nil) fun _ _ => ⟨n, rfl, h3, rfl⟩) fun H2 e2 => ?_
    refine q_drop (ev_fn (v := .non) (ea_cons (ev_var rfl) ea_nil) fun _ _ => ⟨fr, rfl, rfl⟩) fun H3 e3 => ?_
    exact s_ret (ev_fn (ea_cons (ev_var rfl) (ea_cons (ev_var rfl) (ea_cons (ev_var rfl) ea_nil))) fun _ _ => ⟨b, n, fr, rfl, by omega, h2, h4, rfl⟩) fun H4 e4 => k H4 (((e1.trans e2).trans e3).trans e4)
end
end Tf

namespace Tf
open PySem PySem.Spec PyProof.Rows L2 Evl
/-! ### answers.py, turning.py: lengths -/
def optV : Option Nat → V
  | none => .non
  | some k => vi k
theorem optV_eq (x y : Option Nat) : decide (optV x = optV y) = decide (x = y) := by
  cases x with
  | none =>
    cases y with
    | none => rfl
    | some k => rfl
  | some k =>
    cases y with
    | none => rfl
    | some l =>
      by_cases h : k = l
      · subst h
        rw [decide_eq_true rfl, decide_eq_true rfl]
      · rw [decide_eq_false, decide_eq_false]
        · intro e
          exact h (Option.some.inj e)
        · intro e
          have := V.int.inj e
          omega
theorem scal_opt (x y : Option Nat) : scal (optV x) (optV y) = true := by
  cases x <;> cases y <;> rfl
theorem vi_inj {a b : Nat} (h : vi a = vi b) : a = b := by
  have := V.int.inj h
  omega
theorem dec_cast_lt (a b : Nat) : decide ((a : Int) < (b : Int)) = decide (a < b) := by
  by_cases h : a < b
  · rw [decide_eq_true h, decide_eq_true (Int.ofNat_lt.mpr h)]
  · rw [decide_eq_false h, decide_eq_false fun q => h (Int.ofNat_lt.mp q)]
theorem dec_cast_le (a b : Nat) : decide ((a : Int) ≤ (b : Int)) = decide (a ≤ b) := by
  by_cases h : a ≤ b
  · rw [decide_eq_true h, decide_eq_true (Int.ofNat_le.mpr h)]
  · rw [decide_eq_false h, decide_eq_false fun q => h (Int.ofNat_le.mp q)]
theorem dec_vi (a b : Nat) : decide (vi a = vi b) = decide (a = b) := by
  by_cases h : a = b
  · subst h
    rw [decide_eq_true rfl, decide_eq_true rfl]
  · rw [decide_eq_false h, decide_eq_false fun q => h (vi_inj q)]
/-- base, factor and figure by a number -/
theorem bfd_of (n : Nat) (b : Nat) (h3 : 3 ≤ b) (h36 : b ≤ 36) : Bfd b (2 + n / 34 % (b - 2)) (1 + n / 1200 % (b - 1)) := by
  have h1 := Nat.mod_lt (n / 34) (show 0 < b - 2 by omega)
  have h2 := Nat.mod_lt (n / 1200) (show 0 < b - 1 by omega)
  exact ⟨h3, h36, by omega, by omega, by omega, by omega⟩
section
variable {P : Program} {w : World} {K : PySem.W.Frag} {mg : Str → Option Value} {base : Heap}
def R_common : List V → Hp → V → Prop := fun vs _ v => ∃ a b : Nat, vs = [vi a, vi b] ∧ v = vi (Nat.gcd a b)
abbrev s_common : Stmt := topS 22
abbrev N_common : List Str := ["one", "other"]
abbrev P_common : List Str := ["one", "other"]
theorem sc_common : FnScope N_common P_common (defScope s_common) := ⟨rfl, rfl, rfl, by decide +kernel, rfl, by decide +kernel, by decide +kernel⟩

theorem ok_common {f : Addr} {fd : FuncData} (F : Fun K "common" "common" s_common f fd) : FnOk P w K mg base CX0 1 f fd P_common (spV R_common) := by
  refine F.ok sc_common (fun vs H Q E h => ?_) (fun cdv A outer s H vs Q E hr h => ?_)
  · obtain ⟨v, ⟨a, b, rfl, _⟩, _⟩ := h
    rfl
  · obtain ⟨v, ⟨a, b, rfl, rfl⟩, k⟩ := h
    refine ⟨_, (pss_cons (ps_while PassesOwn.never (pt_cmpR op_gt (pv 1) pe_int (nomark _)) (pss_one (ps_par (i := 0) (j := 1) (by rfl) sc_common.nd rfl rfl (by decide) rfl rfl (pa_cons (pv 1) (pa_cons (pe_op op_mod (pv 0) (pv 1)) pa_nil)) (by rfl))))
      (pss_one (ps_ret (pv 0)))), ?_⟩
    refine q_while (fun m σ H' => ∃ x : Nat, σ = [some (vi x), some (vi m)] ∧ Ex H H' ∧ Nat.gcd x m = Nat.gcd a b) b ⟨a, rfl, Ex.refl _, rfl⟩ ?_
    rintro m σ' H' ⟨x, rfl, e1, hg⟩
    refine ⟨_, et_test (ev_op (ev_var rfl) ev_c rv_I0), fun hm H3 e3 => ⟨_, fun σ2 H2 z => z, ?_⟩, fun hm H3 e3 => ?_⟩
    · have hm' : 0 < m := by
        have := of_decide_eq_true hm
        omega
      refine s_par (ea_cons (ev_var rfl) (ea_cons (ev_op (ev_var rfl) (ev_var rfl) (rv_I (show (0 : Int) < (m : Int) by omega))) ea_nil)) fun H4 e4 => ⟨x % m, Nat.mod_lt _ hm', m, rfl, (e1.trans e3).trans e4, ?_⟩
      rw [Nat.gcd_comm, ← Nat.gcd_rec, Nat.gcd_comm]
      exact hg
    · have hm' : m = 0 := by
        have := of_decide_eq_false hm
        omega
      subst hm'
      rw [Nat.gcd_zero_right] at hg
      subst hg
      exact s_ret (ev_var rfl) fun H4 e4 => k H4 ((e1.trans e3).trans e4)
def R_often_back : List V → Hp → V → Prop := fun vs _ v => ∃ g n : Nat, vs = [vi g, vi n] ∧ 1 ≤ g ∧ g ≤ 36 ∧ 1 ≤ n ∧ n ≤ 2000 ∧ v = optV (backOf g n)
abbrev s_often_back : Stmt := topS 23
abbrev N_often_back : List Str := ["number", "rest", "found", "here"]
abbrev P_often_back : List Str := ["number", "rest"]
theorem sc_often_back : FnScope N_often_back P_often_back (defScope s_often_back) := ⟨rfl, rfl, rfl, by decide +kernel, rfl, by decide +kernel, by decide +kernel⟩

theorem ok_often_back {f : Addr} {fd : FuncData} (F : Fun K "often_back" "often_back" s_often_back f fd) (h_common : Has P w K mg base "common" P_common 1 (spV R_common)) : FnOk P w K mg base CX0 2 f fd P_often_back (spV R_often_back) := by
  refine F.ok sc_often_back (fun vs H Q E h => ?_) (fun cdv A outer s H vs Q E hr h => ?_)
  · obtain ⟨v, ⟨a, b, rfl, _⟩, _⟩ := h
    rfl
  · obtain ⟨v, ⟨g, n, rfl, g1, g2, n1, n2, rfl⟩, k⟩ := h
    refine ⟨_, (pss_cons (ps_if (pt_cmpR op_gt (pe_fn h_common hr (by rfl) (pa_cons (pv 0) (pa_cons (pv 1) pa_nil))) pe_int (nomark _)) (pss_one (ps_ret pe_non)) pss_nil)
      (pss_cons (ps_par (i := 2) (j := 3) (by rfl) sc_often_back.nd rfl rfl (by decide) rfl rfl (pa_cons pe_int (pa_cons (pe_op op_mod (pv 0) (pv 1)) pa_nil)) (by rfl))
      (pss_cons (ps_while PassesOwn.never (pt_cmpR op_ne (pv 3) (pe_op op_mod pe_int (pv 1)) (nomark _)) (pss_cons (ps_set (i := 3) sc_often_back.nd rfl (.inl rfl) (pe_op op_mod (pe_op op_mul (pv 3) (pv 0)) (pv 1)))
      (pss_one (ps_set (i := 2) sc_often_back.nd rfl (.inl rfl) (pe_op op_add (pv 2) pe_int)))))
      (pss_one (ps_ret (pv 2)))))), ?_⟩
    unfold backOf at k
    refine q_when (et_test (ev_op (ev_fn (ea_cons (ev_var rfl) (ea_cons (ev_var rfl) ea_nil)) fun _ _ => ⟨g, n, rfl, rfl⟩) ev_c rv_I0)) (fun hb H1 e1 => ?_) (fun hb H1 e1 => ?_)
    · refine s_ret ev_c fun H2 e2 => ?_
      have hg : Nat.gcd g n > 1 := by
        have := of_decide_eq_true hb
        omega
      rw [if_pos hg] at k
      exact k H2 (e1.trans e2)
    · have hg : ¬ Nat.gcd g n > 1 := by
        have := of_decide_eq_false hb
        omega
      rw [if_neg hg] at k
      have hg1 : Nat.gcd g n = 1 := by
        have := Nat.gcd_pos_of_pos_left n g1
        omega
      have o := ordN_is g1 n1 hg1
      generalize ordN g n = N at *
      refine q_par (ea_cons ev_c (ea_cons (ev_op (ev_var rfl) (ev_var rfl) (rv_I (show (0 : Int) < (n : Int) by omega))) ea_nil)) fun H2 e2 => ?_
      refine q_while (fun m σ H' => ∃ t : Nat, σ = [some (vi g), some (vi n), some (vi t), some (vi (g ^ t % n))] ∧ Ex H H' ∧ 1 ≤ t ∧ t + m = N) (N - 1) ⟨1, ?_, e1.trans e2, Nat.le_refl _, ?_⟩ ?_
      · rw [Nat.pow_one]
        rfl
      · have := o.pos
        omega
      rintro m σ' H' ⟨t, rfl, e3, t1, tm⟩
      refine ⟨_, et_test (ev_op (ev_var rfl) (ev_op ev_c (ev_var rfl) (rv_I (show (0 : Int) < (n : Int) by omega))) (rv_ne rfl)), fun hm H3 e4 => ⟨_, fun σ2 H2 z => z, ?_⟩, fun hm H3 e4 => ?_⟩
      · have hm' : m ≠ 0 := fun z => by
          have z2 : t = N := by omega
          rw [z2, o.one] at hm
          have z3 : decide (vi (1 % n) = V.int (1 % (n : Int))) = true := decide_eq_true rfl
          rw [z3] at hm
          cases hm
        have hlt := Nat.mod_lt (g ^ t) n1
        refine q_asg (v := vi (g ^ (t + 1) % n)) (ev_is (ev_op (ev_op (ev_var rfl) (ev_var rfl) (rv_I (.inl ⟨?_, ?_⟩))) (ev_var rfl) (rv_I (show (0 : Int) < (n : Int) by omega))) ?_) fun H5 e5 => ?_
        · show (-(2 ^ 64) : Int) < ((g ^ t % n : Nat) : Int)
          omega
        · show ((g ^ t % n : Nat) : Int) < 2 ^ 64
          omega
        · have z : g ^ (t + 1) % n = g ^ t % n * g % n := by
            rw [Nat.pow_succ]
            exact mod_mul (Nat.mod_mod _ _).symm rfl
          rw [z]
          rfl
        · exact s_asg (ev_op (ev_var rfl) ev_c rv_I0) fun H6 e6 => ⟨m - 1, by omega, t + 1, rfl, (((e3.trans e4).trans e5).trans e6), by omega, by omega⟩
      · have hm' : t = N := by
          have z1 : vi (g ^ t % n) = V.int (1 % (n : Int)) := by
            cases q : decide (vi (g ^ t % n) = V.int (1 % (n : Int))) with
            | true => exact of_decide_eq_true q
            | false =>
              rw [q] at hm
              cases hm
          have z2 : g ^ t % n = 1 % n := vi_inj (z1.trans rfl)
          rcases Nat.lt_or_ge t N with z | z
          · exact absurd z2 (o.least t t1 z)
          · omega
        subst hm'
        exact s_ret (ev_var rfl) fun H4 e5 => k H4 ((e3.trans e4).trans e5)
def R_length_of : List V → Hp → V → Prop := fun vs _ v => ∃ (b f : Nat) (fr : Bool) (d : Nat), vs = [vi b, vi f, vs' fr, vi d] ∧ Bfd b f d ∧ v = optV (lenOf b f fr d)
theorem cast_pred {n : Nat} (h : 1 ≤ n) : (n : Int) - 1 = ((n - 1 : Nat) : Int) := by omega
theorem cast_mul_pred {a b : Nat} (h : 1 ≤ a * b) : (a : Int) * (b : Int) - 1 = ((a * b - 1 : Nat) : Int) := cast_pred (n := a * b) h
theorem cast_sub {a b : Nat} (h : b ≤ a) : (a : Int) - (b : Int) = ((a - b : Nat) : Int) := by omega
abbrev s_length_of : Stmt := topS 24
abbrev N_length_of : List Str := ["base", "factor", "side", "figure", "whole"]
abbrev P_length_of : List Str := ["base", "factor", "side", "figure"]
theorem sc_length_of : FnScope N_length_of P_length_of (defScope s_length_of) := ⟨rfl, rfl, rfl, by decide +kernel, rfl, by decide +kernel, by decide +kernel⟩

theorem ok_length_of {f : Addr} {fd : FuncData} (F : Fun K "length_of" "length_of" s_length_of f fd) (h_common : Has P w K mg base "common" P_common 1 (spV R_common)) (h_often_back : Has P w K mg base "often_back" P_often_back 2 (spV R_often_back)) : FnOk P w K mg base CX0 3 f fd P_length_of (spV R_length_of) := by
  refine F.ok sc_length_of (fun vs H Q E h => ?_) (fun cdv A outer s H vs Q E hr h => ?_)
  · obtain ⟨v, ⟨b, f, fr, d, rfl, _⟩, _⟩ := h
    rfl
  · obtain ⟨v, ⟨b, f, fr, d, rfl, B, rfl⟩, k⟩ := h
    refine ⟨_, (pss_cons (ps_if (pt_cmpR op_eq (pv 2) pe_str (nomark _)) (pss_cons (ps_set (i := 4) sc_length_of.nd rfl (.inl rfl) (pe_op op_sub (pe_op op_mul (pv 1) (pv 0)) pe_int))
      (pss_one (ps_ret (pe_ifExp (pt_cmpR op_ge (pv 3) (pv 1) (nomark _)) (pe_fn h_often_back hr (by rfl) (pa_cons (pv 0) (pa_cons (pe_op op_fdiv (pv 4) (pe_fn h_common hr (by rfl) (pa_cons (pv 4) (pa_cons (pv 3) pa_nil)))) pa_nil))) pe_non)))) pss_nil)
      (pss_cons (ps_set (i := 4) sc_length_of.nd rfl (.inl rfl) (pe_op op_sub (pv 0) (pv 1)))
      (pss_one (ps_ret (pe_ifExp (pt_cmpR op_le (pe_op op_mul (pe_op op_add (pv 3) pe_int) (pv 1)) (pv 0) (nomark _)) (pe_fn h_often_back hr (by rfl) (pa_cons (pv 1) (pa_cons (pe_op op_fdiv (pv 4) (pe_fn h_common hr (by rfl) (pa_cons (pv 4) (pa_cons (pv 3) pa_nil)))) pa_nil))) pe_non))))), ?_⟩
    have n5 := B.n5
    have nle := B.nle
    obtain ⟨b3, b36, f2, fb, d1, db⟩ := id B
    refine q_when (b := fr) (et_is (et_test (ev_op (ev_var rfl) ev_c (rv_eq rfl))) (sd_eq fr)) (fun hb H1 e1 => ?_) (fun hb H1 e1 => ?_)
    · subst hb
      refine q_asg (v := vi (f * b - 1)) (ev_is (ev_op (ev_op (ev_var rfl) (ev_var rfl) (rv_I (.inl ⟨show (-(2 ^ 64) : Int) < (f : Int) by omega, show (f : Int) < 2 ^ 64 by omega⟩))) ev_c rv_I0) ?_) fun H2 e2 => ?_
      · exact congrArg V.int (cast_mul_pred (by omega))
      have gp := Nat.gcd_pos_of_pos_left d (show 0 < f * b - 1 by omega)
      have gl : Nat.gcd (f * b - 1) d ≤ d := Nat.gcd_le_right _ (by omega)
      have cp := cut_pos (n := f * b - 1) (d := d) (by omega)
      have cl := cut_le (f * b - 1) d
      refine s_ret (v := optV (lenOf b f true d)) (ev_if (b := decide (f ≤ d)) (et_is (et_test (ev_op (ev_var rfl) (ev_var rfl) rv_I0)) ?_) (fun hd => ?_) (fun hd => ?_)) fun H3 e3 => k H3 ((e1.trans e2).trans e3)
      · by_cases z : f ≤ d
        · rw [decide_eq_true z, decide_eq_true (show (f : Int) ≤ (d : Int) by omega)]
        · rw [decide_eq_false z, decide_eq_false (show ¬ (f : Int) ≤ (d : Int) by omega)]
      · refine ev_fn (ea_cons (ev_var rfl) (ea_cons (ev_op (ev_var rfl) (ev_fn (ea_cons (ev_var rfl) (ea_cons (ev_var rfl) ea_nil)) fun _ _ => ⟨f * b - 1, d, rfl, rfl⟩) (rv_I ⟨show (0 : Int) < ((Nat.gcd (f * b - 1) d : Nat) : Int) by omega, show ((Nat.gcd (f * b - 1) d : Nat) : Int) < 1073741824 by omega⟩)) ea_nil)) fun _ _ => ⟨b, cut (f * b - 1) d, rfl, by omega, b36, cp, by omega, ?_⟩
        show optV (if f ≤ d then backOf b (cut (f * b - 1) d) else none) = _
        rw [if_pos (of_decide_eq_true hd)]
      · refine ev_is ev_c ?_
        show _ = optV (if f ≤ d then backOf b (cut (f * b - 1) d) else none)
        rw [if_neg (of_decide_eq_false hd)]
        rfl
    · subst hb
      refine q_asg (v := vi (b - f)) (ev_is (ev_op (ev_var rfl) (ev_var rfl) rv_I0) ?_) fun H2 e2 => ?_
      · exact congrArg V.int (cast_sub (by omega))
      have gp := Nat.gcd_pos_of_pos_left d (show 0 < b - f by omega)
      have gl : Nat.gcd (b - f) d ≤ d := Nat.gcd_le_right _ (by omega)
      have cp := cut_pos (n := b - f) (d := d) (by omega)
      have cl := cut_le (b - f) d
      refine s_ret (v := optV (lenOf b f false d)) (ev_if (b := decide ((d + 1) * f ≤ b)) (et_is (et_test (ev_op (ev_op (ev_op (ev_var rfl) ev_c rv_I0) (ev_var rfl) (rv_I (.inr ⟨show (-(2 ^ 64) : Int) < (f : Int) by omega, show (f : Int) < 2 ^ 64 by omega⟩))) (ev_var rfl) rv_I0)) ?_) (fun hd => ?_) (fun hd => ?_)) fun H3 e3 => k H3 ((e1.trans e2).trans e3)
      · have e : ((d : Int) + 1) * (f : Int) = (((d + 1) * f : Nat) : Int) := rfl
        rw [e]
        by_cases z : (d + 1) * f ≤ b
        · rw [decide_eq_true z, decide_eq_true (Int.ofNat_le.mpr z)]
        · rw [decide_eq_false z, decide_eq_false (fun q => z (Int.ofNat_le.mp q))]
      · refine ev_fn (ea_cons (ev_var rfl) (ea_cons (ev_op (ev_var rfl) (ev_fn (ea_cons (ev_var rfl) (ea_cons (ev_var rfl) ea_nil)) fun _ _ => ⟨b - f, d, rfl, rfl⟩) (rv_I ⟨show (0 : Int) < ((Nat.gcd (b - f) d : Nat) : Int) by omega, show ((Nat.gcd (b - f) d : Nat) : Int) < 1073741824 by omega⟩)) ea_nil)) fun _ _ => ⟨f, cut (b - f) d, rfl, by omega, by omega, cp, by omega, ?_⟩
        show optV (if (d + 1) * f ≤ b then backOf f (cut (b - f) d) else none) = _
        rw [if_pos (of_decide_eq_true hd)]
      · refine ev_is ev_c ?_
        show _ = optV (if (d + 1) * f ≤ b then backOf f (cut (b - f) d) else none)
        rw [if_neg (of_decide_eq_false hd)]
        rfl
def R_asked_factor : List V → Hp → V → Prop := fun vs _ v => ∃ b f : Nat, vs = [vi b, vi f] ∧ 2 ≤ f ∧ f < b ∧ v = .non
abbrev s_asked_factor : Stmt := topS 30
abbrev N_asked_factor : List Str := ["base", "factor"]
abbrev P_asked_factor : List Str := ["base", "factor"]
theorem sc_asked_factor : FnScope N_asked_factor P_asked_factor (defScope s_asked_factor) := ⟨rfl, rfl, rfl, by decide +kernel, rfl, by decide +kernel, by decide +kernel⟩

theorem ok_asked_factor {f : Addr} {fd : FuncData} (F : Fun K "asked_factor" "asked_factor" s_asked_factor f fd) (h_is_whole : Has P w K mg base "is_whole" P_is_whole 1 (spV (R_is_whole K))) : FnOk P w K mg base CX0 2 f fd P_asked_factor (spV R_asked_factor) := by
  refine F.ok sc_asked_factor (fun vs H Q E h => ?_) (fun cdv A outer s H vs Q E hr h => ?_)
  · obtain ⟨v, ⟨b, f, rfl, _⟩, _⟩ := h
    rfl
  · obtain ⟨v, ⟨b, f, rfl, h1, h2, rfl⟩, k⟩ := h
    refine ⟨_, (pss_one (ps_if (PW.pt (pw_or (pt_not (pt_val (pe_fn h_is_whole hr (by rfl) (pa_cons (pv 1) pa_nil)))) (pw_or1 (pt_not (pt_chain op_le op_lt pe_int (pv 1) (pv 0)))))) (pss_one ps_never) pss_nil)), ?_⟩
    refine s_when (b := false) (et_is (et_or (et_not (et_B (ev_fn (ea_cons (ev_var rfl) ea_nil) fun _ _ => r_whole _))) fun _ => et_not (et_test (ev_chain ev_c (ev_var rfl) rv_I0 (ev_var rfl) rv_I0))) ?_) (fun z => nomatch z) (fun _ H1 e1 => k H1 e1)
    rw [decide_eq_true (show (2 : Int) ≤ (f : Int) by omega), decide_eq_true (show (f : Int) < (b : Int) by omega)]
    rfl
def R_asked_figure : List V → Hp → V → Prop := fun vs _ v => ∃ b d : Nat, vs = [vi b, vi d] ∧ 1 ≤ d ∧ d < b ∧ v = .non
abbrev s_asked_figure : Stmt := topS 31
abbrev N_asked_figure : List Str := ["base", "figure"]
abbrev P_asked_figure : List Str := ["base", "figure"]
theorem sc_asked_figure : FnScope N_asked_figure P_asked_figure (defScope s_asked_figure) := ⟨rfl, rfl, rfl, by decide +kernel, rfl, by decide +kernel, by decide +kernel⟩

theorem ok_asked_figure {f : Addr} {fd : FuncData} (F : Fun K "asked_figure" "asked_figure" s_asked_figure f fd) (h_is_whole : Has P w K mg base "is_whole" P_is_whole 1 (spV (R_is_whole K))) : FnOk P w K mg base CX0 2 f fd P_asked_figure (spV R_asked_figure) := by
  refine F.ok sc_asked_figure (fun vs H Q E h => ?_) (fun cdv A outer s H vs Q E hr h => ?_)
  · obtain ⟨v, ⟨b, f, rfl, _⟩, _⟩ := h
    rfl
  · obtain ⟨v, ⟨b, d, rfl, h1, h2, rfl⟩, k⟩ := h
    refine ⟨_, (pss_one (ps_if (PW.pt (pw_or (pt_not (pt_val (pe_fn h_is_whole hr (by rfl) (pa_cons (pv 1) pa_nil)))) (pw_or1 (pt_not (pt_chain op_le op_lt pe_int (pv 1) (pv 0)))))) (pss_one ps_never) pss_nil)), ?_⟩
    refine s_when (b := false) (et_is (et_or (et_not (et_B (ev_fn (ea_cons (ev_var rfl) ea_nil) fun _ _ => r_whole _))) fun _ => et_not (et_test (ev_chain ev_c (ev_var rfl) rv_I0 (ev_var rfl) rv_I0))) ?_) (fun z => nomatch z) (fun _ H1 e1 => k H1 e1)
    rw [decide_eq_true (show (1 : Int) ≤ (d : Int) by omega), decide_eq_true (show (d : Int) < (b : Int) by omega)]
    rfl
abbrev s_least_many : Stmt := topS 34
abbrev N_least_many : List Str := ["base", "factor", "side", "figure"]
abbrev P_least_many : List Str := ["base", "factor", "side", "figure"]
theorem sc_least_many : FnScope N_least_many P_least_many (defScope s_least_many) := ⟨rfl, rfl, rfl, by decide +kernel, rfl, by decide +kernel, by decide +kernel⟩

theorem ok_least_many {f : Addr} {fd : FuncData} (F : Fun K "least_many" "least_many" s_least_many f fd) (h_asked_base : Has P w K mg base "asked_base" P_asked_base 2 (spV R_asked_base)) (h_asked_factor : Has P w K mg base "asked_factor" P_asked_factor 2 (spV R_asked_factor))
    (h_asked_side : Has P w K mg base "asked_side" P_asked_side 1 (spV R_asked_side)) (h_asked_figure : Has P w K mg base "asked_figure" P_asked_figure 2 (spV R_asked_figure)) (h_length_of : Has P w K mg base "length_of" P_length_of 3 (spV R_length_of)) : FnOk P w K mg base CX0 4 f fd P_least_many (spV R_length_of) := by
  refine F.ok sc_least_many (fun vs H Q E h => ?_) (fun cdv A outer s H vs Q E hr h => ?_)
  · obtain ⟨v, ⟨b, f, fr, d, rfl, _⟩, _⟩ := h
    rfl
  · obtain ⟨v, ⟨b, f, fr, d, rfl, B, rfl⟩, k⟩ := h
    refine ⟨_, (pss_cons (ps_expr (pe_fn h_asked_base hr (by rfl) (pa_cons (pv 0) pa_nil)))
      (pss_cons (ps_expr (pe_fn h_asked_factor hr (by rfl) (pa_cons (pv 0) (pa_cons (pv 1) pa_nil))))
      (pss_cons (ps_expr (pe_fn h_asked_side hr (by rfl) (pa_cons (pv 2) pa_nil)))
      (pss_cons (ps_expr (pe_fn h_asked_figure hr (by rfl) (pa_cons (pv 0) (pa_cons (pv 3) pa_nil))))
      (pss_one (ps_ret (pe_fn h_length_of hr (by rfl) (pa_cons (pv 0) (pa_cons (pv 1) (pa_cons (pv 2) (pa_cons (pv 3) pa_nil))))))))))), ?_⟩
    refine q_drop (ev_fn (v := .non) (ea_cons (ev_var rfl) ea_nil) fun _ _ => ⟨b, rfl, B.b3, B.b36, rfl⟩) fun H1 e1 => ?_
    refine q_drop (ev_fn (v := .non) (ea_cons (ev_var rfl) (ea_cons (ev_var rfl) ea_nil)) fun _ _ => ⟨b, f, rfl, B.f2, B.fb, rfl⟩) fun H2 e2 => ?_
    refine q_drop (ev_fn (v := .non) (ea_cons (ev_var rfl) ea_nil) fun _ _ => ⟨fr, rfl, rfl⟩) fun H3 e3 => ?_
    refine q_drop (ev_fn (v := .non) (ea_cons (ev_var rfl) (ea_cons (ev_var rfl) ea_nil)) fun _ _ => ⟨b, d, rfl, B.d1, B.db, rfl⟩) fun H4 e4 => ?_
    exact s_ret (ev_fn (ea_cons (ev_var rfl) (ea_cons (ev_var rfl) (ea_cons (ev_var rfl) (ea_cons (ev_var rfl) ea_nil)))) fun _ _ => ⟨b, f, fr, d, rfl, B, rfl⟩) fun H5 e5 => k H5 ((((e1.trans e2).trans e3).trans e4).trans e5)
end
end Tf

namespace Tf
open PySem PySem.Spec PyProof.Rows L2 Evl
/-! ### turning.py: powers, turned numbers, all of so many, shares -/
section
variable {K : PySem.W.Frag} {σ : L2.St} {H H' : Hp} {ta tb tc te : TE} {x y z v : V} {xs ys : List V} {D : Ends} {tu tz : TS}
def RetU (xs : List V) (H : Hp) (Q : VK) : Prop := ∀ p H2, H p = none → Ex H H2 → H2 p = some (.tup xs) → Q (.ref p) H2
def spU (R : List V → Hp → List V → Prop) : Sp := fun vs H Q _ => ∃ xs, R vs H xs ∧ RetU xs H Q
theorem eu_fn {R : List V → Hp → List V → Prop} {vs : List V} {t : TA} (h : EvA t σ H vs) (hR : ∀ H1, Ex H H1 → R vs H1 xs) : EvU (tCall (spU R) [] E0 t) σ H xs := fun H1 e Q q =>
  h H1 e _ fun H2 e2 => ⟨xs, by rw [List.append_nil]; exact hR H2 (e.trans e2), fun p H3 hp e3 h3 => q p H3 (fresh_back e2 hp) (e2.trans e3) h3⟩
end
section
variable {P : Program} {w : World} {K : PySem.W.Frag} {mg : Str → Option Value} {base : Heap}
theorem pow_lt_two {b m : Nat} (hb : b ≤ 36) (hm : m ≤ 6000) : b ^ m < 2 ^ 36001 := by
  have h1 : b ^ m ≤ (2 ^ 6) ^ m := Nat.pow_le_pow_left (by omega) m
  rw [← Nat.pow_mul] at h1
  exact Nat.lt_of_le_of_lt h1 (Nat.pow_lt_pow_right (by decide) (by omega))
theorem lt_50000 {x : Nat} (h : x < 2 ^ 36001) : x < 2 ^ 50000 := Nat.lt_of_lt_of_le h (Nat.pow_le_pow_right (by decide) (by decide))
def R_power : List V → Hp → V → Prop := fun vs _ v => ∃ b m : Nat, vs = [vi b, vi m] ∧ 1 ≤ b ∧ b ≤ 36 ∧ m ≤ 3000 ∧ v = vi (b ^ m)
theorem pow_half (f h o : Nat) : (if o % 2 = 1 then f * h else f) * (h * h) ^ (o / 2) = f * h ^ o := by
  have e : h ^ o = (h * h) ^ (o / 2) * h ^ (o % 2) := by
    conv => lhs; rw [← Nat.div_add_mod o 2, Nat.pow_add, Nat.pow_mul, Nat.pow_two]
  rw [e]
  split
  · rename_i q
    rw [q, Nat.pow_one, Nat.mul_assoc, Nat.mul_comm h]
  · rename_i q
    rw [show o % 2 = 0 by omega, Nat.pow_zero, Nat.mul_one]
abbrev s_power : Stmt := topS 33
abbrev N_power : List Str := ["number", "often", "found", "here"]
abbrev P_power : List Str := ["number", "often"]
theorem sc_power : FnScope N_power P_power (defScope s_power) := ⟨rfl, rfl, rfl, by decide +kernel, rfl, by decide +kernel, by decide +kernel⟩

theorem ok_power {f : Addr} {fd : FuncData} (F : Fun K "power" "power" s_power f fd) : FnOk P w K mg base CX0 1 f fd P_power (spV R_power) := by
  refine F.ok sc_power (fun vs H Q E h => ?_) (fun cdv A outer s H vs Q E hr h => ?_)
  · obtain ⟨v, ⟨b, n, rfl, _⟩, _⟩ := h
    rfl
  · obtain ⟨v, ⟨b, m, rfl, hb1, hb, hm, rfl⟩, k⟩ := h
    refine ⟨_, (pss_cons (ps_par (i := 2) (j := 3) (by rfl) sc_power.nd rfl rfl (by decide) rfl rfl (pa_cons pe_int (pa_cons (pv 0) pa_nil)) (by rfl))
      (pss_cons (ps_while PassesOwn.never (pt_cmpR op_gt (pv 1) pe_int (nomark _)) (pss_cut (ps_if (pt_cmpR op_eq (pe_op op_mod (pv 1) pe_int) pe_int (nomark _)) (pss_one (ps_set (i := 2) sc_power.nd rfl (.inl rfl) (pe_op op_mulW (pv 2) (pv 3)))) pss_nil)
      (pss_cons (ps_set (i := 3) sc_power.nd rfl (.inl rfl) (pe_op op_mulW (pv 3) (pv 3)))
      (pss_one (ps_set (i := 1) sc_power.nd rfl (.inl rfl) (pe_op op_fdiv (pv 1) pe_int))))))
      (pss_one (ps_ret (pv 2))))), ?_⟩
    refine q_par (ea_cons ev_c (ea_cons (ev_var rfl) ea_nil)) fun H1 e1 => ?_
    have pl : b ^ m < 2 ^ 36001 := pow_lt_two hb (by omega)
    refine q_while (fun o σ H' => ∃ f h : Nat, σ = [some (vi b), some (vi o), some (vi f), some (vi h)] ∧ Ex H H' ∧ f * h ^ o = b ^ m ∧ 1 ≤ f ∧ 1 ≤ h) m ⟨1, b, rfl, e1, by rw [Nat.one_mul], Nat.le_refl _, hb1⟩ ?_
    rintro o σ' H' ⟨f, h, rfl, e2, hi, f1, h1⟩
    refine ⟨_, et_test (ev_op (ev_var rfl) ev_c rv_I0), fun hm H3 e3 => ⟨_, fun σ2 H2 z => z, ?_⟩, fun hm H3 e3 => ?_⟩
    · have ho : 0 < o := by
        have := of_decide_eq_true hm
        omega
      have hp : 1 ≤ h ^ o := pow_pos1 h1 o
      have fl : f < 2 ^ 36001 := Nat.lt_of_le_of_lt (by rw [← hi]; exact Nat.le_mul_of_pos_right f hp) pl
      have hl : h < 2 ^ 36001 := by
        refine Nat.lt_of_le_of_lt ?_ pl
        rw [← hi]
        refine Nat.le_trans ?_ (Nat.le_mul_of_pos_left _ f1)
        conv => lhs; rw [← Nat.pow_one h]
        exact Nat.pow_le_pow_right h1 ho
      refine q_mid (M := fun σ' H' => σ' = [some (vi b), some (vi o), some (vi (if o % 2 = 1 then f * h else f)), some (vi h)] ∧ Ex H H') ?_ ?_
      · refine s_when (b := decide (o % 2 = 1)) (et_is (et_test (ev_op (ev_op (ev_var rfl) ev_c (rv_I (by decide))) ev_c (rv_eq rfl))) (dec_vi (o % 2) 1)) (fun hb H4 e4 => ?_) (fun hb H4 e4 => ?_)
        · refine s_asg (ev_op (ev_var rfl) (ev_var rfl) (rv_I (wide_mul (a := 36001) (b := 36001) fl hl (by decide) (by decide) (by decide)))) fun H5 e5 => ⟨?_, ((e2.trans e3).trans e4).trans e5⟩
          rw [if_pos (of_decide_eq_true hb)]
          rfl
        · refine ⟨?_, (e2.trans e3).trans e4⟩
          rw [if_neg (of_decide_eq_false hb)]
      · rintro σ' H4 ⟨rfl, e4⟩
        refine q_asg (ev_op (ev_var rfl) (ev_var rfl) (rv_I (wide_mul (a := 36001) (b := 36001) hl hl (by decide) (by decide) (by decide)))) fun H5 e5 => ?_
        refine s_asg (ev_op (ev_var rfl) ev_c (rv_I ⟨by decide, by decide⟩)) fun H6 e6 => ⟨o / 2, by omega, _, h * h, rfl, (e4.trans e5).trans e6, ?_, ?_, Nat.mul_pos h1 h1⟩
        · rw [pow_half]
          exact hi
        · split
          · exact Nat.mul_pos f1 h1
          · exact f1
    · have ho : o = 0 := by
        have := of_decide_eq_false hm
        omega
      subst ho
      rw [Nat.pow_zero, Nat.mul_one] at hi
      subst hi
      exact s_ret (ev_var rfl) fun H4 e4 => k H4 ((e2.trans e3).trans e4)
def R_turned_one : List V → Hp → V → Prop := fun vs _ v => ∃ (b f : Nat) (fr : Bool) (d m : Nat), vs = [vi b, vi f, vs' fr, vi d, vi m] ∧ Bfd b f d ∧ 1 ≤ m ∧ m ≤ 3000 ∧ v = vi (turn1 b f fr d m)
abbrev s_turned_one : Stmt := topS 32
abbrev N_turned_one : List Str := ["base", "factor", "side", "figure", "many", "great"]
abbrev P_turned_one : List Str := ["base", "factor", "side", "figure", "many"]
theorem sc_turned_one : FnScope N_turned_one P_turned_one (defScope s_turned_one) := ⟨rfl, rfl, rfl, by decide +kernel, rfl, by decide +kernel, by decide +kernel⟩

theorem ok_turned_one {f : Addr} {fd : FuncData} (F : Fun K "turned_one" "turned_one" s_turned_one f fd) (h_power : Has P w K mg base "power" P_power 1 (spV R_power)) : FnOk P w K mg base CX0 2 f fd P_turned_one (spV R_turned_one) := by
  refine F.ok sc_turned_one (fun vs H Q E h => ?_) (fun cdv A outer s H vs Q E hr h => ?_)
  · obtain ⟨v, ⟨b, f, fr, d, m, rfl, _⟩, _⟩ := h
    rfl
  · obtain ⟨v, ⟨b, f, fr, d, m, rfl, B, m1, m2, rfl⟩, k⟩ := h
    refine ⟨_, (pss_cons (ps_if (pt_cmpR op_eq (pv 2) pe_str (nomark _)) (pss_one (ps_ret (pe_op op_fdiv (pe_op op_mul (pv 3) (pe_op op_sub (pe_fn h_power hr (by rfl) (pa_cons (pv 0) (pa_cons (pv 4) pa_nil))) pe_int)) (pe_op op_sub (pe_op op_mul (pv 1) (pv 0)) pe_int)))) pss_nil)
      (pss_cons (ps_set (i := 5) sc_turned_one.nd rfl (.inl rfl) (pe_fn h_power hr (by rfl) (pa_cons (pv 0) (pa_cons (pe_op op_sub (pv 4) pe_int) pa_nil))))
      (pss_one (ps_ret (pe_op op_add (pe_op op_mul (pv 3) (pv 5)) (pe_op op_fdiv (pe_op op_mul (pv 3) (pe_op op_sub (pe_op op_mul (pv 1) (pv 5)) pe_int)) (pe_op op_sub (pv 0) (pv 1)))))))), ?_⟩
    have n5 := B.n5
    have nle := B.nle
    obtain ⟨b3, b36, f2, fb, d1, db⟩ := id B
    have pm := pow_pos1 (show 1 ≤ b by omega) m
    have pm1 := pow_pos1 (show 1 ≤ b by omega) (m - 1)
    have cd : (-(2 ^ 64) : Int) < (d : Int) ∧ (d : Int) < 2 ^ 64 := ⟨by omega, by omega⟩
    have cf : (-(2 ^ 64) : Int) < (f : Int) ∧ (f : Int) < 2 ^ 64 := ⟨by omega, by omega⟩
    refine q_when (b := fr) (et_is (et_test (ev_op (ev_var rfl) ev_c (rv_eq rfl))) (sd_eq fr)) (fun hb H1 e1 => ?_) (fun hb H1 e1 => ?_)
    · subst hb
      refine s_ret (v := vi (turnF b f d m)) (ev_is (ev_op (ev_op (ev_var rfl) (ev_is (ev_op (ev_fn (ea_cons (ev_var rfl) (ea_cons (ev_var rfl) ea_nil)) fun _ _ => ⟨b, m, rfl, by omega, b36, m2, rfl⟩) ev_c rv_I0) (congrArg V.int (cast_pred pm))) (rv_I (.inl cd)))
        (ev_is (ev_op (ev_op (ev_var rfl) (ev_var rfl) (rv_I (.inl cf))) ev_c rv_I0) (congrArg V.int (cast_mul_pred (show 1 ≤ f * b by omega)))) (rv_I ⟨show (0 : Int) < ((f * b - 1 : Nat) : Int) by omega, show ((f * b - 1 : Nat) : Int) < 1073741824 by omega⟩)) rfl) fun H3 e3 => k H3 (e1.trans e3)
    · subst hb
      refine q_asg (ev_fn (ea_cons (ev_var rfl) (ea_cons (ev_is (ev_op (ev_var rfl) ev_c rv_I0) (congrArg V.int (cast_pred m1))) ea_nil)) fun _ _ => ⟨b, m - 1, rfl, by omega, b36, by omega, rfl⟩) fun H2 e2 => ?_
      refine s_ret (v := vi (turnB b f d m)) (ev_is (ev_op (ev_op (ev_var rfl) (ev_var rfl) (rv_I (.inl cd))) (ev_op (ev_op (ev_var rfl) (ev_is (ev_op (ev_op (ev_var rfl) (ev_var rfl) (rv_I (.inl cf))) ev_c rv_I0) (congrArg V.int (cast_mul_pred (show 1 ≤ f * b ^ (m - 1) from Nat.mul_pos (by omega) pm1)))) (rv_I (.inl cd)))
        (ev_is (ev_op (ev_var rfl) (ev_var rfl) rv_I0) (congrArg V.int (cast_sub (show f ≤ b by omega)))) (rv_I ⟨show (0 : Int) < ((b - f : Nat) : Int) by omega, show ((b - f : Nat) : Int) < 1073741824 by omega⟩)) rv_I0) rfl) fun H3 e3 => k H3 ((e1.trans e2).trans e3)
structure Most (mg : Str → Option Value) (t : Tok) : Prop where
  g : mg "MOST" = some (.int 3000 t)
def R_all_of : List V → Hp → List V → Prop := fun vs _ xs => ∃ (b f : Nat) (fr : Bool) (m : Nat), vs = [vi b, vi f, vs' fr, vi m] ∧ 3 ≤ b ∧ b ≤ 36 ∧ 2 ≤ f ∧ f < b ∧ 1 ≤ m ∧ m ≤ 3000 ∧ xs = vl (allOf b f fr m)
def allTo (b f : Nat) (fr : Bool) (m n : Nat) : List Nat := ((List.range n).filter fun i => okL (lenOf b f fr (1 + i)) m).map fun i => turn1 b f fr (1 + i) m
theorem allTo_succ (b f : Nat) (fr : Bool) (m n : Nat) : allTo b f fr m (n + 1) = allTo b f fr m n ++ (if okL (lenOf b f fr (1 + n)) m then [turn1 b f fr (1 + n) m] else []) := by
  unfold allTo
  rw [List.range_succ, List.filter_append, List.map_append]
  congr 1
  rw [List.filter_cons]
  split <;> rfl
theorem allTo_len (b f : Nat) (fr : Bool) (m n : Nat) : (allTo b f fr m n).length ≤ n := by
  unfold allTo
  rw [List.length_map]
  have h := List.length_filter_le (fun i => okL (lenOf b f fr (1 + i)) m) (List.range n)
  rw [List.length_range] at h
  exact h
abbrev s_all_of : Stmt := topS 35
abbrev N_all_of : List Str := ["base", "factor", "side", "many", "found", "figure", "length"]
abbrev P_all_of : List Str := ["base", "factor", "side", "many"]
theorem sc_all_of : FnScope N_all_of P_all_of (defScope s_all_of) := ⟨rfl, rfl, rfl, by decide +kernel, rfl, by decide +kernel, by decide +kernel⟩

theorem ok_all_of {f : Addr} {fd : FuncData} {tM : Tok} (T : Nm mg) (M : Most mg tM) (F : Fun K "all_of" "all_of" s_all_of f fd) (h_is_whole : Has P w K mg base "is_whole" P_is_whole 1 (spV (R_is_whole K))) (h_asked_base : Has P w K mg base "asked_base" P_asked_base 2 (spV R_asked_base)) (h_asked_factor : Has P w K mg base "asked_factor" P_asked_factor 2 (spV R_asked_factor))
    (h_asked_side : Has P w K mg base "asked_side" P_asked_side 1 (spV R_asked_side)) (h_length_of : Has P w K mg base "length_of" P_length_of 3 (spV R_length_of)) (h_turned_one : Has P w K mg base "turned_one" P_turned_one 2 (spV R_turned_one)) : FnOk P w K mg base CX0 4 f fd P_all_of (spL R_all_of) := by
  refine F.ok sc_all_of (fun vs H Q E h => ?_) (fun cdv A outer s H vs Q E hr h => ?_)
  · obtain ⟨v, ⟨b, f, fr, m, rfl, _⟩, _⟩ := h
    rfl
  · obtain ⟨xs, ⟨b, f, fr, m, rfl, b3, b36, f2, fb, m1, m2, rfl⟩, k⟩ := h
    refine ⟨_, (pss_cons (ps_expr (pe_fn h_asked_base hr (by rfl) (pa_cons (pv 0) pa_nil)))
      (pss_cons (ps_expr (pe_fn h_asked_factor hr (by rfl) (pa_cons (pv 0) (pa_cons (pv 1) pa_nil))))
      (pss_cons (ps_expr (pe_fn h_asked_side hr (by rfl) (pa_cons (pv 2) pa_nil)))
      (pss_cons (ps_if (PW.pt (pw_or (pt_not (pt_val (pe_fn h_is_whole hr (by rfl) (pa_cons (pv 3) pa_nil)))) (pw_or1 (pt_not (pt_chain op_le op_le pe_int (pv 3) (pe_glob (v := .int 3000) rfl M.g ⟨_, rfl⟩)))))) (pss_one ps_never) pss_nil)
      (pss_cons (ps_set (i := 4) sc_all_of.nd rfl (.inl rfl) (pe_lst pa_nil))
      (pss_cons (ps_for PassesOwn.never rfl (pi_range2 (by rfl) T.n_range (pa_cons pe_int (pa_cons (pv 0) pa_nil))) (pg_name (i := 5) sc_all_of.nd rfl (.inl rfl)) (pss_cons (ps_set (i := 6) sc_all_of.nd rfl (.inl rfl) (pe_fn h_length_of hr (by rfl) (pa_cons (pv 0) (pa_cons (pv 1) (pa_cons (pv 2) (pa_cons (pv 5) pa_nil))))))
      (pss_one (ps_if (PW.pt (pw_and (pt_cmpR op_notN (pv 6) pe_non (nomark _)) (pw_and1 (pt_cmpR op_eq (pe_op op_mod (pv 3) (pv 6)) pe_int (nomark _))))) (pss_one (ps_expr (pe_bm PySem.F.plainAttrs_list PySem.F.slot_list_append PySem.F.type_list_append mt_append (pv 4) (pa_cons (pe_fn h_turned_one hr (by rfl) (pa_cons (pv 0) (pa_cons (pv 1) (pa_cons (pv 2) (pa_cons (pv 5) (pa_cons (pv 3) pa_nil)))))) pa_nil)))) pss_nil))))
      (pss_one (ps_ret (pv 4))))))))), ?_⟩
    refine q_drop (ev_fn (v := .non) (ea_cons (ev_var rfl) ea_nil) fun _ _ => ⟨b, rfl, b3, b36, rfl⟩) fun H1 e1 => ?_
    refine q_drop (ev_fn (v := .non) (ea_cons (ev_var rfl) (ea_cons (ev_var rfl) ea_nil)) fun _ _ => ⟨b, f, rfl, f2, fb, rfl⟩) fun H2 e2 => ?_
    refine q_drop (ev_fn (v := .non) (ea_cons (ev_var rfl) ea_nil) fun _ _ => ⟨fr, rfl, rfl⟩) fun H3 e3 => ?_
    refine q_when (b := false) (et_is (et_or (et_not (et_B (ev_fn (ea_cons (ev_var rfl) ea_nil) fun _ _ => r_whole _))) fun _ => et_not (et_test (ev_chain ev_c (ev_var rfl) rv_I0 ev_c rv_I0))) ?_) (fun z => nomatch z) fun _ H4 e4 => ?_
    · rw [decide_eq_true (show (1 : Int) ≤ (m : Int) by omega), decide_eq_true (show (m : Int) ≤ (3000 : Int) by omega)]
      rfl
    have e04 := ((e1.trans e2).trans e3).trans e4
    refine q_asgL (el_lst ea_nil (Nat.zero_le _)) fun p H5 np e5 hp => ?_
    have np0 := fresh_back e04 np
    refine q_forR2 (lo := 1) (n := (b : Int)) (ea_cons ev_c (ea_cons (ev_var rfl) ea_nil)) ⟨by omega, by omega, by omega, by omega⟩
      (fun i σ H' => ∃ x5 x6, σ = [some (vi b), some (vi f), some (vs' fr), some (vi m), some (.ref p), x5, x6] ∧ Ex H H' ∧ H' p = some (.lst (vl (allTo b f fr m i))))
      (fun H6 e6 => ⟨none, none, rfl, (e04.trans e5).trans e6, e6 _ _ hp⟩) ?_ ?_
    · rintro i σ' H6 hi ⟨x5, x6, rfl, e6, hp6⟩
      have B : Bfd b f (1 + i) := ⟨b3, b36, f2, fb, by omega, by omega⟩
      refine q_asg (ev_fn (ea_cons (ev_var rfl) (ea_cons (ev_var rfl) (ea_cons (ev_var rfl) (ea_cons (ev_var rfl) ea_nil)))) fun _ _ => ⟨b, f, fr, 1 + i, rfl, B, rfl⟩) fun H7 e7 => ?_
      have al := allTo_len b f fr m i
      have hs := allTo_succ b f fr m i
      have ht : ∀ {H : Hp}, EvT (tAnd (tTest (tOp (fun x y H Q => y = V.non ∧ Q (V.bl (!decide (x = V.non))) H) (tVar 6) (tC .non))) (tTest (tOp rEq (tOp (rI (fun _ j => 0 < j) fun i j => .int (i % j)) (tVar 3) (tVar 6)) (tC (.int 0))))) [some (vi b), some (vi f), some (vs' fr), some (vi m), some (.ref p), some (vi (1 + i)), some (optV (lenOf b f fr (1 + i)))] H (okL (lenOf b f fr (1 + i)) m) := by
        intro H
        cases q : lenOf b f fr (1 + i) with
        | none => exact et_is (et_and (b := true) (et_test (ev_op (ev_var rfl) ev_c rv_notN)) fun z => nomatch z) rfl
        | some l =>
          have l2 := len_two B q
          refine et_is (et_and (et_test (ev_op (ev_var rfl) ev_c rv_notN)) fun _ => et_test (ev_op (ev_op (ev_var rfl) (ev_var rfl) (rv_I (show (0 : Int) < (l : Int) by omega))) ev_c (rv_eq rfl))) ?_
          show (true && decide (vi (m % l) = vi 0)) = (m % l == 0)
          rw [dec_vi, Bool.true_and]
          rfl
      refine s_when ht (fun hb H8 e8 => ?_) (fun hb H8 e8 => ?_)
      · rw [if_pos hb] at hs
        refine s_app (e8 _ _ (e7 _ _ hp6)) (ev_var rfl) (ev_fn (ea_cons (ev_var rfl) (ea_cons (ev_var rfl) (ea_cons (ev_var rfl) (ea_cons (ev_var rfl) (ea_cons (ev_var rfl) ea_nil))))) fun _ _ => ⟨b, f, fr, 1 + i, m, rfl, B, m1, m2, rfl⟩) (by rw [List.length_map]; omega) fun H9 e9 => ⟨_, _, rfl, Ex.mut (((e6.trans e7).trans e8).trans e9) np0, ?_⟩
        rw [upd_same, hs, vl_app]
        rfl
      · rw [if_neg (by rw [hb]; decide), List.append_nil] at hs
        refine ⟨_, _, rfl, (e6.trans e7).trans e8, ?_⟩
        rw [hs]
        exact e8 _ _ (e7 _ _ hp6)
    · rintro σ' H6 ⟨x5, x6, rfl, e6, hp6⟩
      refine s_ret (ev_var rfl) fun H7 e7 => k p H7 np0 (e6.trans e7) ?_
      rw [e7 _ _ hp6]
      have : ((b : Int) - 1).toNat = b - 1 := by omega
      rw [this]
      rfl
def R_share : List V → Hp → List V → Prop := fun vs _ xs => ∃ b f d : Nat, vs = [vi b, vi f, vi d] ∧ Bfd b f d ∧ f ≤ d ∧ xs = [vi (top b f d), vi (cut (f * b - 1) d)]
abbrev s_share : Stmt := topS 37
abbrev N_share : List Str := ["base", "factor", "figure", "whole", "by"]
abbrev P_share : List Str := ["base", "factor", "figure"]
theorem sc_share : FnScope N_share P_share (defScope s_share) := ⟨rfl, rfl, rfl, by decide +kernel, rfl, by decide +kernel, by decide +kernel⟩

theorem ok_share {f : Addr} {fd : FuncData} (F : Fun K "share" "share" s_share f fd) (h_asked_base : Has P w K mg base "asked_base" P_asked_base 2 (spV R_asked_base)) (h_asked_factor : Has P w K mg base "asked_factor" P_asked_factor 2 (spV R_asked_factor))
    (h_asked_figure : Has P w K mg base "asked_figure" P_asked_figure 2 (spV R_asked_figure)) (h_common : Has P w K mg base "common" P_common 1 (spV R_common)) : FnOk P w K mg base CX0 3 f fd P_share (spU R_share) := by
  refine F.ok sc_share (fun vs H Q E h => ?_) (fun cdv A outer s H vs Q E hr h => ?_)
  · obtain ⟨v, ⟨b, f, d, rfl, _⟩, _⟩ := h
    rfl
  · obtain ⟨xs, ⟨b, f, d, rfl, B, hd, rfl⟩, k⟩ := h
    refine ⟨_, (pss_cons (ps_expr (pe_fn h_asked_base hr (by rfl) (pa_cons (pv 0) pa_nil)))
      (pss_cons (ps_expr (pe_fn h_asked_factor hr (by rfl) (pa_cons (pv 0) (pa_cons (pv 1) pa_nil))))
      (pss_cons (ps_expr (pe_fn h_asked_figure hr (by rfl) (pa_cons (pv 0) (pa_cons (pv 2) pa_nil))))
      (pss_cons (ps_if (pt_cmpR op_lt (pv 2) (pv 1) (nomark _)) (pss_one ps_never) pss_nil)
      (pss_cons (ps_set (i := 3) sc_share.nd rfl (.inl rfl) (pe_op op_sub (pe_op op_mul (pv 1) (pv 0)) pe_int))
      (pss_cons (ps_set (i := 4) sc_share.nd rfl (.inl rfl) (pe_fn h_common hr (by rfl) (pa_cons (pv 3) (pa_cons (pv 2) pa_nil))))
      (pss_one (ps_ret (pe_tup (pa_cons (pe_op op_fdiv (pv 2) (pv 4)) (pa_cons (pe_op op_fdiv (pv 3) (pv 4)) pa_nil))))))))))), ?_⟩
    have n5 := B.n5
    have nle := B.nle
    obtain ⟨b3, b36, f2, fb, d1, db⟩ := id B
    refine q_drop (ev_fn (v := .non) (ea_cons (ev_var rfl) ea_nil) fun _ _ => ⟨b, rfl, b3, b36, rfl⟩) fun H1 e1 => ?_
    refine q_drop (ev_fn (v := .non) (ea_cons (ev_var rfl) (ea_cons (ev_var rfl) ea_nil)) fun _ _ => ⟨b, f, rfl, f2, fb, rfl⟩) fun H2 e2 => ?_
    refine q_drop (ev_fn (v := .non) (ea_cons (ev_var rfl) (ea_cons (ev_var rfl) ea_nil)) fun _ _ => ⟨b, d, rfl, d1, db, rfl⟩) fun H3 e3 => ?_
    refine q_when (b := false) (et_is (et_test (ev_op (ev_var rfl) (ev_var rfl) rv_I0)) (decide_eq_false (show ¬ (d : Int) < (f : Int) by omega))) (fun z => nomatch z) fun _ H4 e4 => ?_
    have e04 := ((e1.trans e2).trans e3).trans e4
    refine q_asg (v := vi (f * b - 1)) (ev_is (ev_op (ev_op (ev_var rfl) (ev_var rfl) (rv_I (.inl ⟨show (-(2 ^ 64) : Int) < (f : Int) by omega, show (f : Int) < 2 ^ 64 by omega⟩))) ev_c rv_I0) (congrArg V.int (cast_mul_pred (by omega)))) fun H5 e5 => ?_
    have gp := Nat.gcd_pos_of_pos_left d (show 0 < f * b - 1 by omega)
    have gl : Nat.gcd (f * b - 1) d ≤ d := Nat.gcd_le_right _ (by omega)
    have cg : (0 : Int) < ((Nat.gcd (f * b - 1) d : Nat) : Int) ∧ ((Nat.gcd (f * b - 1) d : Nat) : Int) < 1073741824 := ⟨by omega, by omega⟩
    refine q_asg (ev_fn (ea_cons (ev_var rfl) (ea_cons (ev_var rfl) ea_nil)) fun _ _ => ⟨f * b - 1, d, rfl, rfl⟩) fun H6 e6 => ?_
    refine s_retU (xs := [vi (top b f d), vi (cut (f * b - 1) d)]) (eu_tup (ea_cons (ev_is (ev_op (ev_var rfl) (ev_var rfl) (rv_I cg)) rfl) (ea_cons (ev_is (ev_op (ev_var rfl) (ev_var rfl) (rv_I cg)) rfl) ea_nil)) (show 2 ≤ 100000 by decide)) fun q H7 nq e7 hq => k q H7 (fresh_back ((e04.trans e5).trans e6) nq) (((e04.trans e5).trans e6).trans e7) hq
end
end Tf

namespace Tf
open PySem PySem.Spec PyProof.Rows L2 Evl
/-! ### lengths of all moved figures; all of so many -/
/-- the lengths of all moved figures -/
def lens (b f : Nat) (fr : Bool) : List V := (List.range (b - 1)).map fun i => optV (lenOf b f fr (1 + i))
theorem lens_get {b f : Nat} {fr : Bool} {i : Nat} {x : V} (h : (lens b f fr)[i]? = some x) : i < b - 1 ∧ x = optV (lenOf b f fr (1 + i)) := by
  unfold lens at h
  rw [List.getElem?_map] at h
  by_cases z : i < b - 1
  · rw [List.getElem?_range z] at h
    exact ⟨z, (Option.some.inj h).symm⟩
  · rw [List.getElem?_eq_none (by rw [List.length_range]; omega)] at h
    cases h
theorem lens_len (b f : Nat) (fr : Bool) : (lens b f fr).length = b - 1 := by
  unfold lens
  rw [List.length_map, List.length_range]
theorem mem_lt {b f m x : Nat} {fr : Bool} (b3 : 3 ≤ b) (b36 : b ≤ 36) (f2 : 2 ≤ f) (fb : f < b) (hm : 1 ≤ m) (hm2 : m ≤ 3000) (h : x ∈ allOf b f fr m) : x < 2 ^ 50000 := by
  have h1 := (allOf_lt b3 b36 f2 fb hm h).2
  have h2 : b ^ (m - 1) * b = b ^ m := by
    obtain ⟨j, rfl⟩ : ∃ j, m = j + 1 := ⟨m - 1, by omega⟩
    rw [Nat.add_sub_cancel, Nat.pow_succ]
  rw [h2] at h1
  exact lt_50000 (Nat.lt_trans h1 (pow_lt_two b36 (by omega)))
theorem trn_mem {b f m x : Nat} {fr : Bool} (b3 : 3 ≤ b) (b36 : b ≤ 36) (f2 : 2 ≤ f) (fb : f < b) (hm : 1 ≤ m) (h : x ∈ allOf b f fr m) : trn b f fr x = true := by
  obtain ⟨h1, h2, h3⟩ := (mem_allOf b3 b36 f2 fb hm).mp h
  unfold trn
  rw [decide_eq_true h1, decide_eq_true h3]
  rfl
theorem side_at (j : Nat) (h : j < 2) : atI [V.str "front", V.str "behind"] (j : Int) = some (vs' (j == 0)) := by
  match j, h with
  | 0, _ => exact atI_nat (j := 0) rfl
  | 1, _ => exact atI_nat (j := 1) rfl
end Tf

namespace Tf
open PySem PySem.Spec PyProof.Rows L2 Evl
/-! ### answers.py, turning.py: answers, the least one -/
section
variable {P : Program} {w : World} {K : PySem.W.Frag} {mg : Str → Option Value} {base : Heap}
abbrev s_Turns___init__ : Stmt := inClass (topS 26) 0
abbrev N_Turns___init__ : List Str := ["self", "number"]
abbrev P_Turns___init__ : List Str := ["self", "number"]
theorem sc_Turns___init__ : FnScope N_Turns___init__ P_Turns___init__ (defScope s_Turns___init__) := ⟨rfl, rfl, rfl, by decide +kernel, rfl, by decide +kernel, by decide +kernel⟩

theorem ok_Turns___init__ {f CT : Addr} {fd : FuncData} (F : Fun K "__init__" "Turns.__init__" s_Turns___init__ f fd) (KT : Kls K mg "Turns" CT) (NT : NoAttr K CT "number") : FnOk P w K mg base CX0 1 f fd P_Turns___init__ (spInit1 CT "number") := by
  refine F.ok sc_Turns___init__ (fun vs H Q E h => ?_) (fun cdv A outer s H vs Q E hr h => ?_)
  · obtain ⟨p, dx, v, rfl, _⟩ := h
    rfl
  · obtain ⟨p, dx, v, rfl, hp, k⟩ := h
    refine ⟨_, (pss_one (ps_fld (pv 0) (pv 1) rfl)), ?_⟩
    exact ⟨v, rfl, .ref p, rfl, p, CT, dx, [], rfl, hp, KT.cl, NT, by show 0 < 1000; decide, k⟩
abbrev nf (n : Int) : List (Str × V) := [("number", .int n)]
theorem nf_get (n : Int) : (nf n).lookup ("number" : Str) = some (.int n) := by
  have h : (("number" : Str) == "number") = true := by decide +kernel
  show (match ("number" : Str) == "number" with | true => some (V.int n) | false => List.lookup ("number" : Str) []) = _
  rw [h]
theorem nf_shows (n : Int) : (nf n).lookup ("shows" : Str) = none := by
  have h : (("shows" : Str) == "number") = false := by decide +kernel
  show (match ("shows" : Str) == "number" with | true => some (V.int n) | false => List.lookup ("shows" : Str) []) = none
  rw [h]
  rfl
def R_tshows (CT : Addr) : List V → Hp → V → Prop := fun vs H v => ∃ (p dx : Addr) (n : Int) (b f : Nat) (fr : Bool), vs = [.ref p, vi b, vi f, vs' fr] ∧ H p = some (.ins CT dx (nf n)) ∧ 2 ≤ b ∧ b ≤ 36 ∧ f ≤ 36 ∧ n < 2 ^ 50000 ∧ v = .bl (trn b f fr n.toNat)
abbrev s_Turns_shows : Stmt := inClass (topS 26) 1
abbrev N_Turns_shows : List Str := ["self", "base", "factor", "side"]
abbrev P_Turns_shows : List Str := ["self", "base", "factor", "side"]
theorem sc_Turns_shows : FnScope N_Turns_shows P_Turns_shows (defScope s_Turns_shows) := ⟨rfl, rfl, rfl, by decide +kernel, rfl, by decide +kernel, by decide +kernel⟩

theorem ok_Turns_shows {f CT : Addr} {fd : FuncData} (F : Fun K "shows" "Turns.shows" s_Turns_shows f fd) (KT : Kls K mg "Turns" CT) (NT : NoAttr K CT "number") (h_moved_of : Has P w K mg base "moved_of" P_moved_of 2 (spV R_moved_of)) : FnOk P w K mg base CX0 3 f fd P_Turns_shows (spV (R_tshows CT)) := by
  refine F.ok sc_Turns_shows (fun vs H Q E h => ?_) (fun cdv A outer s H vs Q E hr h => ?_)
  · obtain ⟨v, ⟨p, dx, n, b, f, fr, rfl, _⟩, _⟩ := h
    rfl
  · obtain ⟨v, ⟨p, dx, n, b, f, fr, rfl, hp, b2, b36, f36, hn, rfl⟩, k⟩ := h
    refine ⟨_, (pss_one (ps_ret (pe_and (pe_cmpR op_gt (pe_fld (pv 0) rfl) pe_int (nomark _)) (pe_one (pe_cmpR op_eq (pe_fn h_moved_of hr (by rfl) (pa_cons (pv 1) (pa_cons (pe_fld (pv 0) rfl) (pa_cons (pv 3) pa_nil)))) (pe_op op_mul (pv 2) (pe_fld (pv 0) rfl)) (nomark _)))))), ?_⟩
    have fld : ∀ {H1 : Hp}, Ex H H1 → Ev (tFld K (tVar 0) "number") [some (.ref p), some (vi b), some (vi f), some (vs' fr)] H1 (.int n) := fun e => ev_fldJ (ej_old (ev_var rfl) (e _ _ hp)) KT.cl NT (nf_get n)
    refine s_ret (ev_andV (a := decide (0 < n.toNat)) (ev_is (ev_op (fld (Ex.refl _)) ev_c rv_I0) ?_) fun h0 => ?_) k
    · show V.bl (decide ((0 : Int) < n)) = _
      by_cases z : 0 < n
      · rw [decide_eq_true z, decide_eq_true (by omega)]
      · rw [decide_eq_false z, decide_eq_false (by omega)]
    · have h1 : 0 < n.toNat := of_decide_eq_true h0
      have en : n = ((n.toNat : Nat) : Int) := by omega
      have fld2 : Ev (tFld K (tVar 0) "number") [some (.ref p), some (vi b), some (vi f), some (vs' fr)] H (vi n.toNat) := ev_is (fld (Ex.refl _)) (congrArg V.int en)
      have hn2 : n.toNat < 2 ^ 50000 := by
        rw [en] at hn
        exact_mod_cast hn
      refine ev_is (ev_op (ev_fn (ea_cons (ev_var rfl) (ea_cons fld2 (ea_cons (ev_var rfl) ea_nil))) fun _ _ => ⟨b, n.toNat, fr, rfl, b2, b36, hn2, rfl⟩) (ev_op (ev_var rfl) fld2 (rv_I (.inl ⟨show (-(2 ^ 64) : Int) < (f : Int) by omega, show (f : Int) < 2 ^ 64 by omega⟩))) (rv_eq rfl)) ?_
      exact congrArg V.bl (dec_vi (mv b n.toNat fr) (f * n.toNat))
def R_nshows : List V → Hp → V → Prop := fun vs _ v => ∃ (p : Addr) (b f : Nat) (fr : Bool), vs = [.ref p, vi b, vi f, vs' fr] ∧ 3 ≤ b ∧ b ≤ 36 ∧ 2 ≤ f ∧ f < b ∧ v = .bl (nev b f fr)
abbrev s_Never_shows : Stmt := inClass (topS 27) 0
abbrev N_Never_shows : List Str := ["self", "base", "factor", "side", "figure"]
abbrev P_Never_shows : List Str := ["self", "base", "factor", "side"]
theorem sc_Never_shows : FnScope N_Never_shows P_Never_shows (defScope s_Never_shows) := ⟨rfl, rfl, rfl, by decide +kernel, rfl, by decide +kernel, by decide +kernel⟩

theorem ok_Never_shows {f : Addr} {fd : FuncData} (T : Nm mg) (F : Fun K "shows" "Never.shows" s_Never_shows f fd) (h_length_of : Has P w K mg base "length_of" P_length_of 3 (spV R_length_of)) : FnOk P w K mg base CX0 4 f fd P_Never_shows (spV R_nshows) := by
  refine F.ok sc_Never_shows (fun vs H Q E h => ?_) (fun cdv A outer s H vs Q E hr h => ?_)
  · obtain ⟨v, ⟨p, b, f, fr, rfl, _⟩, _⟩ := h
    rfl
  · obtain ⟨v, ⟨p, b, f, fr, rfl, b3, b36, f2, fb, rfl⟩, k⟩ := h
    refine ⟨_, (pss_one (ps_ret (pe_not (pe_callB (cr_any rfl) (by rfl) T.n_any (by decide +kernel) (pa_cons (pe_lc (own := [("figure", 4)]) (g := gName 4) (tt := tYes) rfl sc_Never_shows.nd (pi_range2 (by rfl) T.n_range (pa_cons pe_int (pa_cons (pv 1) pa_nil))) (blkOk_by (own := [("figure", 4)]) (N := N_Never_shows) (sc := defScope s_Never_shows) (by decide +kernel)) (fun _ _ _ _ _ => pg_name (i := 4) sc_Never_shows.nd rfl (.inl rfl)) (fun _ _ _ _ _ => pts_nil) (fun _ _ _ _ _ => (pe_cmpR op_notN (pe_fn h_length_of hr (by rfl) (pa_cons (pv 1) (pa_cons (pv 2) (pa_cons (pv 3) (pa_cons (pv 4) pa_nil))))) pe_non (nomark _)))) pa_nil))))), ?_⟩
    refine s_ret (ev_is (ev_notV (ev_any (bs := (List.range (b - 1)).map fun i => (lenOf b f fr (1 + i)).isSome) (eq_new (el_is (el_lcR2 (n := b - 1) (fun _ => true) (fun i => V.bl (lenOf b f fr (1 + i)).isSome) (ea_cons ev_c (ea_cons (ev_var rfl) ea_nil)) ⟨by omega, by omega, by omega, by omega⟩ (by omega) (by omega) (fun x => rfl) (fun i H5 e5 _ => et_yes) (fun i H5 e5 hi _ => ?_)) ?_)))) ?_) k
    · have B : Bfd b f (1 + i) := ⟨b3, b36, f2, fb, by omega, by omega⟩
      refine ev_is (ev_op (ev_fn (ea_cons (ev_var rfl) (ea_cons (ev_var rfl) (ea_cons (ev_var rfl) (ea_cons (ev_var rfl) ea_nil)))) fun _ _ => ⟨b, f, fr, 1 + i, rfl, B, rfl⟩) ev_c rv_notN) ?_
      cases lenOf b f fr (1 + i) <;> rfl
    · rw [given_all, List.map_map]
      rfl
    · unfold nev
      rw [List.any_map]
      rfl
/-- the lengths that are some, out of all -/
theorem some_of (g : Nat → Option Nat) : ∀ l : List Nat, (l.filter fun i => (g i).isSome).map (fun i => optV (g i)) = vl (l.filterMap g)
  | [] => rfl
  | i :: l => by
    have ih := some_of g l
    cases q : g i with
    | none =>
      rw [List.filter_cons, q, List.filterMap_cons, q]
      exact ih
    | some m =>
      rw [List.filter_cons, q, List.filterMap_cons, q]
      show optV (g i) :: (l.filter fun i => (g i).isSome).map (fun i => optV (g i)) = vi m :: vl (l.filterMap g)
      rw [ih, q]
      rfl
theorem some_lens (b f : Nat) (fr : Bool) : given (lens b f fr).length (fun i => (lenOf b f fr (1 + i)).isSome) (fun i => optV (lenOf b f fr (1 + i))) = vl (someL b f fr) := by
  rw [lens_len]
  exact some_of (fun i => lenOf b f fr (1 + i)) (List.range (b - 1))
theorem lens_flat (b f : Nat) (fr : Bool) : (lens b f fr).all flatV = true := by
  rw [List.all_eq_true]
  intro x hx
  obtain ⟨i, _, rfl⟩ := List.mem_map.mp hx
  cases lenOf b f fr (1 + i) <;> rfl
def spLeast (CT CN : Addr) : Sp := fun vs H Q _ => ∃ (b f : Nat) (fr : Bool), vs = [vi b, vi f, vs' fr] ∧ 3 ≤ b ∧ b ≤ 36 ∧ 2 ≤ f ∧ f < b ∧ (match leastOf b f fr with | none => RetI CN [] H Q | some x => RetI CT (nf (x : Int)) H Q)
abbrev s_least : Stmt := topS 36
abbrev N_least : List Str := ["base", "factor", "side", "lengths", "some", "figure", "length"]
abbrev P_least : List Str := ["base", "factor", "side"]
theorem sc_least : FnScope N_least P_least (defScope s_least) := ⟨rfl, rfl, rfl, by decide +kernel, rfl, by decide +kernel, by decide +kernel⟩

theorem ok_least {f CT CN : Addr} {fd : FuncData} (T : Nm mg) (F : Fun K "least" "least" s_least f fd) (KN : Kls K mg "Never" CN) (BN : Bare K CN) (h_Turns___init__ : HasMk P w K mg base "Turns" CT P_Turns___init__ 1 (spInit1 CT "number")) (h_asked_base : Has P w K mg base "asked_base" P_asked_base 2 (spV R_asked_base)) (h_asked_factor : Has P w K mg base "asked_factor" P_asked_factor 2 (spV R_asked_factor))
    (h_asked_side : Has P w K mg base "asked_side" P_asked_side 1 (spV R_asked_side)) (h_length_of : Has P w K mg base "length_of" P_length_of 3 (spV R_length_of)) (h_turned_one : Has P w K mg base "turned_one" P_turned_one 2 (spV R_turned_one)) : FnOk P w K mg base CX0 4 f fd P_least (spLeast CT CN) := by
  refine F.ok sc_least (fun vs H Q E h => ?_) (fun cdv A outer s H vs Q E hr h => ?_)
  · obtain ⟨b, f, fr, rfl, _⟩ := h
    rfl
  · obtain ⟨b, f, fr, rfl, b3, b36, f2, fb, k⟩ := h
    refine ⟨_, (pss_cons (ps_expr (pe_fn h_asked_base hr (by rfl) (pa_cons (pv 0) pa_nil)))
      (pss_cons (ps_expr (pe_fn h_asked_factor hr (by rfl) (pa_cons (pv 0) (pa_cons (pv 1) pa_nil))))
      (pss_cons (ps_expr (pe_fn h_asked_side hr (by rfl) (pa_cons (pv 2) pa_nil)))
      (pss_cons (ps_setLc (i := 3) (own := [("figure", 5)]) (g := gName 5) (tt := tYes) rfl sc_least.nd rfl rfl (sw_true rfl rfl rfl (by decide +kernel)) (pi_range2 (by rfl) T.n_range (pa_cons pe_int (pa_cons (pv 0) pa_nil))) (blkOk_by (own := [("figure", 5)]) (N := N_least) (sc := defScope s_least) (by decide +kernel)) (fun _ _ _ _ _ => pg_name (i := 5) sc_least.nd rfl (.inl rfl)) (fun _ _ _ _ _ => pts_nil) (fun _ _ _ _ _ => (pe_fn h_length_of hr (by rfl) (pa_cons (pv 0) (pa_cons (pv 1) (pa_cons (pv 2) (pa_cons (pv 5) pa_nil)))))))
      (pss_cons (ps_setLc (i := 4) (own := [("length", 6)]) (g := gName 6) rfl sc_least.nd rfl rfl (sw_true rfl rfl rfl (by decide +kernel)) (pi_list (pv 3)) (blkOk_by (own := [("length", 6)]) (N := N_least) (sc := defScope s_least) (by decide +kernel)) (fun _ _ _ _ _ => pg_name (i := 6) sc_least.nd rfl (.inl rfl)) (fun _ _ _ _ _ => pts_one (pt_cmpR op_notN (pv 6) pe_non (nomark _))) (fun _ _ _ _ _ => (pv 6)))
      (pss_cons (ps_if (pt_cmpR (op_eqD hr.units) (pv 4) (pe_lst pa_nil) (nomark _)) (pss_one (ps_ret (pe_bare BN (by rfl) KN.g))) pss_nil)
      (pss_one (ps_ret (pe_mk h_Turns___init__ hr (by rfl) (pa_cons (pe_fn h_turned_one hr (by rfl) (pa_cons (pv 0) (pa_cons (pv 1) (pa_cons (pv 2) (pa_cons (pe_op op_add (pe_bm PySem.F.plainAttrs_list PySem.F.slot_list_index PySem.F.type_list_index mt_index (pv 3) (pa_cons (pe_callB (cr_min rfl) (by rfl) T.n_min (by decide +kernel) (pa_cons (pv 4) pa_nil)) pa_nil)) pe_int) (pa_cons (pe_callB (cr_min rfl) (by rfl) T.n_min (by decide +kernel) (pa_cons (pv 4) pa_nil)) pa_nil)))))) pa_nil)))))))))), ?_⟩
    refine q_drop (ev_fn (v := .non) (ea_cons (ev_var rfl) ea_nil) fun _ _ => ⟨b, rfl, b3, b36, rfl⟩) fun H1 e1 => ?_
    refine q_drop (ev_fn (v := .non) (ea_cons (ev_var rfl) (ea_cons (ev_var rfl) ea_nil)) fun _ _ => ⟨b, f, rfl, f2, fb, rfl⟩) fun H2 e2 => ?_
    refine q_drop (ev_fn (v := .non) (ea_cons (ev_var rfl) ea_nil) fun _ _ => ⟨fr, rfl, rfl⟩) fun H3 e3 => ?_
    have e03 := (e1.trans e2).trans e3
    refine q_asgL (xs := lens b f fr) (el_is (el_lcR2 (n := b - 1) (fun _ => true) (fun i => optV (lenOf b f fr (1 + i))) (ea_cons ev_c (ea_cons (ev_var rfl) ea_nil)) ⟨by omega, by omega, by omega, by omega⟩ (by omega) (by omega) (fun x => rfl) (fun i H5 e5 _ => et_yes) (fun i H5 e5 hi _ => ?_)) ?_) fun q H4 nq e4 hq => ?_
    · have B : Bfd b f (1 + i) := ⟨b3, b36, f2, fb, by omega, by omega⟩
      exact ev_fn (ea_cons (ev_var rfl) (ea_cons (ev_var rfl) (ea_cons (ev_var rfl) (ea_cons (ev_var rfl) ea_nil)))) fun _ _ => ⟨b, f, fr, 1 + i, rfl, B, rfl⟩
    · rw [given_all]
      rfl
    refine q_asgL (xs := vl (someL b f fr)) (el_is (el_lcL (fun i => (lenOf b f fr (1 + i)).isSome) (fun i => optV (lenOf b f fr (1 + i))) (ev_var rfl) (sq_of hq) (by rw [lens_len]; omega) (fun x => rfl) (fun i x H6 e6 hx => ?_) (fun i x H6 e6 hx _ => ?_)) (some_lens b f fr)) fun p H5 np e5 hp => ?_
    · obtain ⟨hi, rfl⟩ := lens_get hx
      refine et_is (et_test (ev_op (ev_var rfl) ev_c rv_notN)) ?_
      cases lenOf b f fr (1 + i) <;> rfl
    · obtain ⟨hi, rfl⟩ := lens_get hx
      exact ev_var rfl
    have hq5 := e5 _ _ hq
    have e05 := (e03.trans e4).trans e5
    refine q_when (b := nev b f fr) (et_is (et_test (ev_eqN (ms := []) (eq_of (es_old (ev_var rfl) hp)) (eq_new (el_lst ea_nil (Nat.zero_le _))))) (dec_nil b f fr)) (fun hn H6 e6 => ?_) (fun hn H6 e6 => ?_)
    · have e : leastOf b f fr = none := if_pos hn
      rw [e] at k
      exact s_retI ei_bare fun u dx H7 nu e7 hu => k u dx H7 (fresh_back (e05.trans e6) nu) ((e05.trans e6).trans e7) hu
    · have L := least_is b3 b36 f2 fb hn
      have e := L.is b3 b36 f2 fb
      rw [e] at k
      generalize turn1 b f fr (leastD b f fr) (leastM b f fr) = x at *
      generalize leastD b f fr = d at *
      generalize leastM b f fr = m at *
      obtain ⟨t, m2, m3⟩ := L.turned b3 b36 f2 fb
      have d1 := L.d1
      have db := L.db
      have B : Bfd b f d := ⟨b3, b36, f2, fb, d1, db⟩
      have hmin : ∀ {H' : Hp} {σ' : L2.St}, Ex H5 H' → σ'[4]? = some (some (.ref p)) → Ev (tCB (rMin K) (tCons (tVar 4) tNil)) σ' H' (vi m) := fun e hs => ev_min (eq_old (ev_var hs) (sq_of (e _ _ hp))) (mem_someL.mpr ⟨d, d1, db, L.len⟩) fun y hy => by
        obtain ⟨d', a1, a2, a3⟩ := mem_someL.mp hy
        exact L.min d' y a1 a2 a3
      have hj : (lens b f fr)[d - 1]? = some (vi m) := by
        unfold lens
        rw [List.getElem?_map, List.getElem?_range (by omega)]
        show some (optV (lenOf b f fr (1 + (d - 1)))) = _
        rw [show 1 + (d - 1) = d by omega, L.len]
        rfl
      have hix := ev_index (K := K) (ta := tVar 3) (tb := tCB (rMin K) (tCons (tVar 4) tNil)) (σ := [some (vi b), some (vi f), some (vs' fr), some (.ref q), some (.ref p), none, none]) (H := H6) (y := vi m) (j := d - 1) (eq_old (ev_var rfl) (sq_of (e6 _ _ hq5))) (hmin e6 rfl) rfl (lens_flat b f fr) hj (by show (((m : Nat) : Int) == ((m : Nat) : Int)) = true; exact beq_self_eq_true _) (fun i z' hi hz => by
        obtain ⟨_, rfl⟩ := lens_get hz
        have no := L.first (1 + i) (by omega) (by omega)
        cases ql : lenOf b f fr (1 + i) with
        | none => rfl
        | some l =>
          rw [ql] at no
          show (((l : Nat) : Int) == ((m : Nat) : Int)) = false
          rw [beq_eq_false_iff_ne]
          intro z
          exact no (by rw [Int.ofNat.inj z]))
      refine s_retI (ei_make (v := vi x) (ev_fn (ea_cons (ev_var rfl) (ea_cons (ev_var rfl) (ea_cons (ev_var rfl) (ea_cons (ev_is (w := vi d) (ev_op hix ev_c rv_I0) ?_) (ea_cons (hmin e6 rfl) ea_nil))))) fun _ _ => ⟨b, f, fr, d, m, rfl, B, by omega, by omega, by rw [L.eq]⟩)) fun u dx H7 nu e7 hu => k u dx H7 (fresh_back (e05.trans e6) nu) ((e05.trans e6).trans e7) hu
      show V.int (((d - 1 : Nat) : Int) + 1) = V.int ((d : Nat) : Int)
      congr 1
      omega
end
end Tf

namespace Tf
open PySem PySem.Spec PyProof.Rows L2 Evl
/-! ### the doors, refusing -/
structure Excs (K : PySem.W.Frag) (mg : Str → Option Value) (Cf : Nat → Addr) (CE : Addr) : Prop where
  g0 : mg "BadBase" = some (.ref (Cf 0))
  g1 : mg "BadNumber" = some (.ref (Cf 1))
  g2 : mg "BadFigures" = some (.ref (Cf 2))
  g3 : mg "BadFactor" = some (.ref (Cf 3))
  g4 : mg "BadFigure" = some (.ref (Cf 4))
  g5 : mg "BadSide" = some (.ref (Cf 5))
  g6 : mg "BadMany" = some (.ref (Cf 6))
  gT : mg "TurnError" = some (.ref CE)
  c : ∀ i, i < 7 → Exc1 K (Cf i)
  m : ∀ i, i < 7 → PySem.W.exmOne K (.ref (Cf i)) (.ref CE) = some true
  s : ∀ i j, i < 7 → j < 7 → PySem.W.kitOne K (.ref (Cf i)) (.ref (Cf j)) = some (decide (i = j))
  v : ∀ i, i < 7 → PySem.W.kitOne K (.ref (Cf i)) (.type "ValueError") = some true
def okB : Int → Bool := fun i => decide (3 ≤ i) && decide (i ≤ 36)
def okN1 : Int → Bool := fun i => !decide (i < 1)
def okF2 (b : Nat) : Int → Bool := fun i => decide (2 ≤ i) && decide (i < (b : Int))
def okF1 (b : Nat) : Int → Bool := fun i => decide (1 ≤ i) && decide (i < (b : Int))
def okM : Int → Bool := fun i => decide (1 ≤ i) && decide (i ≤ 3000)
section
variable {P : Program} {w : World} {K : PySem.W.Frag} {mg : Str → Option Value} {base : Heap} {Cf : Nat → Addr} {CE : Addr}
theorem et_bad {σ : L2.St} {H : Hp} {x : V} {ok : Int → Bool} {j : Nat} {t2 : TT} (hx : Bad K ok H x) (hj : σ[j]? = some (some x)) (h2 : ∀ i, x = .int i → EvT t2 σ H (!ok i)) : EvT (tOr (tNot (tB (tCall (spV (R_is_whole K)) [] E0 (tCons (tVar j) tNil)))) t2) σ H true := by
  rcases hx with ⟨t, b, c, h1, h3, h4, h5⟩ | ⟨i, rfl, hi⟩
  · exact et_is (et_or (a := true) (b := true) (et_is (et_not (a := false) (et_B (ev_fn (ea_cons (ev_var hj) ea_nil) fun H1 e => ⟨x, t, b, c, rfl, tyx_mono e h1, h3, h4, by rw [h5]⟩))) rfl) fun z => nomatch z) rfl
  · exact et_is (et_or (et_not (et_B (ev_fn (ea_cons (ev_var hj) ea_nil) fun _ _ => r_whole i))) fun _ => h2 i rfl) (by rw [hi]; rfl)
def X_asked_base (K : PySem.W.Frag) (Cf : Nat → Addr) : List V → Hp → Addr → Prop := fun vs H C => ∃ x, vs = [x] ∧ Bad K okB H x ∧ C = Cf 0
theorem okx_asked_base {f : Addr} {fd : FuncData} (F : Fun K "asked_base" "asked_base" s_asked_base f fd) (XC : Excs K mg Cf CE) (h_is_whole : Has P w K mg base "is_whole" P_is_whole 1 (spV (R_is_whole K))) : FnOk P w K mg base (L2N.CX P w) 2 f fd P_asked_base (spX (X_asked_base K Cf)) := by
  refine okN F sc_asked_base (fun vs H Q E h => ?_) (fun cdv A outer s H vs Q E hr h => ?_)
  · obtain ⟨C, ⟨x, rfl, _⟩, _⟩ := h
    rfl
  · obtain ⟨C, ⟨x, rfl, hx, rfl⟩, k⟩ := h
    refine ⟨_, (pss_one (ps_if (PW.pt (pw_or (pt_not (pt_val (pe_fn h_is_whole hr (by rfl) (pa_cons (pv 0) pa_nil)))) (pw_or1 (pt_not (pt_chain op_le op_le pe_int (pv 0) pe_int))))) (pss_one (ps_raiseN (XC.c 0 (by decide)) XC.g0 (L2N.takes_of rfl rfl rfl rfl) rfl (by rfl))) pss_nil)), ?_⟩
    exact s_when (b := true) (et_bad hx rfl fun i hi => by subst hi; exact et_not (et_test (ev_chain ev_c (ev_var rfl) rv_I0 ev_c rv_I0))) (fun _ H1 e1 => k H1 e1) (fun z => nomatch z)
def X_asked_number (K : PySem.W.Frag) (Cf : Nat → Addr) : List V → Hp → Addr → Prop := fun vs H C => ∃ x, vs = [x] ∧ Bad K okN1 H x ∧ C = Cf 1
theorem okx_asked_number {f : Addr} {fd : FuncData} (F : Fun K "asked_number" "asked_number" s_asked_number f fd) (XC : Excs K mg Cf CE) (h_is_whole : Has P w K mg base "is_whole" P_is_whole 1 (spV (R_is_whole K))) : FnOk P w K mg base (L2N.CX P w) 2 f fd P_asked_number (spX (X_asked_number K Cf)) := by
  refine okN F sc_asked_number (fun vs H Q E h => ?_) (fun cdv A outer s H vs Q E hr h => ?_)
  · obtain ⟨C, ⟨x, rfl, _⟩, _⟩ := h
    rfl
  · obtain ⟨C, ⟨x, rfl, hx, rfl⟩, k⟩ := h
    refine ⟨_, (pss_one (ps_if (PW.pt (pw_or (pt_not (pt_val (pe_fn h_is_whole hr (by rfl) (pa_cons (pv 0) pa_nil)))) (pw_or1 (pt_cmpR op_lt (pv 0) pe_int (nomark _))))) (pss_one (ps_raiseN (XC.c 1 (by decide)) XC.g1 (L2N.takes_of rfl rfl rfl rfl) rfl (by rfl))) pss_nil)), ?_⟩
    exact s_when (b := true) (et_bad hx rfl fun i hi => by subst hi; exact et_is (et_test (ev_op (ev_var rfl) ev_c rv_I0)) (by unfold okN1; rw [Bool.not_not])) (fun _ H1 e1 => k H1 e1) (fun z => nomatch z)
/-- no side -/
def BadS (K : PySem.W.Frag) (H : Hp) (x : V) : Prop := (∃ t, TyX K H x (.type t) ∧ kitB t "str" = some false) ∨ ∃ s : Str, x = .str s ∧ inV (.str s) [.str "front", .str "behind"] = false
theorem BadS.extN {H H' : Hp} {x : V} (e : LamX.ExtN H H') (h : BadS K H x) : BadS K H' x := h.imp (fun ⟨t, h1, h2⟩ => ⟨t, tyx_extN e h1, h2⟩) id
def X_asked_side (K : PySem.W.Frag) (Cf : Nat → Addr) : List V → Hp → Addr → Prop := fun vs H C => ∃ x, vs = [x] ∧ BadS K H x ∧ C = Cf 5
theorem okx_asked_side {f aS : Addr} {fd : FuncData} (T : Nm mg) (S : Sides K mg aS) (F : Fun K "asked_side" "asked_side" s_asked_side f fd) (XC : Excs K mg Cf CE) : FnOk P w K mg base (L2N.CX P w) 1 f fd P_asked_side (spX (X_asked_side K Cf)) := by
  refine okN F sc_asked_side (fun vs H Q E h => ?_) (fun cdv A outer s H vs Q E hr h => ?_)
  · obtain ⟨C, ⟨x, rfl, _⟩, _⟩ := h
    rfl
  · obtain ⟨C, ⟨x, rfl, hx, rfl⟩, k⟩ := h
    refine ⟨_, (pss_one (ps_if (PW.pt (pw_or (pt_not (pt_val (pe_callB call_isi (by rfl) T.n_isinstance (by decide +kernel) (pa_cons (pv 0) (pa_cons (pe_bltn (v := .ty "str") (by rfl) T.n_str (by decide +kernel) rfl) pa_nil))))) (pw_or1 (pt_cmpR op_notIn_seq (pv 0) (pe_glob (v := .ref aS) rfl S.g rfl) (by rfl))))) (pss_one (ps_raiseN (XC.c 5 (by decide)) XC.g5 (L2N.takes_of rfl rfl rfl rfl) rfl (by rfl))) pss_nil)), ?_⟩
    refine s_when (b := true) ?_ (fun _ H1 e1 => k H1 e1) (fun z => nomatch z)
    rcases hx with ⟨t, h1, h2⟩ | ⟨y, rfl, h1⟩
    · exact et_is (et_or (a := true) (b := true) (et_is (et_not (a := false) (et_B (ev_isi (ev_var rfl) (fun H1 e => tyx_mono e h1) h2))) rfl) fun z => nomatch z) rfl
    · refine et_is (et_or (et_not (et_B (ev_isi (b := true) (ev_var rfl) (fun H1 e => .base (.str _)) (by decide +kernel)))) fun _ => et_test (ev_op (ev_var rfl) ev_c (rv_niT (S.t _) rfl rfl))) ?_
      rw [h1]
      rfl
def X_asked_factor (K : PySem.W.Frag) (Cf : Nat → Addr) : List V → Hp → Addr → Prop := fun vs H C => ∃ (b : Nat) (x : V), vs = [vi b, x] ∧ Bad K (okF2 b) H x ∧ C = Cf 3
theorem okx_asked_factor {f : Addr} {fd : FuncData} (F : Fun K "asked_factor" "asked_factor" s_asked_factor f fd) (XC : Excs K mg Cf CE) (h_is_whole : Has P w K mg base "is_whole" P_is_whole 1 (spV (R_is_whole K))) : FnOk P w K mg base (L2N.CX P w) 2 f fd P_asked_factor (spX (X_asked_factor K Cf)) := by
  refine okN F sc_asked_factor (fun vs H Q E h => ?_) (fun cdv A outer s H vs Q E hr h => ?_)
  · obtain ⟨C, ⟨b, x, rfl, _⟩, _⟩ := h
    rfl
  · obtain ⟨C, ⟨b, x, rfl, hx, rfl⟩, k⟩ := h
    refine ⟨_, (pss_one (ps_if (PW.pt (pw_or (pt_not (pt_val (pe_fn h_is_whole hr (by rfl) (pa_cons (pv 1) pa_nil)))) (pw_or1 (pt_not (pt_chain op_le op_lt pe_int (pv 1) (pv 0)))))) (pss_one (ps_raiseN (XC.c 3 (by decide)) XC.g3 (L2N.takes_of rfl rfl rfl rfl) rfl (by rfl))) pss_nil)), ?_⟩
    exact s_when (b := true) (et_bad hx rfl fun i hi => by subst hi; exact et_not (et_test (ev_chain ev_c (ev_var rfl) rv_I0 (ev_var rfl) rv_I0))) (fun _ H1 e1 => k H1 e1) (fun z => nomatch z)
def X_asked_figure (K : PySem.W.Frag) (Cf : Nat → Addr) : List V → Hp → Addr → Prop := fun vs H C => ∃ (b : Nat) (x : V), vs = [vi b, x] ∧ Bad K (okF1 b) H x ∧ C = Cf 4
theorem okx_asked_figure {f : Addr} {fd : FuncData} (F : Fun K "asked_figure" "asked_figure" s_asked_figure f fd) (XC : Excs K mg Cf CE) (h_is_whole : Has P w K mg base "is_whole" P_is_whole 1 (spV (R_is_whole K))) : FnOk P w K mg base (L2N.CX P w) 2 f fd P_asked_figure (spX (X_asked_figure K Cf)) := by
  refine okN F sc_asked_figure (fun vs H Q E h => ?_) (fun cdv A outer s H vs Q E hr h => ?_)
  · obtain ⟨C, ⟨b, x, rfl, _⟩, _⟩ := h
    rfl
  · obtain ⟨C, ⟨b, x, rfl, hx, rfl⟩, k⟩ := h
    refine ⟨_, (pss_one (ps_if (PW.pt (pw_or (pt_not (pt_val (pe_fn h_is_whole hr (by rfl) (pa_cons (pv 1) pa_nil)))) (pw_or1 (pt_not (pt_chain op_le op_lt pe_int (pv 1) (pv 0)))))) (pss_one (ps_raiseN (XC.c 4 (by decide)) XC.g4 (L2N.takes_of rfl rfl rfl rfl) rfl (by rfl))) pss_nil)), ?_⟩
    exact s_when (b := true) (et_bad hx rfl fun i hi => by subst hi; exact et_not (et_test (ev_chain ev_c (ev_var rfl) rv_I0 (ev_var rfl) rv_I0))) (fun _ H1 e1 => k H1 e1) (fun z => nomatch z)
def X_figures (K : PySem.W.Frag) (Cf : Nat → Addr) : List V → Hp → Addr → Prop := fun vs H C => (∃ x y, vs = [x, y] ∧ Bad K okB H x ∧ C = Cf 0) ∨ ∃ (b : Nat) (y : V), vs = [vi b, y] ∧ 3 ≤ b ∧ b ≤ 36 ∧ Bad K okN1 H y ∧ C = Cf 1
theorem okx_figures {f : Addr} {fd : FuncData} (F : Fun K "figures" "figures" s_figures f fd) (h_asked_base : Has P w K mg base "asked_base" P_asked_base 2 (spV R_asked_base)) (x_asked_base : HasX P w K mg base "asked_base" P_asked_base 2 (spX (X_asked_base K Cf)))
    (h_asked_number : Has P w K mg base "asked_number" P_asked_number 2 (spV R_asked_number)) (x_asked_number : HasX P w K mg base "asked_number" P_asked_number 2 (spX (X_asked_number K Cf))) : FnOk P w K mg base (L2N.CX P w) 3 f fd P_figures (spX (X_figures K Cf)) := by
  refine okN F sc_figures (fun vs H Q E h => ?_) (fun cdv A outer s H vs Q E hr h => ?_)
  · obtain ⟨C, ⟨x, y, rfl, _⟩ | ⟨b, y, rfl, _⟩, _⟩ := h <;> rfl
  · obtain ⟨C, hh, k⟩ := h
    rcases hh with ⟨x, y, rfl, hx, rfl⟩ | ⟨b, y, rfl, b3, b36, hy, rfl⟩
    · refine ⟨_, (pss_cons (ps_expr (pe_ei (pe_fn h_asked_base hr (by rfl) (pa_cons (pv 0) pa_nil)) (pe_fnX x_asked_base (L2N.takes_of rfl rfl rfl rfl) hr (by rfl) (pa_cons (pv 0) pa_nil))))
      (pss_cons (ps_expr (pe_ei (pe_fn h_asked_number hr (by rfl) (pa_cons (pv 1) pa_nil)) (pe_fnX x_asked_number (L2N.takes_of rfl rfl rfl rfl) hr (by rfl) (pa_cons (pv 1) pa_nil))))
      pss_never)), ?_⟩
      exact q_bad (ea_cons (ev_var rfl) ea_nil) (fun H1 e1 => ⟨x, rfl, hx.ex e1, rfl⟩) k
    · refine ⟨_, (pss_cons (ps_expr (pe_ei (pe_fn h_asked_base hr (by rfl) (pa_cons (pv 0) pa_nil)) (pe_fnX x_asked_base (L2N.takes_of rfl rfl rfl rfl) hr (by rfl) (pa_cons (pv 0) pa_nil))))
      (pss_cons (ps_expr (pe_ei (pe_fn h_asked_number hr (by rfl) (pa_cons (pv 1) pa_nil)) (pe_fnX x_asked_number (L2N.takes_of rfl rfl rfl rfl) hr (by rfl) (pa_cons (pv 1) pa_nil))))
      pss_never)), ?_⟩
      refine q_ok (ev_fn (v := .non) (ea_cons (ev_var rfl) ea_nil) fun _ _ => ⟨b, rfl, b3, b36, rfl⟩) fun H1 e1 => ?_
      exact q_bad (ea_cons (ev_var rfl) ea_nil) (fun H2 e2 => ⟨y, rfl, hy.ex (e1.trans e2), rfl⟩) fun H2 e2 => k H2 (e1.trans e2)
end
end Tf

namespace Tf
open PySem PySem.Spec PyProof.Rows L2 Evl
section
variable {P : Program} {w : World} {K : PySem.W.Frag} {mg : Str → Option Value} {base : Heap} {Cf : Nat → Addr} {CE : Addr}
def X_moved (K : PySem.W.Frag) (Cf : Nat → Addr) : List V → Hp → Addr → Prop := fun vs H C => (∃ (y0 : V) (y1 : V) (y2 : V), vs = [y0, y1, y2] ∧ Bad K okB H y0 ∧ C = Cf 0) ∨
    (∃ (b : Nat) (y1 : V) (y2 : V), vs = [vi b, y1, y2] ∧ 3 ≤ b ∧ b ≤ 36 ∧ Bad K okN1 H y1 ∧ C = Cf 1) ∨
    (∃ (b : Nat) (n : Nat) (y2 : V), vs = [vi b, vi n, y2] ∧ 3 ≤ b ∧ b ≤ 36 ∧ 1 ≤ n ∧ BadS K H y2 ∧ C = Cf 5)
theorem okx_moved {f : Addr} {fd : FuncData} (F : Fun K "moved" "moved" s_moved f fd) (h_asked_base : Has P w K mg base "asked_base" P_asked_base 2 (spV R_asked_base)) (x_asked_base : HasX P w K mg base "asked_base" P_asked_base 2 (spX (X_asked_base K Cf))) (h_asked_number : Has P w K mg base "asked_number" P_asked_number 2 (spV R_asked_number)) (x_asked_number : HasX P w K mg base "asked_number" P_asked_number 2 (spX (X_asked_number K Cf))) (h_asked_side : Has P w K mg base "asked_side" P_asked_side 1 (spV R_asked_side)) (x_asked_side : HasX P w K mg base "asked_side" P_asked_side 1 (spX (X_asked_side K Cf))) : FnOk P w K mg base (L2N.CX P w) 3 f fd P_moved (spX (X_moved K Cf)) := by
  refine okN F sc_moved (fun vs H Q E h => ?_) (fun cdv A outer s H vs Q E hr h => ?_)
  · obtain ⟨C, hh, _⟩ := h
    rcases hh with ⟨y0, y1, y2, rfl, _⟩ | ⟨b, y1, y2, rfl, _⟩ | ⟨b, n, y2, rfl, _⟩ <;> rfl
  · obtain ⟨C, hh, k⟩ := h
    rcases hh with ⟨y0, y1, y2, rfl, hy, rfl⟩ | ⟨b, y1, y2, rfl, b3, b36, hy, rfl⟩ | ⟨b, n, y2, rfl, b3, b36, n1, hy, rfl⟩
    · refine ⟨_, (pss_cons (ps_expr (pe_ei (pe_fn h_asked_base hr (by rfl) (pa_cons (pv 0) pa_nil)) (pe_fnX x_asked_base (L2N.takes_of rfl rfl rfl rfl) hr (by rfl) (pa_cons (pv 0) pa_nil))))
      (pss_cons (ps_expr (pe_ei (pe_fn h_asked_number hr (by rfl) (pa_cons (pv 1) pa_nil)) (pe_fnX x_asked_number (L2N.takes_of rfl rfl rfl rfl) hr (by rfl) (pa_cons (pv 1) pa_nil))))
      (pss_cons (ps_expr (pe_ei (pe_fn h_asked_side hr (by rfl) (pa_cons (pv 2) pa_nil)) (pe_fnX x_asked_side (L2N.takes_of rfl rfl rfl rfl) hr (by rfl) (pa_cons (pv 2) pa_nil))))
      pss_never))), ?_⟩
      exact q_bad (ea_cons (ev_var rfl) ea_nil) (fun H1 e1 => ⟨y0, rfl, hy.extN (extN_ex e1), rfl⟩) fun H1 e1 => k H1 e1
    · refine ⟨_, (pss_cons (ps_expr (pe_ei (pe_fn h_asked_base hr (by rfl) (pa_cons (pv 0) pa_nil)) (pe_fnX x_asked_base (L2N.takes_of rfl rfl rfl rfl) hr (by rfl) (pa_cons (pv 0) pa_nil))))
      (pss_cons (ps_expr (pe_ei (pe_fn h_asked_number hr (by rfl) (pa_cons (pv 1) pa_nil)) (pe_fnX x_asked_number (L2N.takes_of rfl rfl rfl rfl) hr (by rfl) (pa_cons (pv 1) pa_nil))))
      (pss_cons (ps_expr (pe_ei (pe_fn h_asked_side hr (by rfl) (pa_cons (pv 2) pa_nil)) (pe_fnX x_asked_side (L2N.takes_of rfl rfl rfl rfl) hr (by rfl) (pa_cons (pv 2) pa_nil))))
      pss_never))), ?_⟩
      refine q_ok (ev_fn (v := .non) (ea_cons (ev_var rfl) ea_nil) fun _ _ => ⟨b, rfl, b3, b36, rfl⟩) fun H1 e1 => ?_
      exact q_bad (ea_cons (ev_var rfl) ea_nil) (fun H2 e2 => ⟨y1, rfl, hy.extN (extN_ex (e1.trans e2)), rfl⟩) fun H2 e2 => k H2 (e1.trans e2)
    · refine ⟨_, (pss_cons (ps_expr (pe_ei (pe_fn h_asked_base hr (by rfl) (pa_cons (pv 0) pa_nil)) (pe_fnX x_asked_base (L2N.takes_of rfl rfl rfl rfl) hr (by rfl) (pa_cons (pv 0) pa_nil))))
      (pss_cons (ps_expr (pe_ei (pe_fn h_asked_number hr (by rfl) (pa_cons (pv 1) pa_nil)) (pe_fnX x_asked_number (L2N.takes_of rfl rfl rfl rfl) hr (by rfl) (pa_cons (pv 1) pa_nil))))
      (pss_cons (ps_expr (pe_ei (pe_fn h_asked_side hr (by rfl) (pa_cons (pv 2) pa_nil)) (pe_fnX x_asked_side (L2N.takes_of rfl rfl rfl rfl) hr (by rfl) (pa_cons (pv 2) pa_nil))))
      pss_never))), ?_⟩
      refine q_ok (ev_fn (v := .non) (ea_cons (ev_var rfl) ea_nil) fun _ _ => ⟨b, rfl, b3, b36, rfl⟩) fun H1 e1 => ?_
      refine q_ok (ev_fn (v := .non) (ea_cons (ev_var rfl) ea_nil) fun _ _ => ⟨n, rfl, n1, rfl⟩) fun H2 e2 => ?_
      exact q_bad (ea_cons (ev_var rfl) ea_nil) (fun H3 e3 => ⟨y2, rfl, hy.extN (extN_ex ((e1.trans e2).trans e3)), rfl⟩) fun H3 e3 => k H3 ((e1.trans e2).trans e3)

def X_least_many (K : PySem.W.Frag) (Cf : Nat → Addr) : List V → Hp → Addr → Prop := fun vs H C => (∃ (y0 : V) (y1 : V) (y2 : V) (y3 : V), vs = [y0, y1, y2, y3] ∧ Bad K okB H y0 ∧ C = Cf 0) ∨
    (∃ (b : Nat) (y1 : V) (y2 : V) (y3 : V), vs = [vi b, y1, y2, y3] ∧ 3 ≤ b ∧ b ≤ 36 ∧ Bad K (okF2 b) H y1 ∧ C = Cf 3) ∨
    (∃ (b : Nat) (f : Nat) (y2 : V) (y3 : V), vs = [vi b, vi f, y2, y3] ∧ 3 ≤ b ∧ b ≤ 36 ∧ 2 ≤ f ∧ f < b ∧ BadS K H y2 ∧ C = Cf 5) ∨
    (∃ (b : Nat) (f : Nat) (fr : Bool) (y3 : V), vs = [vi b, vi f, vs' fr, y3] ∧ 3 ≤ b ∧ b ≤ 36 ∧ 2 ≤ f ∧ f < b ∧ Bad K (okF1 b) H y3 ∧ C = Cf 4)
theorem okx_least_many {f : Addr} {fd : FuncData} (F : Fun K "least_many" "least_many" s_least_many f fd) (h_asked_base : Has P w K mg base "asked_base" P_asked_base 2 (spV R_asked_base)) (x_asked_base : HasX P w K mg base "asked_base" P_asked_base 2 (spX (X_asked_base K Cf))) (h_asked_factor : Has P w K mg base "asked_factor" P_asked_factor 2 (spV R_asked_factor)) (x_asked_factor : HasX P w K mg base "asked_factor" P_asked_factor 2 (spX (X_asked_factor K Cf))) (h_asked_side : Has P w K mg base "asked_side" P_asked_side 1 (spV R_asked_side)) (x_asked_side : HasX P w K mg base "asked_side" P_asked_side 1 (spX (X_asked_side K Cf))) (h_asked_figure : Has P w K mg base "asked_figure" P_asked_figure 2 (spV R_asked_figure)) (x_asked_figure : HasX P w K mg base "asked_figure" P_asked_figure 2 (spX (X_asked_figure K Cf))) : FnOk P w K mg base (L2N.CX P w) 3 f fd P_least_many (spX (X_least_many K Cf)) := by
  refine okN F sc_least_many (fun vs H Q E h => ?_) (fun cdv A outer s H vs Q E hr h => ?_)
  · obtain ⟨C, hh, _⟩ := h
    rcases hh with ⟨y0, y1, y2, y3, rfl, _⟩ | ⟨b, y1, y2, y3, rfl, _⟩ | ⟨b, f, y2, y3, rfl, _⟩ | ⟨b, f, fr, y3, rfl, _⟩ <;> rfl
  · obtain ⟨C, hh, k⟩ := h
    rcases hh with ⟨y0, y1, y2, y3, rfl, hy, rfl⟩ | ⟨b, y1, y2, y3, rfl, b3, b36, hy, rfl⟩ | ⟨b, f, y2, y3, rfl, b3, b36, f2, fb, hy, rfl⟩ | ⟨b, f, fr, y3, rfl, b3, b36, f2, fb, hy, rfl⟩
    · refine ⟨_, (pss_cons (ps_expr (pe_ei (pe_fn h_asked_base hr (by rfl) (pa_cons (pv 0) pa_nil)) (pe_fnX x_asked_base (L2N.takes_of rfl rfl rfl rfl) hr (by rfl) (pa_cons (pv 0) pa_nil))))
      (pss_cons (ps_expr (pe_ei (pe_fn h_asked_factor hr (by rfl) (pa_cons (pv 0) (pa_cons (pv 1) pa_nil))) (pe_fnX x_asked_factor (L2N.takes_of rfl rfl rfl rfl) hr (by rfl) (pa_cons (pv 0) (pa_cons (pv 1) pa_nil)))))
      (pss_cons (ps_expr (pe_ei (pe_fn h_asked_side hr (by rfl) (pa_cons (pv 2) pa_nil)) (pe_fnX x_asked_side (L2N.takes_of rfl rfl rfl rfl) hr (by rfl) (pa_cons (pv 2) pa_nil))))
      (pss_cons (ps_expr (pe_ei (pe_fn h_asked_figure hr (by rfl) (pa_cons (pv 0) (pa_cons (pv 3) pa_nil))) (pe_fnX x_asked_figure (L2N.takes_of rfl rfl rfl rfl) hr (by rfl) (pa_cons (pv 0) (pa_cons (pv 3) pa_nil)))))
      pss_never)))), ?_⟩
      exact q_bad (ea_cons (ev_var rfl) ea_nil) (fun H1 e1 => ⟨y0, rfl, hy.extN (extN_ex e1), rfl⟩) fun H1 e1 => k H1 e1
    · refine ⟨_, (pss_cons (ps_expr (pe_ei (pe_fn h_asked_base hr (by rfl) (pa_cons (pv 0) pa_nil)) (pe_fnX x_asked_base (L2N.takes_of rfl rfl rfl rfl) hr (by rfl) (pa_cons (pv 0) pa_nil))))
      (pss_cons (ps_expr (pe_ei (pe_fn h_asked_factor hr (by rfl) (pa_cons (pv 0) (pa_cons (pv 1) pa_nil))) (pe_fnX x_asked_factor (L2N.takes_of rfl rfl rfl rfl) hr (by rfl) (pa_cons (pv 0) (pa_cons (pv 1) pa_nil)))))
      (pss_cons (ps_expr (pe_ei (pe_fn h_asked_side hr (by rfl) (pa_cons (pv 2) pa_nil)) (pe_fnX x_asked_side (L2N.takes_of rfl rfl rfl rfl) hr (by rfl) (pa_cons (pv 2) pa_nil))))
      (pss_cons (ps_expr (pe_ei (pe_fn h_asked_figure hr (by rfl) (pa_cons (pv 0) (pa_cons (pv 3) pa_nil))) (pe_fnX x_asked_figure (L2N.takes_of rfl rfl rfl rfl) hr (by rfl) (pa_cons (pv 0) (pa_cons (pv 3) pa_nil)))))
      pss_never)))), ?_⟩
      refine q_ok (ev_fn (v := .non) (ea_cons (ev_var rfl) ea_nil) fun _ _ => ⟨b, rfl, b3, b36, rfl⟩) fun H1 e1 => ?_
      exact q_bad (ea_cons (ev_var rfl) (ea_cons (ev_var rfl) ea_nil)) (fun H2 e2 => ⟨b, y1, rfl, hy.extN (extN_ex (e1.trans e2)), rfl⟩) fun H2 e2 => k H2 (e1.trans e2)
    · refine ⟨_, (pss_cons (ps_expr (pe_ei (pe_fn h_asked_base hr (by rfl) (pa_cons (pv 0) pa_nil)) (pe_fnX x_asked_base (L2N.takes_of rfl rfl rfl rfl) hr (by rfl) (pa_cons (pv 0) pa_nil))))
      (pss_cons (ps_expr (pe_ei (pe_fn h_asked_factor hr (by rfl) (pa_cons (pv 0) (pa_cons (pv 1) pa_nil))) (pe_fnX x_asked_factor (L2N.takes_of rfl rfl rfl rfl) hr (by rfl) (pa_cons (pv 0) (pa_cons (pv 1) pa_nil)))))
      (pss_cons (ps_expr (pe_ei (pe_fn h_asked_side hr (by rfl) (pa_cons (pv 2) pa_nil)) (pe_fnX x_asked_side (L2N.takes_of rfl rfl rfl rfl) hr (by rfl) (pa_cons (pv 2) pa_nil))))
      (pss_cons (ps_expr (pe_ei (pe_fn h_asked_figure hr (by rfl) (pa_cons (pv 0) (pa_cons (pv 3) pa_nil))) (pe_fnX x_asked_figure (L2N.takes_of rfl rfl rfl rfl) hr (by rfl) (pa_cons (pv 0) (pa_cons (pv 3) pa_nil)))))
      pss_never)))), ?_⟩
      refine q_ok (ev_fn (v := .non) (ea_cons (ev_var rfl) ea_nil) fun _ _ => ⟨b, rfl, b3, b36, rfl⟩) fun H1 e1 => ?_
      refine q_ok (ev_fn (v := .non) (ea_cons (ev_var rfl) (ea_cons (ev_var rfl) ea_nil)) fun _ _ => ⟨b, f, rfl, f2, fb, rfl⟩) fun H2 e2 => ?_
      exact q_bad (ea_cons (ev_var rfl) ea_nil) (fun H3 e3 => ⟨y2, rfl, hy.extN (extN_ex ((e1.trans e2).trans e3)), rfl⟩) fun H3 e3 => k H3 ((e1.trans e2).trans e3)
    · refine ⟨_, (pss_cons (ps_expr (pe_ei (pe_fn h_asked_base hr (by rfl) (pa_cons (pv 0) pa_nil)) (pe_fnX x_asked_base (L2N.takes_of rfl rfl rfl rfl) hr (by rfl) (pa_cons (pv 0) pa_nil))))
      (pss_cons (ps_expr (pe_ei (pe_fn h_asked_factor hr (by rfl) (pa_cons (pv 0) (pa_cons (pv 1) pa_nil))) (pe_fnX x_asked_factor (L2N.takes_of rfl rfl rfl rfl) hr (by rfl) (pa_cons (pv 0) (pa_cons (pv 1) pa_nil)))))
      (pss_cons (ps_expr (pe_ei (pe_fn h_asked_side hr (by rfl) (pa_cons (pv 2) pa_nil)) (pe_fnX x_asked_side (L2N.takes_of rfl rfl rfl rfl) hr (by rfl) (pa_cons (pv 2) pa_nil))))
      (pss_cons (ps_expr (pe_ei (pe_fn h_asked_figure hr (by rfl) (pa_cons (pv 0) (pa_cons (pv 3) pa_nil))) (pe_fnX x_asked_figure (L2N.takes_of rfl rfl rfl rfl) hr (by rfl) (pa_cons (pv 0) (pa_cons (pv 3) pa_nil)))))
      pss_never)))), ?_⟩
      refine q_ok (ev_fn (v := .non) (ea_cons (ev_var rfl) ea_nil) fun _ _ => ⟨b, rfl, b3, b36, rfl⟩) fun H1 e1 => ?_
      refine q_ok (ev_fn (v := .non) (ea_cons (ev_var rfl) (ea_cons (ev_var rfl) ea_nil)) fun _ _ => ⟨b, f, rfl, f2, fb, rfl⟩) fun H2 e2 => ?_
      refine q_ok (ev_fn (v := .non) (ea_cons (ev_var rfl) ea_nil) fun _ _ => ⟨fr, rfl, rfl⟩) fun H3 e3 => ?_
      exact q_bad (ea_cons (ev_var rfl) (ea_cons (ev_var rfl) ea_nil)) (fun H4 e4 => ⟨b, y3, rfl, hy.extN (extN_ex (((e1.trans e2).trans e3).trans e4)), rfl⟩) fun H4 e4 => k H4 (((e1.trans e2).trans e3).trans e4)

def X_least (K : PySem.W.Frag) (Cf : Nat → Addr) : List V → Hp → Addr → Prop := fun vs H C => (∃ (y0 : V) (y1 : V) (y2 : V), vs = [y0, y1, y2] ∧ Bad K okB H y0 ∧ C = Cf 0) ∨
    (∃ (b : Nat) (y1 : V) (y2 : V), vs = [vi b, y1, y2] ∧ 3 ≤ b ∧ b ≤ 36 ∧ Bad K (okF2 b) H y1 ∧ C = Cf 3) ∨
    (∃ (b : Nat) (f : Nat) (y2 : V), vs = [vi b, vi f, y2] ∧ 3 ≤ b ∧ b ≤ 36 ∧ 2 ≤ f ∧ f < b ∧ BadS K H y2 ∧ C = Cf 5)
theorem okx_least {f : Addr} {fd : FuncData} (F : Fun K "least" "least" s_least f fd) (h_asked_base : Has P w K mg base "asked_base" P_asked_base 2 (spV R_asked_base)) (x_asked_base : HasX P w K mg base "asked_base" P_asked_base 2 (spX (X_asked_base K Cf))) (h_asked_factor : Has P w K mg base "asked_factor" P_asked_factor 2 (spV R_asked_factor)) (x_asked_factor : HasX P w K mg base "asked_factor" P_asked_factor 2 (spX (X_asked_factor K Cf))) (h_asked_side : Has P w K mg base "asked_side" P_asked_side 1 (spV R_asked_side)) (x_asked_side : HasX P w K mg base "asked_side" P_asked_side 1 (spX (X_asked_side K Cf))) : FnOk P w K mg base (L2N.CX P w) 3 f fd P_least (spX (X_least K Cf)) := by
  refine okN F sc_least (fun vs H Q E h => ?_) (fun cdv A outer s H vs Q E hr h => ?_)
  · obtain ⟨C, hh, _⟩ := h
    rcases hh with ⟨y0, y1, y2, rfl, _⟩ | ⟨b, y1, y2, rfl, _⟩ | ⟨b, f, y2, rfl, _⟩ <;> rfl
  · obtain ⟨C, hh, k⟩ := h
    rcases hh with ⟨y0, y1, y2, rfl, hy, rfl⟩ | ⟨b, y1, y2, rfl, b3, b36, hy, rfl⟩ | ⟨b, f, y2, rfl, b3, b36, f2, fb, hy, rfl⟩
    · refine ⟨_, (pss_cons (ps_expr (pe_ei (pe_fn h_asked_base hr (by rfl) (pa_cons (pv 0) pa_nil)) (pe_fnX x_asked_base (L2N.takes_of rfl rfl rfl rfl) hr (by rfl) (pa_cons (pv 0) pa_nil))))
      (pss_cons (ps_expr (pe_ei (pe_fn h_asked_factor hr (by rfl) (pa_cons (pv 0) (pa_cons (pv 1) pa_nil))) (pe_fnX x_asked_factor (L2N.takes_of rfl rfl rfl rfl) hr (by rfl) (pa_cons (pv 0) (pa_cons (pv 1) pa_nil)))))
      (pss_cons (ps_expr (pe_ei (pe_fn h_asked_side hr (by rfl) (pa_cons (pv 2) pa_nil)) (pe_fnX x_asked_side (L2N.takes_of rfl rfl rfl rfl) hr (by rfl) (pa_cons (pv 2) pa_nil))))
      pss_never))), ?_⟩
      exact q_bad (ea_cons (ev_var rfl) ea_nil) (fun H1 e1 => ⟨y0, rfl, hy.extN (extN_ex e1), rfl⟩) fun H1 e1 => k H1 e1
    · refine ⟨_, (pss_cons (ps_expr (pe_ei (pe_fn h_asked_base hr (by rfl) (pa_cons (pv 0) pa_nil)) (pe_fnX x_asked_base (L2N.takes_of rfl rfl rfl rfl) hr (by rfl) (pa_cons (pv 0) pa_nil))))
      (pss_cons (ps_expr (pe_ei (pe_fn h_asked_factor hr (by rfl) (pa_cons (pv 0) (pa_cons (pv 1) pa_nil))) (pe_fnX x_asked_factor (L2N.takes_of rfl rfl rfl rfl) hr (by rfl) (pa_cons (pv 0) (pa_cons (pv 1) pa_nil)))))
      (pss_cons (ps_expr (pe_ei (pe_fn h_asked_side hr (by rfl) (pa_cons (pv 2) pa_nil)) (pe_fnX x_asked_side (L2N.takes_of rfl rfl rfl rfl) hr (by rfl) (pa_cons (pv 2) pa_nil))))
      pss_never))), ?_⟩
      refine q_ok (ev_fn (v := .non) (ea_cons (ev_var rfl) ea_nil) fun _ _ => ⟨b, rfl, b3, b36, rfl⟩) fun H1 e1 => ?_
      exact q_bad (ea_cons (ev_var rfl) (ea_cons (ev_var rfl) ea_nil)) (fun H2 e2 => ⟨b, y1, rfl, hy.extN (extN_ex (e1.trans e2)), rfl⟩) fun H2 e2 => k H2 (e1.trans e2)
    · refine ⟨_, (pss_cons (ps_expr (pe_ei (pe_fn h_asked_base hr (by rfl) (pa_cons (pv 0) pa_nil)) (pe_fnX x_asked_base (L2N.takes_of rfl rfl rfl rfl) hr (by rfl) (pa_cons (pv 0) pa_nil))))
      (pss_cons (ps_expr (pe_ei (pe_fn h_asked_factor hr (by rfl) (pa_cons (pv 0) (pa_cons (pv 1) pa_nil))) (pe_fnX x_asked_factor (L2N.takes_of rfl rfl rfl rfl) hr (by rfl) (pa_cons (pv 0) (pa_cons (pv 1) pa_nil)))))
      (pss_cons (ps_expr (pe_ei (pe_fn h_asked_side hr (by rfl) (pa_cons (pv 2) pa_nil)) (pe_fnX x_asked_side (L2N.takes_of rfl rfl rfl rfl) hr (by rfl) (pa_cons (pv 2) pa_nil))))
      pss_never))), ?_⟩
      refine q_ok (ev_fn (v := .non) (ea_cons (ev_var rfl) ea_nil) fun _ _ => ⟨b, rfl, b3, b36, rfl⟩) fun H1 e1 => ?_
      refine q_ok (ev_fn (v := .non) (ea_cons (ev_var rfl) (ea_cons (ev_var rfl) ea_nil)) fun _ _ => ⟨b, f, rfl, f2, fb, rfl⟩) fun H2 e2 => ?_
      exact q_bad (ea_cons (ev_var rfl) ea_nil) (fun H3 e3 => ⟨y2, rfl, hy.extN (extN_ex ((e1.trans e2).trans e3)), rfl⟩) fun H3 e3 => k H3 ((e1.trans e2).trans e3)

def X_share (K : PySem.W.Frag) (Cf : Nat → Addr) : List V → Hp → Addr → Prop := fun vs H C => (∃ (y0 : V) (y1 : V) (y2 : V), vs = [y0, y1, y2] ∧ Bad K okB H y0 ∧ C = Cf 0) ∨
    (∃ (b : Nat) (y1 : V) (y2 : V), vs = [vi b, y1, y2] ∧ 3 ≤ b ∧ b ≤ 36 ∧ Bad K (okF2 b) H y1 ∧ C = Cf 3) ∨
    (∃ (b : Nat) (f : Nat) (y2 : V), vs = [vi b, vi f, y2] ∧ 3 ≤ b ∧ b ≤ 36 ∧ 2 ≤ f ∧ f < b ∧ Bad K (okF1 b) H y2 ∧ C = Cf 4) ∨
    (∃ (b : Nat) (f : Nat) (d : Nat), vs = [vi b, vi f, vi d] ∧ 3 ≤ b ∧ b ≤ 36 ∧ 2 ≤ f ∧ f < b ∧ 1 ≤ d ∧ d < b ∧ d < f ∧ C = Cf 1)
theorem okx_share {f : Addr} {fd : FuncData} (XC : Excs K mg Cf CE) (F : Fun K "share" "share" s_share f fd) (h_asked_base : Has P w K mg base "asked_base" P_asked_base 2 (spV R_asked_base)) (x_asked_base : HasX P w K mg base "asked_base" P_asked_base 2 (spX (X_asked_base K Cf))) (h_asked_factor : Has P w K mg base "asked_factor" P_asked_factor 2 (spV R_asked_factor)) (x_asked_factor : HasX P w K mg base "asked_factor" P_asked_factor 2 (spX (X_asked_factor K Cf))) (h_asked_figure : Has P w K mg base "asked_figure" P_asked_figure 2 (spV R_asked_figure)) (x_asked_figure : HasX P w K mg base "asked_figure" P_asked_figure 2 (spX (X_asked_figure K Cf))) : FnOk P w K mg base (L2N.CX P w) 3 f fd P_share (spX (X_share K Cf)) := by
  refine okN F sc_share (fun vs H Q E h => ?_) (fun cdv A outer s H vs Q E hr h => ?_)
  · obtain ⟨C, hh, _⟩ := h
    rcases hh with ⟨y0, y1, y2, rfl, _⟩ | ⟨b, y1, y2, rfl, _⟩ | ⟨b, f, y2, rfl, _⟩ | ⟨b, f, d, rfl, _⟩ <;> rfl
  · obtain ⟨C, hh, k⟩ := h
    rcases hh with ⟨y0, y1, y2, rfl, hy, rfl⟩ | ⟨b, y1, y2, rfl, b3, b36, hy, rfl⟩ | ⟨b, f, y2, rfl, b3, b36, f2, fb, hy, rfl⟩ | ⟨b, f, d, rfl, b3, b36, f2, fb, d1, db, hy, rfl⟩
    · refine ⟨_, (pss_cons (ps_expr (pe_ei (pe_fn h_asked_base hr (by rfl) (pa_cons (pv 0) pa_nil)) (pe_fnX x_asked_base (L2N.takes_of rfl rfl rfl rfl) hr (by rfl) (pa_cons (pv 0) pa_nil))))
      (pss_cons (ps_expr (pe_ei (pe_fn h_asked_factor hr (by rfl) (pa_cons (pv 0) (pa_cons (pv 1) pa_nil))) (pe_fnX x_asked_factor (L2N.takes_of rfl rfl rfl rfl) hr (by rfl) (pa_cons (pv 0) (pa_cons (pv 1) pa_nil)))))
      (pss_cons (ps_expr (pe_ei (pe_fn h_asked_figure hr (by rfl) (pa_cons (pv 0) (pa_cons (pv 2) pa_nil))) (pe_fnX x_asked_figure (L2N.takes_of rfl rfl rfl rfl) hr (by rfl) (pa_cons (pv 0) (pa_cons (pv 2) pa_nil)))))
      (pss_cons (ps_if (pt_cmpR op_lt (pv 2) (pv 1) (nomark _)) (pss_one (ps_raiseN (XC.c 1 (by decide)) XC.g1 (L2N.takes_of rfl rfl rfl rfl) rfl (by rfl))) pss_nil)
      pss_never)))), ?_⟩
      exact q_bad (ea_cons (ev_var rfl) ea_nil) (fun H1 e1 => ⟨y0, rfl, hy.extN (extN_ex e1), rfl⟩) fun H1 e1 => k H1 e1
    · refine ⟨_, (pss_cons (ps_expr (pe_ei (pe_fn h_asked_base hr (by rfl) (pa_cons (pv 0) pa_nil)) (pe_fnX x_asked_base (L2N.takes_of rfl rfl rfl rfl) hr (by rfl) (pa_cons (pv 0) pa_nil))))
      (pss_cons (ps_expr (pe_ei (pe_fn h_asked_factor hr (by rfl) (pa_cons (pv 0) (pa_cons (pv 1) pa_nil))) (pe_fnX x_asked_factor (L2N.takes_of rfl rfl rfl rfl) hr (by rfl) (pa_cons (pv 0) (pa_cons (pv 1) pa_nil)))))
      (pss_cons (ps_expr (pe_ei (pe_fn h_asked_figure hr (by rfl) (pa_cons (pv 0) (pa_cons (pv 2) pa_nil))) (pe_fnX x_asked_figure (L2N.takes_of rfl rfl rfl rfl) hr (by rfl) (pa_cons (pv 0) (pa_cons (pv 2) pa_nil)))))
      (pss_cons (ps_if (pt_cmpR op_lt (pv 2) (pv 1) (nomark _)) (pss_one (ps_raiseN (XC.c 1 (by decide)) XC.g1 (L2N.takes_of rfl rfl rfl rfl) rfl (by rfl))) pss_nil)
      pss_never)))), ?_⟩
      refine q_ok (ev_fn (v := .non) (ea_cons (ev_var rfl) ea_nil) fun _ _ => ⟨b, rfl, b3, b36, rfl⟩) fun H1 e1 => ?_
      exact q_bad (ea_cons (ev_var rfl) (ea_cons (ev_var rfl) ea_nil)) (fun H2 e2 => ⟨b, y1, rfl, hy.extN (extN_ex (e1.trans e2)), rfl⟩) fun H2 e2 => k H2 (e1.trans e2)
    · refine ⟨_, (pss_cons (ps_expr (pe_ei (pe_fn h_asked_base hr (by rfl) (pa_cons (pv 0) pa_nil)) (pe_fnX x_asked_base (L2N.takes_of rfl rfl rfl rfl) hr (by rfl) (pa_cons (pv 0) pa_nil))))
      (pss_cons (ps_expr (pe_ei (pe_fn h_asked_factor hr (by rfl) (pa_cons (pv 0) (pa_cons (pv 1) pa_nil))) (pe_fnX x_asked_factor (L2N.takes_of rfl rfl rfl rfl) hr (by rfl) (pa_cons (pv 0) (pa_cons (pv 1) pa_nil)))))
      (pss_cons (ps_expr (pe_ei (pe_fn h_asked_figure hr (by rfl) (pa_cons (pv 0) (pa_cons (pv 2) pa_nil))) (pe_fnX x_asked_figure (L2N.takes_of rfl rfl rfl rfl) hr (by rfl) (pa_cons (pv 0) (pa_cons (pv 2) pa_nil)))))
      (pss_cons (ps_if (pt_cmpR op_lt (pv 2) (pv 1) (nomark _)) (pss_one (ps_raiseN (XC.c 1 (by decide)) XC.g1 (L2N.takes_of rfl rfl rfl rfl) rfl (by rfl))) pss_nil)
      pss_never)))), ?_⟩
      refine q_ok (ev_fn (v := .non) (ea_cons (ev_var rfl) ea_nil) fun _ _ => ⟨b, rfl, b3, b36, rfl⟩) fun H1 e1 => ?_
      refine q_ok (ev_fn (v := .non) (ea_cons (ev_var rfl) (ea_cons (ev_var rfl) ea_nil)) fun _ _ => ⟨b, f, rfl, f2, fb, rfl⟩) fun H2 e2 => ?_
      exact q_bad (ea_cons (ev_var rfl) (ea_cons (ev_var rfl) ea_nil)) (fun H3 e3 => ⟨b, y2, rfl, hy.extN (extN_ex ((e1.trans e2).trans e3)), rfl⟩) fun H3 e3 => k H3 ((e1.trans e2).trans e3)
    · refine ⟨_, (pss_cons (ps_expr (pe_ei (pe_fn h_asked_base hr (by rfl) (pa_cons (pv 0) pa_nil)) (pe_fnX x_asked_base (L2N.takes_of rfl rfl rfl rfl) hr (by rfl) (pa_cons (pv 0) pa_nil))))
      (pss_cons (ps_expr (pe_ei (pe_fn h_asked_factor hr (by rfl) (pa_cons (pv 0) (pa_cons (pv 1) pa_nil))) (pe_fnX x_asked_factor (L2N.takes_of rfl rfl rfl rfl) hr (by rfl) (pa_cons (pv 0) (pa_cons (pv 1) pa_nil)))))
      (pss_cons (ps_expr (pe_ei (pe_fn h_asked_figure hr (by rfl) (pa_cons (pv 0) (pa_cons (pv 2) pa_nil))) (pe_fnX x_asked_figure (L2N.takes_of rfl rfl rfl rfl) hr (by rfl) (pa_cons (pv 0) (pa_cons (pv 2) pa_nil)))))
      (pss_cons (ps_if (pt_cmpR op_lt (pv 2) (pv 1) (nomark _)) (pss_one (ps_raiseN (XC.c 1 (by decide)) XC.g1 (L2N.takes_of rfl rfl rfl rfl) rfl (by rfl))) pss_nil)
      pss_never)))), ?_⟩
      refine q_ok (ev_fn (v := .non) (ea_cons (ev_var rfl) ea_nil) fun _ _ => ⟨b, rfl, b3, b36, rfl⟩) fun H1 e1 => ?_
      refine q_ok (ev_fn (v := .non) (ea_cons (ev_var rfl) (ea_cons (ev_var rfl) ea_nil)) fun _ _ => ⟨b, f, rfl, f2, fb, rfl⟩) fun H2 e2 => ?_
      refine q_ok (ev_fn (v := .non) (ea_cons (ev_var rfl) (ea_cons (ev_var rfl) ea_nil)) fun _ _ => ⟨b, d, rfl, d1, db, rfl⟩) fun H3 e3 => ?_
      exact q_when (b := true) (et_is (et_test (ev_op (ev_var rfl) (ev_var rfl) rv_I0)) (decide_eq_true (show (d : Int) < (f : Int) by omega))) (fun _ H4 e4 => k H4 (((e1.trans e2).trans e3).trans e4)) (fun z => nomatch z)

def X_all_of (K : PySem.W.Frag) (Cf : Nat → Addr) : List V → Hp → Addr → Prop := fun vs H C => (∃ (y0 : V) (y1 : V) (y2 : V) (y3 : V), vs = [y0, y1, y2, y3] ∧ Bad K okB H y0 ∧ C = Cf 0) ∨
    (∃ (b : Nat) (y1 : V) (y2 : V) (y3 : V), vs = [vi b, y1, y2, y3] ∧ 3 ≤ b ∧ b ≤ 36 ∧ Bad K (okF2 b) H y1 ∧ C = Cf 3) ∨
    (∃ (b : Nat) (f : Nat) (y2 : V) (y3 : V), vs = [vi b, vi f, y2, y3] ∧ 3 ≤ b ∧ b ≤ 36 ∧ 2 ≤ f ∧ f < b ∧ BadS K H y2 ∧ C = Cf 5) ∨
    (∃ (b : Nat) (f : Nat) (fr : Bool) (y : V), vs = [vi b, vi f, vs' fr, y] ∧ 3 ≤ b ∧ b ≤ 36 ∧ 2 ≤ f ∧ f < b ∧ Bad K okM H y ∧ C = Cf 6)
theorem okx_all_of {f : Addr} {fd : FuncData} {tM : Tok} (M : Most mg tM) (XC : Excs K mg Cf CE) (h_is_whole : Has P w K mg base "is_whole" P_is_whole 1 (spV (R_is_whole K))) (F : Fun K "all_of" "all_of" s_all_of f fd) (h_asked_base : Has P w K mg base "asked_base" P_asked_base 2 (spV R_asked_base)) (x_asked_base : HasX P w K mg base "asked_base" P_asked_base 2 (spX (X_asked_base K Cf))) (h_asked_factor : Has P w K mg base "asked_factor" P_asked_factor 2 (spV R_asked_factor)) (x_asked_factor : HasX P w K mg base "asked_factor" P_asked_factor 2 (spX (X_asked_factor K Cf))) (h_asked_side : Has P w K mg base "asked_side" P_asked_side 1 (spV R_asked_side)) (x_asked_side : HasX P w K mg base "asked_side" P_asked_side 1 (spX (X_asked_side K Cf))) : FnOk P w K mg base (L2N.CX P w) 3 f fd P_all_of (spX (X_all_of K Cf)) := by
  refine okN F sc_all_of (fun vs H Q E h => ?_) (fun cdv A outer s H vs Q E hr h => ?_)
  · obtain ⟨C, hh, _⟩ := h
    rcases hh with ⟨y0, y1, y2, y3, rfl, _⟩ | ⟨b, y1, y2, y3, rfl, _⟩ | ⟨b, f, y2, y3, rfl, _⟩ | ⟨b, f, fr, y, rfl, _⟩ <;> rfl
  · obtain ⟨C, hh, k⟩ := h
    rcases hh with ⟨y0, y1, y2, y3, rfl, hy, rfl⟩ | ⟨b, y1, y2, y3, rfl, b3, b36, hy, rfl⟩ | ⟨b, f, y2, y3, rfl, b3, b36, f2, fb, hy, rfl⟩ | ⟨b, f, fr, y, rfl, b3, b36, f2, fb, hy, rfl⟩
    · refine ⟨_, (pss_cons (ps_expr (pe_ei (pe_fn h_asked_base hr (by rfl) (pa_cons (pv 0) pa_nil)) (pe_fnX x_asked_base (L2N.takes_of rfl rfl rfl rfl) hr (by rfl) (pa_cons (pv 0) pa_nil))))
      (pss_cons (ps_expr (pe_ei (pe_fn h_asked_factor hr (by rfl) (pa_cons (pv 0) (pa_cons (pv 1) pa_nil))) (pe_fnX x_asked_factor (L2N.takes_of rfl rfl rfl rfl) hr (by rfl) (pa_cons (pv 0) (pa_cons (pv 1) pa_nil)))))
      (pss_cons (ps_expr (pe_ei (pe_fn h_asked_side hr (by rfl) (pa_cons (pv 2) pa_nil)) (pe_fnX x_asked_side (L2N.takes_of rfl rfl rfl rfl) hr (by rfl) (pa_cons (pv 2) pa_nil))))
      (pss_cons (ps_if (PW.pt (pw_or (pt_not (pt_val (pe_fn h_is_whole hr (by rfl) (pa_cons (pv 3) pa_nil)))) (pw_or1 (pt_not (pt_chain op_le op_le pe_int (pv 3) (pe_glob (v := .int 3000) rfl M.g ⟨_, rfl⟩)))))) (pss_one (ps_raiseN (XC.c 6 (by decide)) XC.g6 (L2N.takes_of rfl rfl rfl rfl) rfl (by rfl))) pss_nil)
      pss_never)))), ?_⟩
      exact q_bad (ea_cons (ev_var rfl) ea_nil) (fun H1 e1 => ⟨y0, rfl, hy.extN (extN_ex e1), rfl⟩) fun H1 e1 => k H1 e1
    · refine ⟨_, (pss_cons (ps_expr (pe_ei (pe_fn h_asked_base hr (by rfl) (pa_cons (pv 0) pa_nil)) (pe_fnX x_asked_base (L2N.takes_of rfl rfl rfl rfl) hr (by rfl) (pa_cons (pv 0) pa_nil))))
      (pss_cons (ps_expr (pe_ei (pe_fn h_asked_factor hr (by rfl) (pa_cons (pv 0) (pa_cons (pv 1) pa_nil))) (pe_fnX x_asked_factor (L2N.takes_of rfl rfl rfl rfl) hr (by rfl) (pa_cons (pv 0) (pa_cons (pv 1) pa_nil)))))
      (pss_cons (ps_expr (pe_ei (pe_fn h_asked_side hr (by rfl) (pa_cons (pv 2) pa_nil)) (pe_fnX x_asked_side (L2N.takes_of rfl rfl rfl rfl) hr (by rfl) (pa_cons (pv 2) pa_nil))))
      (pss_cons (ps_if (PW.pt (pw_or (pt_not (pt_val (pe_fn h_is_whole hr (by rfl) (pa_cons (pv 3) pa_nil)))) (pw_or1 (pt_not (pt_chain op_le op_le pe_int (pv 3) (pe_glob (v := .int 3000) rfl M.g ⟨_, rfl⟩)))))) (pss_one (ps_raiseN (XC.c 6 (by decide)) XC.g6 (L2N.takes_of rfl rfl rfl rfl) rfl (by rfl))) pss_nil)
      pss_never)))), ?_⟩
      refine q_ok (ev_fn (v := .non) (ea_cons (ev_var rfl) ea_nil) fun _ _ => ⟨b, rfl, b3, b36, rfl⟩) fun H1 e1 => ?_
      exact q_bad (ea_cons (ev_var rfl) (ea_cons (ev_var rfl) ea_nil)) (fun H2 e2 => ⟨b, y1, rfl, hy.extN (extN_ex (e1.trans e2)), rfl⟩) fun H2 e2 => k H2 (e1.trans e2)
    · refine ⟨_, (pss_cons (ps_expr (pe_ei (pe_fn h_asked_base hr (by rfl) (pa_cons (pv 0) pa_nil)) (pe_fnX x_asked_base (L2N.takes_of rfl rfl rfl rfl) hr (by rfl) (pa_cons (pv 0) pa_nil))))
      (pss_cons (ps_expr (pe_ei (pe_fn h_asked_factor hr (by rfl) (pa_cons (pv 0) (pa_cons (pv 1) pa_nil))) (pe_fnX x_asked_factor (L2N.takes_of rfl rfl rfl rfl) hr (by rfl) (pa_cons (pv 0) (pa_cons (pv 1) pa_nil)))))
      (pss_cons (ps_expr (pe_ei (pe_fn h_asked_side hr (by rfl) (pa_cons (pv 2) pa_nil)) (pe_fnX x_asked_side (L2N.takes_of rfl rfl rfl rfl) hr (by rfl) (pa_cons (pv 2) pa_nil))))
      (pss_cons (ps_if (PW.pt (pw_or (pt_not (pt_val (pe_fn h_is_whole hr (by rfl) (pa_cons (pv 3) pa_nil)))) (pw_or1 (pt_not (pt_chain op_le op_le pe_int (pv 3) (pe_glob (v := .int 3000) rfl M.g ⟨_, rfl⟩)))))) (pss_one (ps_raiseN (XC.c 6 (by decide)) XC.g6 (L2N.takes_of rfl rfl rfl rfl) rfl (by rfl))) pss_nil)
      pss_never)))), ?_⟩
      refine q_ok (ev_fn (v := .non) (ea_cons (ev_var rfl) ea_nil) fun _ _ => ⟨b, rfl, b3, b36, rfl⟩) fun H1 e1 => ?_
      refine q_ok (ev_fn (v := .non) (ea_cons (ev_var rfl) (ea_cons (ev_var rfl) ea_nil)) fun _ _ => ⟨b, f, rfl, f2, fb, rfl⟩) fun H2 e2 => ?_
      exact q_bad (ea_cons (ev_var rfl) ea_nil) (fun H3 e3 => ⟨y2, rfl, hy.extN (extN_ex ((e1.trans e2).trans e3)), rfl⟩) fun H3 e3 => k H3 ((e1.trans e2).trans e3)
    · refine ⟨_, (pss_cons (ps_expr (pe_ei (pe_fn h_asked_base hr (by rfl) (pa_cons (pv 0) pa_nil)) (pe_fnX x_asked_base (L2N.takes_of rfl rfl rfl rfl) hr (by rfl) (pa_cons (pv 0) pa_nil))))
      (pss_cons (ps_expr (pe_ei (pe_fn h_asked_factor hr (by rfl) (pa_cons (pv 0) (pa_cons (pv 1) pa_nil))) (pe_fnX x_asked_factor (L2N.takes_of rfl rfl rfl rfl) hr (by rfl) (pa_cons (pv 0) (pa_cons (pv 1) pa_nil)))))
      (pss_cons (ps_expr (pe_ei (pe_fn h_asked_side hr (by rfl) (pa_cons (pv 2) pa_nil)) (pe_fnX x_asked_side (L2N.takes_of rfl rfl rfl rfl) hr (by rfl) (pa_cons (pv 2) pa_nil))))
      (pss_cons (ps_if (PW.pt (pw_or (pt_not (pt_val (pe_fn h_is_whole hr (by rfl) (pa_cons (pv 3) pa_nil)))) (pw_or1 (pt_not (pt_chain op_le op_le pe_int (pv 3) (pe_glob (v := .int 3000) rfl M.g ⟨_, rfl⟩)))))) (pss_one (ps_raiseN (XC.c 6 (by decide)) XC.g6 (L2N.takes_of rfl rfl rfl rfl) rfl (by rfl))) pss_nil)
      pss_never)))), ?_⟩
      refine q_ok (ev_fn (v := .non) (ea_cons (ev_var rfl) ea_nil) fun _ _ => ⟨b, rfl, b3, b36, rfl⟩) fun H1 e1 => ?_
      refine q_ok (ev_fn (v := .non) (ea_cons (ev_var rfl) (ea_cons (ev_var rfl) ea_nil)) fun _ _ => ⟨b, f, rfl, f2, fb, rfl⟩) fun H2 e2 => ?_
      refine q_ok (ev_fn (v := .non) (ea_cons (ev_var rfl) ea_nil) fun _ _ => ⟨fr, rfl, rfl⟩) fun H3 e3 => ?_
      exact q_when (b := true) (et_bad (hy.ex ((e1.trans e2).trans e3)) rfl fun i hi => by subst hi; exact et_not (et_test (ev_chain ev_c (ev_var rfl) rv_I0 ev_c rv_I0))) (fun _ H4 e4 => k H4 (((e1.trans e2).trans e3).trans e4)) (fun z => nomatch z)

end
end Tf

namespace Tf
open PySem PySem.Spec PyProof.Rows L2 Evl
/-! ### number_of, refusing -/
section
variable {P : Program} {w : World} {K : PySem.W.Frag} {mg : Str → Option Value} {base : Heap} {Cf : Nat → Addr} {CE : Addr}
/-- a figure of the base -/
def okF (b : Nat) : V → Bool
  | .int i => decide (0 ≤ i) && decide (i < (b : Int))
  | _ => false
/-- no row of figures of the base b -/
def BadRow (K : PySem.W.Frag) (b : Nat) (H : Hp) (x : V) : Prop := (∃ t, TyX K H x (.type t) ∧ kitB t "list" = some false) ∨
  ∃ (a : Addr) (ys : List V), x = .ref a ∧ H a = some (.lst ys) ∧ ys.length ≤ 1000 ∧ (∀ y ∈ ys, (NotW K H y ∧ okF b y = false) ∨ ∃ i, y = .int i) ∧ (ys = [] ∨ ys.all (okF b) = false ∨ ys[0]? = some (.int 0))
theorem BadRow.extN {b : Nat} {H H' : Hp} {x : V} (e : LamX.ExtN H H') (h : BadRow K b H x) : BadRow K b H' x := by
  rcases h with ⟨t, h1, h2⟩ | ⟨a, ys, rfl, h1, h2, h3, h4⟩
  · exact .inl ⟨t, tyx_extN e h1, h2⟩
  · exact .inr ⟨a, ys, rfl, e _ _ h1 (fun _ z => nomatch z), h2, fun y hy => (h3 y hy).imp (fun ⟨u, v⟩ => ⟨u.extN e, v⟩) id, h4⟩
def X_number_of (K : PySem.W.Frag) (Cf : Nat → Addr) : List V → Hp → Addr → Prop := fun vs H C => (∃ x y, vs = [x, y] ∧ Bad K okB H x ∧ C = Cf 0) ∨ ∃ (b : Nat) (y : V), vs = [vi b, y] ∧ 3 ≤ b ∧ b ≤ 36 ∧ BadRow K b H y ∧ C = Cf 2
theorem okx_number_of {f : Addr} {fd : FuncData} (T : Nm mg) (XC : Excs K mg Cf CE) (F : Fun K "number_of" "number_of" s_number_of f fd) (h_is_whole : Has P w K mg base "is_whole" P_is_whole 1 (spV (R_is_whole K)))
    (h_asked_base : Has P w K mg base "asked_base" P_asked_base 2 (spV R_asked_base)) (x_asked_base : HasX P w K mg base "asked_base" P_asked_base 2 (spX (X_asked_base K Cf))) : FnOk P w K mg base (L2N.CX P w) 3 f fd P_number_of (spX (X_number_of K Cf)) := by
  refine okN F sc_number_of (fun vs H Q E h => ?_) (fun cdv A outer s H vs Q E hr h => ?_)
  · obtain ⟨C, hh, _⟩ := h
    rcases hh with ⟨x, y, rfl, _⟩ | ⟨b, y, rfl, _⟩ <;> rfl
  · obtain ⟨C, hh, k⟩ := h
    rcases hh with ⟨x, y, rfl, hx, rfl⟩ | ⟨b, y, rfl, b3, b36, hy, rfl⟩
    · refine ⟨_, (pss_cons (ps_expr (pe_ei (pe_fn h_asked_base hr (by rfl) (pa_cons (pv 0) pa_nil)) (pe_fnX x_asked_base (L2N.takes_of rfl rfl rfl rfl) hr (by rfl) (pa_cons (pv 0) pa_nil))))
      (pss_cons (ps_if (PW.pt (pw_or (pt_not (pt_val (pe_callB call_isi (by rfl) T.n_isinstance (by decide +kernel) (pa_cons (pv 1) (pa_cons (pe_bltn (v := .ty "list") (by rfl) T.n_list (by decide +kernel) rfl) pa_nil))))) (pw_or (pt_cmpR (op_eqNil hr.units) (pv 1) (pe_lst pa_nil) (nomark _)) (pw_or1 (pt_not (pt_val (pe_callB (cr_all rfl) (by rfl) T.n_all (by decide +kernel) (pa_cons (pe_lc (own := [("one", 2)]) (g := gName 2) (tt := tYes) rfl sc_number_of.nd (pi_list (pv 1)) (blkOk_by (own := [("one", 2)]) (N := N_number_of) (sc := defScope s_number_of) (by decide +kernel)) (fun _ _ _ _ _ => pg_name (i := 2) sc_number_of.nd rfl (.inl rfl)) (fun _ _ _ _ _ => pts_nil) (fun _ _ _ _ _ => (pe_and (pe_fn h_is_whole hr (by rfl) (pa_cons (pv 2) pa_nil)) (pe_one (pe_chain op_le op_lt pe_int (pv 2) (pv 0)))))) pa_nil)))))))) (pss_one (ps_raiseN (XC.c 2 (by decide)) XC.g2 (L2N.takes_of rfl rfl rfl rfl) rfl (by rfl))) pss_nil)
      (pss_cons (ps_if (pt_cmpR op_eq (pe_ix ix_list (pv 1) pe_int (fun _ _ => rfl)) pe_int (nomark _)) (pss_one (ps_raiseN (XC.c 2 (by decide)) XC.g2 (L2N.takes_of rfl rfl rfl rfl) rfl (by rfl))) pss_nil)
      pss_never))), ?_⟩
      exact q_bad (ea_cons (ev_var rfl) ea_nil) (fun H1 e1 => ⟨x, rfl, hx.ex e1, rfl⟩) k
    · refine ⟨_, (pss_cons (ps_expr (pe_ei (pe_fn h_asked_base hr (by rfl) (pa_cons (pv 0) pa_nil)) (pe_fnX x_asked_base (L2N.takes_of rfl rfl rfl rfl) hr (by rfl) (pa_cons (pv 0) pa_nil))))
      (pss_cons (ps_if (PW.pt (pw_or (pt_not (pt_val (pe_callB call_isi (by rfl) T.n_isinstance (by decide +kernel) (pa_cons (pv 1) (pa_cons (pe_bltn (v := .ty "list") (by rfl) T.n_list (by decide +kernel) rfl) pa_nil))))) (pw_or (pt_cmpR (op_eqNil hr.units) (pv 1) (pe_lst pa_nil) (nomark _)) (pw_or1 (pt_not (pt_val (pe_callB (cr_all rfl) (by rfl) T.n_all (by decide +kernel) (pa_cons (pe_lc (own := [("one", 2)]) (g := gName 2) (tt := tYes) rfl sc_number_of.nd (pi_list (pv 1)) (blkOk_by (own := [("one", 2)]) (N := N_number_of) (sc := defScope s_number_of) (by decide +kernel)) (fun _ _ _ _ _ => pg_name (i := 2) sc_number_of.nd rfl (.inl rfl)) (fun _ _ _ _ _ => pts_nil) (fun _ _ _ _ _ => (pe_and (pe_fn h_is_whole hr (by rfl) (pa_cons (pv 2) pa_nil)) (pe_one (pe_chain op_le op_lt pe_int (pv 2) (pv 0)))))) pa_nil)))))))) (pss_one (ps_raiseN (XC.c 2 (by decide)) XC.g2 (L2N.takes_of rfl rfl rfl rfl) rfl (by rfl))) pss_nil)
      (pss_cons (ps_if (pt_cmpR op_eq (pe_ix ix_list (pv 1) pe_int (fun _ _ => rfl)) pe_int (nomark _)) (pss_one (ps_raiseN (XC.c 2 (by decide)) XC.g2 (L2N.takes_of rfl rfl rfl rfl) rfl (by rfl))) pss_nil)
      pss_never))), ?_⟩
      refine q_ok (ev_fn (v := .non) (ea_cons (ev_var rfl) ea_nil) fun _ _ => ⟨b, rfl, b3, b36, rfl⟩) fun H1 e1 => ?_
      rcases hy.extN (extN_ex e1) with ⟨t, h1, h2⟩ | ⟨a, ys, rfl, ha, hl, hs, hb⟩
      · exact q_when (b := true) (et_is (et_or (a := true) (b := true) (et_is (et_not (a := false) (et_B (ev_isi (ev_var rfl) (fun H1 e => tyx_mono e h1) h2))) rfl) fun z => nomatch z) rfl) (fun _ H2 e2 => k H2 (e1.trans e2)) (fun z => nomatch z)
      · refine q_when (b := ys.isEmpty || !ys.all (okF b)) (et_is (et_or (a := false) (et_is (et_not (et_B (ev_isiS (b := true) (es_old (ev_var rfl) ha) (by decide +kernel)))) rfl) fun _ => et_or (et_test (ev_eqNil (es_old (ev_var rfl) ha) (el_lst ea_nil (Nat.zero_le _)))) fun _ =>
          et_not (et_B (ev_all (bs := ys.map (okF b)) (eq_new ?_)))) ?_) (fun _ H2 e2 => k H2 (e1.trans e2)) fun hz H2 e2 => ?_
        · have g := el_lcL (K := K) (te := ?te) (tl := tVar 1) (t := tYes) (j := 2) (vs := [2]) (σ := [some (vi b), some (.ref a), none]) (fun _ => true) (fun i => V.bl (okF b (ys.getD i .non))) (ev_var rfl) (sq_of ha) (by omega) (fun x => rfl) (fun i x H3 e3 _ => et_yes) (fun i x H3 e3 hx _ => ?_)
          · rw [given_all] at g
            have e : (List.range ys.length).map (fun i => V.bl (okF b (ys.getD i .non))) = (ys.map (okF b)).map V.bl := by
              rw [List.map_map]
              apply List.ext_getElem
              · simp
              · intro i q1 q2
                have : i < ys.length := by simpa using q1
                simp [this]
            rw [e] at g
            exact g
          · have ex : ys.getD i .non = x := by rw [List.getD_eq_getElem?_getD, hx]; rfl
            rw [ex]
            rcases hs x (List.mem_of_getElem? hx) with ⟨⟨t, b', c', h1, h2, h3, h4⟩, hf⟩ | ⟨j, rfl⟩
            · rw [hf]
              exact ev_is (ev_andV (a := false) (b := false) (ev_fn (ea_cons (ev_var rfl) ea_nil) fun H4 e4 => ⟨x, t, b', c', rfl, tyx_mono (e3.trans e4) h1, h2, h3, by rw [h4]⟩) fun z => nomatch z) rfl
            · exact ev_is (ev_andV (ev_fn (ea_cons (ev_var rfl) ea_nil) fun _ _ => r_whole _) fun _ => ev_chain ev_c (ev_var rfl) rv_I0 (ev_var rfl) rv_I0) rfl
        · rw [List.all_map]
          rfl
        · rcases hb with hb | hb | hb
          · subst hb
            cases hz
          · rw [hb] at hz
            simp at hz
          · have ha2 := e2 _ _ ha
            exact q_when (b := true) (et_is (et_test (ev_op (ev_ix (eq_of (es_old (ev_var rfl) ha2)) ev_c (atI_nat (j := 0) (v := .int 0) hb)) ev_c (rv_eq rfl))) rfl) (fun _ H3 e3 => k H3 ((e1.trans e2).trans e3)) (fun z => nomatch z)
end
end Tf

namespace Tf
open PySem PySem.Spec PyProof.Rows L2 Evl
/-! ### the law's own word: a truth that is due -/
section
variable {P : Program} {w : World} {K : PySem.W.Frag} {mg : Str → Option Value} {base : Heap}
def R_lsays : List V → Hp → V → Prop := fun vs _ v => ∃ a c : Bool, vs = [.bl a, .bl c] ∧ v = .bl (decide (a = c))
abbrev s__law_says : Stmt := topS 40
abbrev N__law_says : List Str := ["_law_said", "_law_due"]
abbrev P__law_says : List Str := ["_law_said", "_law_due"]
theorem sc__law_says : FnScope N__law_says P__law_says (defScope s__law_says) := ⟨rfl, rfl, rfl, by decide +kernel, rfl, by decide +kernel, by decide +kernel⟩

theorem ok__law_says {f : Addr} {fd : FuncData} (T : Nm mg) (F : Fun K "_law_says" "_law_says" s__law_says f fd) : FnOk P w K mg base CX0 1 f fd P__law_says (spV R_lsays) := by
  refine F.ok sc__law_says (fun vs H Q E h => ?_) (fun cdv A outer s H vs Q E hr h => ?_)
  · obtain ⟨v, ⟨a, c, rfl, _⟩, _⟩ := h
    rfl
  · obtain ⟨v, ⟨a, c, rfl, rfl⟩, k⟩ := h
    refine ⟨_, (pss_one (ps_ret (pe_and (pe_callB call_isi (by rfl) T.n_isinstance (by decide +kernel) (pa_cons (pv 0) (pa_cons (pe_bltn (v := .ty "bool") (by rfl) T.n_bool (by decide +kernel) rfl) pa_nil))) (pe_one (pe_cmpR op_eq (pv 0) (pv 1) (nomark _)))))), ?_⟩
    refine s_ret (ev_is (ev_andV (a := true) (ev_isi (ev_var rfl) (fun _ _ => .base (.bl a)) (by decide +kernel)) fun _ => ev_op (ev_var rfl) (ev_var rfl) (rv_eq rfl)) ?_) k
    show V.bl (true && decide (V.bl a = V.bl c)) = V.bl (decide (a = c))
    cases a <;> cases c <;> decide +kernel
end
end Tf

namespace Tf
open PySem PySem.Spec PyProof.Rows L2 Evl
/-! ### refused -/
section
variable {P : Program} {w : World} {K : PySem.W.Frag} {mg : Str → Option Value} {base : Heap} {Cf : Nat → Addr} {CE : Addr}
/-- L, called with x where G x H i holds, raises the class i -/
def spAsk (Cf : Nat → Addr) (G : V → Hp → Nat → Prop) : Sp := spX fun vs H C => ∃ x i, vs = [x] ∧ G x H i ∧ C = Cf i
def R_refused (P : Program) (w : World) (K : PySem.W.Frag) (mg : Str → Option Value) (base : Heap) (Cf : Nat → Addr) : List V → Hp → V → Prop := fun vs H v => ∃ (f : Addr) (x : V) (i : Nat) (L : Lam) (G : V → Hp → Nat → Prop), vs = [.ref f, x, vi i] ∧ i < 7 ∧ IsLam H L f ∧ LamOk P w K mg base 4 L (spAsk Cf G) ∧ (∀ H1, Ex H H1 → G x H1 i) ∧ v = .bl true
theorem kinds_eq (i : Nat) (h : i < 7) : [decide (i = 0), decide (i = 1), decide (i = 2), decide (i = 3), decide (i = 4), decide (i = 5), decide (i = 6), true] = ((List.range 7).map fun k => decide (vi k = vi i)) ++ [true] := by
  match i, h with
  | 0, _ => decide +kernel
  | 1, _ => decide +kernel
  | 2, _ => decide +kernel
  | 3, _ => decide +kernel
  | 4, _ => decide +kernel
  | 5, _ => decide +kernel
  | 6, _ => decide +kernel
abbrev s__law_refused : Stmt := topS 39
abbrev N__law_refused : List Str := ["_law_ask", "_law_thing", "_law_due", "error", "_law_kinds", "_law_kind"]
abbrev P__law_refused : List Str := ["_law_ask", "_law_thing", "_law_due"]
theorem sc__law_refused : FnScope N__law_refused P__law_refused (defScope s__law_refused) := ⟨rfl, rfl, rfl, by decide +kernel, rfl, by decide +kernel, by decide +kernel⟩

theorem ok__law_refused {f : Addr} {fd : FuncData} (T : Nm mg) (F : Fun K "_law_refused" "_law_refused" s__law_refused f fd) (XC : Excs K mg Cf CE) : FnOk P w K mg base CX0 5 f fd P__law_refused (spV (R_refused P w K mg base Cf)) := by
  refine F.ok sc__law_refused (fun vs H Q E h => ?_) (fun cdv A outer s H vs Q E hr h => ?_)
  · obtain ⟨v, ⟨f, x, i, L, G, rfl, _⟩, _⟩ := h
    rfl
  · obtain ⟨v, ⟨f, x, i, L, G, rfl, hi, hL, ok, hG, rfl⟩, k⟩ := h
    refine ⟨_, (pss_cons (L2N.ps_try_as (i := 3) (c := .ref CE) (Wout := fun _ _ _ _ => False) rfl rfl sc__law_refused.nd rfl rfl ⟨by rfl, by decide, .inl XC.gT⟩ takesN (fun W pn xe tk _ => (pss_one (ps_expr (show PE _ _ (tLamC P w K mg base 4 0 (WE W) (tCons (tVar 1) tNil)) from pe_lamc (k := 4) (i := 0) (E := WE W) hr rfl (by first | exact Or.inl rfl | exact Or.inr (Or.inl rfl) | exact Or.inr (Or.inr rfl)) (fun σ => L2N.passAt tk σ) (pa_cons (pv 1) pa_nil))))) (fun a oe cls d pn hz hd => (pss_cons (ps_set (i := 4) sc__law_refused.nd rfl (.inl rfl) (pe_lst (pa_cons (pe_isE hz hd (by rfl) T.n_isinstance (pa_cons (pv 3) (pa_cons (pe_glob (v := .ref (Cf 0)) rfl XC.g0 rfl) pa_nil))) (pa_cons (pe_isE hz hd (by rfl) T.n_isinstance (pa_cons (pv 3) (pa_cons (pe_glob (v := .ref (Cf 1)) rfl XC.g1 rfl) pa_nil))) (pa_cons (pe_isE hz hd (by rfl) T.n_isinstance (pa_cons (pv 3) (pa_cons (pe_glob (v := .ref (Cf 2)) rfl XC.g2 rfl) pa_nil))) pa_nil)))))
      (pss_cons (ps_set (i := 4) sc__law_refused.nd rfl (.inl rfl) (pe_op op_cat (pv 4) (pe_lst (pa_cons (pe_isE hz hd (by rfl) T.n_isinstance (pa_cons (pv 3) (pa_cons (pe_glob (v := .ref (Cf 3)) rfl XC.g3 rfl) pa_nil))) (pa_cons (pe_isE hz hd (by rfl) T.n_isinstance (pa_cons (pv 3) (pa_cons (pe_glob (v := .ref (Cf 4)) rfl XC.g4 rfl) pa_nil))) (pa_cons (pe_isE hz hd (by rfl) T.n_isinstance (pa_cons (pv 3) (pa_cons (pe_glob (v := .ref (Cf 5)) rfl XC.g5 rfl) pa_nil))) pa_nil))))))
      (pss_cons (ps_set (i := 4) sc__law_refused.nd rfl (.inl rfl) (pe_op op_cat (pv 4) (pe_lst (pa_cons (pe_isE hz hd (by rfl) T.n_isinstance (pa_cons (pv 3) (pa_cons (pe_glob (v := .ref (Cf 6)) rfl XC.g6 rfl) pa_nil))) (pa_cons (pe_isE hz hd (by rfl) T.n_isinstance (pa_cons (pv 3) (pa_cons (pe_bltn (v := .ty "ValueError") (by rfl) T.n_ValueError (by decide +kernel) rfl) pa_nil))) pa_nil)))))
      (pss_one (ps_ret (pe_cmpR (show OpR _ (compareOp .Eq) (rEqD K) from op_eqD hr.units) (pv 4) (pe_op op_cat (pe_lcH (own := [("_law_kind", 5)]) (g := gName 5) ⟨(a, oe), ⟨rfl, hd.elim fun vs h => ⟨vs, h, hz.2.2 vs h⟩⟩, List.mem_cons_self⟩ sc__law_refused.nd (L2H.pi_range1H (by rfl) T.n_range (pa_cons pe_int pa_nil)) (blkOk_by (own := [("_law_kind", 5)]) (N := N__law_refused) (sc := defScope s__law_refused) (by decide +kernel)) (fun _ _ _ _ _ _ => pg_name (i := 5) sc__law_refused.nd rfl (.inl rfl)) (fun _ _ _ _ _ _ => (pe_cmpR op_eq (pv 5) (pv 2) (nomark _)))) (pe_lst (pa_cons pe_bl pa_nil))) (nomark _)))))))))
      (pss_one (ps_ret pe_bl))), ?_⟩
    refine ⟨L, _, f, ok, rfl, hL, x, rfl, ?_⟩
    refine ⟨hL, Cf i, ⟨x, i, rfl, hG H (Ex.refl H), rfl⟩, fun H2 e2 => ⟨true, XC.m i hi, fun _ a ha => ?_, fun z => nomatch z⟩⟩
    have C := (XC.c i hi).c
    have isE : ∀ {σ' : L2.St} {H' : Hp} (j : Nat), j < 7 → σ'[3]? = some (some (.ref a)) → Ev (tIsE K (.ref (Cf i)) none a (tCons (tVar 3) (tCons (tC (.ref (Cf j))) tNil))) σ' H' (.bl (decide (i = j))) := fun {σ' H'} j hj hs => ev_isE C (ev_var hs) ev_c (fun u r => r) (XC.s i j hi hj)
    refine q_asgL (el_lst (ea_cons (isE 0 (by decide) rfl) (ea_cons (isE 1 (by decide) rfl) (ea_cons (isE 2 (by decide) rfl) ea_nil))) (by simp)) fun p1 H3 n1 e3 h1 => ?_
    refine q_asgL (el_cat (es_old (ev_var rfl) h1) (es_new (el_lst (ea_cons (isE 3 (by decide) rfl) (ea_cons (isE 4 (by decide) rfl) (ea_cons (isE 5 (by decide) rfl) ea_nil))) (by simp))) (by simp)) fun p2 H4 n2 e4 h2 => ?_
    refine q_asgL (el_cat (es_old (ev_var rfl) h2) (es_new (el_lst (ea_cons (isE 6 (by decide) rfl) (ea_cons (ev_isE C (ev_var rfl) ev_c (fun u r => r) (XC.v i hi)) ea_nil)) (by simp))) (by simp)) fun p3 H5 n3 e5 h3 => ?_
    refine s_ret (v := .bl true) (ev_is (ev_eqB (bs := [decide (i = 0), decide (i = 1), decide (i = 2), decide (i = 3), decide (i = 4), decide (i = 5), decide (i = 6), true]) (cs := ((List.range 7).map fun k => decide (vi k = vi i)) ++ [true]) (eq_old (ev_var rfl) (sq_of h3))
      (eq_new (el_is (el_cat (es_new (el_lcR1 (n := 7) (fun _ => true) (fun k => V.bl (decide (vi k = vi i))) (ea_cons ev_c ea_nil) (by decide) (fun x => rfl) (fun j H6 e6 _ => et_yes) (fun j H6 e6 _ _ => ev_op (ev_var rfl) (ev_var rfl) (rv_eq rfl)))) (es_new (el_lst (ea_cons ev_c ea_nil) (by decide))) ?_) ?_))) ?_) fun H6 e6 => k H6 ((((e2.trans e3).trans e4).trans e5).trans e6)
    · rw [given_all]
      simp
    · rw [given_all, List.map_append, List.map_map]
      rfl
    · rw [← kinds_eq i hi, decide_eq_true rfl]
def R_law_all (P : Program) (w : World) (K : PySem.W.Frag) (mg : Str → Option Value) (base : Heap) (Cf : Nat → Addr) : List V → Hp → V → Prop := fun vs H v => ∃ (as ts : Addr) (i : Nat) (fs xs : List V), vs = [.ref as, .ref ts, vi i] ∧ i < 7 ∧ H as = some (.lst fs) ∧ H ts = some (.lst xs) ∧ xs.length ≤ 1000 ∧
  (∀ r ∈ fs, ∃ (f : Addr) (L : Lam) (G : V → Hp → Nat → Prop), r = .ref f ∧ IsLam H L f ∧ LamOk P w K mg base 4 L (spAsk Cf G) ∧ ∀ x ∈ xs, ∀ H1, Ex H H1 → G x H1 i) ∧ v = .bl true
end
end Tf

namespace Tf
open PySem PySem.Spec PyProof.Rows L2 Evl
section
variable {P : Program} {w : World} {K : PySem.W.Frag} {mg : Str → Option Value} {base : Heap} {Cf : Nat → Addr} {CE : Addr}
theorem ev_fnX {σ : L2.St} {H : Hp} {ta : TA} {vs : List V} {C : Addr} {R : List V → Hp → Addr → Prop} {W : WX} {Q : VK} (h : EvA ta σ H vs) (hR : ∀ H1, Ex H H1 → R vs H1 C) (k : ∀ H2, Ex H H2 → W (.ref C) none σ H2) : tCallS (spX R) (WE W) ta σ H Q :=
  h H (Ex.refl H) _ fun H1 e => ⟨C, hR H1 e, fun H2 e2 => k H2 (e.trans e2)⟩
abbrev s__law_bad_right : Stmt := topS 44
abbrev N__law_bad_right : List Str := ["_law_whole", "_law_side", "_law_asks", "_law_row", "_law_spot", "_law_bad", "_law_ask"]
abbrev P__law_bad_right : List Str := ["_law_whole"]
theorem sc__law_bad_right : FnScope N__law_bad_right P__law_bad_right (defScope s__law_bad_right) := ⟨rfl, rfl, rfl, by decide +kernel, rfl, by decide +kernel, by decide +kernel⟩

abbrev L__law_bad_right_0 : Lam := lamAt "_law_bad_right" s__law_bad_right 0
abbrev G__law_bad_right_0 (K : PySem.W.Frag) : V → Hp → Nat → Prop := fun x H i => (BadS K H x) ∧ i = 5
theorem lam__law_bad_right_0 (x_moved : HasX P w K mg base "moved" P_moved 3 (spX (X_moved K Cf))) : LamOk P w K mg base 4 L__law_bad_right_0 (spAsk Cf (G__law_bad_right_0 K)) := by
  refine lam_ok (N := ["_law_one"]) (ps := ["_law_one"]) ⟨rfl, rfl, rfl, by decide +kernel, rfl, by decide +kernel, by decide +kernel⟩ (fun vs H Q E h => ?_) (fun pm cv ctv us hl => match us, hl with | [_], _ => rfl) (fun A outer s H vs Q E f c hr h => ?_)
  · obtain ⟨C, ⟨x, i, rfl, _⟩, _⟩ := h
    rfl
  · obtain ⟨C, ⟨x, i, rfl, ⟨hx, rfl⟩, rfl⟩, k⟩ := h
    refine ⟨_, pe_fnX x_moved (L2N.takes_of rfl rfl rfl rfl) hr (by rfl) (pa_cons pe_int (pa_cons pe_int (pa_cons (pv 0) pa_nil))), ?_⟩
    exact ev_fnX (ea_cons ev_c (ea_cons ev_c (ea_cons (ev_var rfl) ea_nil))) (fun H1 e1 => (.inr (.inr ⟨10, 7, x, rfl, by decide, by decide, by decide, hx.extN (extN_ex e1), rfl⟩))) k

abbrev L__law_bad_right_1 : Lam := lamAt "_law_bad_right" s__law_bad_right 1
abbrev G__law_bad_right_1 (K : PySem.W.Frag) : V → Hp → Nat → Prop := fun x H i => (BadS K H x) ∧ i = 5
theorem lam__law_bad_right_1 (x_least_many : HasX P w K mg base "least_many" P_least_many 3 (spX (X_least_many K Cf))) : LamOk P w K mg base 4 L__law_bad_right_1 (spAsk Cf (G__law_bad_right_1 K)) := by
  refine lam_ok (N := ["_law_two"]) (ps := ["_law_two"]) ⟨rfl, rfl, rfl, by decide +kernel, rfl, by decide +kernel, by decide +kernel⟩ (fun vs H Q E h => ?_) (fun pm cv ctv us hl => match us, hl with | [_], _ => rfl) (fun A outer s H vs Q E f c hr h => ?_)
  · obtain ⟨C, ⟨x, i, rfl, _⟩, _⟩ := h
    rfl
  · obtain ⟨C, ⟨x, i, rfl, ⟨hx, rfl⟩, rfl⟩, k⟩ := h
    refine ⟨_, pe_fnX x_least_many (L2N.takes_of rfl rfl rfl rfl) hr (by rfl) (pa_cons pe_int (pa_cons pe_int (pa_cons (pv 0) (pa_cons pe_non pa_nil)))), ?_⟩
    exact ev_fnX (ea_cons ev_c (ea_cons ev_c (ea_cons (ev_var rfl) (ea_cons ev_c ea_nil)))) (fun H1 e1 => (.inr (.inr (.inl ⟨10, 3, x, _, rfl, by decide, by decide, by decide, by decide, hx.extN (extN_ex e1), rfl⟩)))) k

abbrev L__law_bad_right_2 : Lam := lamAt "_law_bad_right" s__law_bad_right 2
abbrev G__law_bad_right_2 (K : PySem.W.Frag) : V → Hp → Nat → Prop := fun x H i => (BadS K H x) ∧ i = 5
theorem lam__law_bad_right_2 (x_least : HasX P w K mg base "least" P_least 3 (spX (X_least K Cf))) : LamOk P w K mg base 4 L__law_bad_right_2 (spAsk Cf (G__law_bad_right_2 K)) := by
  refine lam_ok (N := ["_law_this"]) (ps := ["_law_this"]) ⟨rfl, rfl, rfl, by decide +kernel, rfl, by decide +kernel, by decide +kernel⟩ (fun vs H Q E h => ?_) (fun pm cv ctv us hl => match us, hl with | [_], _ => rfl) (fun A outer s H vs Q E f c hr h => ?_)
  · obtain ⟨C, ⟨x, i, rfl, _⟩, _⟩ := h
    rfl
  · obtain ⟨C, ⟨x, i, rfl, ⟨hx, rfl⟩, rfl⟩, k⟩ := h
    refine ⟨_, pe_fnX x_least (L2N.takes_of rfl rfl rfl rfl) hr (by rfl) (pa_cons pe_int (pa_cons pe_int (pa_cons (pv 0) pa_nil))), ?_⟩
    exact ev_fnX (ea_cons ev_c (ea_cons ev_c (ea_cons (ev_var rfl) ea_nil))) (fun H1 e1 => (.inr (.inr ⟨10, 3, x, rfl, by decide, by decide, by decide, by decide, hx.extN (extN_ex e1), rfl⟩))) k

abbrev L__law_bad_right_3 : Lam := lamAt "_law_bad_right" s__law_bad_right 3
abbrev G__law_bad_right_3 (K : PySem.W.Frag) : V → Hp → Nat → Prop := fun x H i => (BadS K H x) ∧ i = 5
theorem lam__law_bad_right_3 (x_all_of : HasX P w K mg base "all_of" P_all_of 3 (spX (X_all_of K Cf))) : LamOk P w K mg base 4 L__law_bad_right_3 (spAsk Cf (G__law_bad_right_3 K)) := by
  refine lam_ok (N := ["_law_far"]) (ps := ["_law_far"]) ⟨rfl, rfl, rfl, by decide +kernel, rfl, by decide +kernel, by decide +kernel⟩ (fun vs H Q E h => ?_) (fun pm cv ctv us hl => match us, hl with | [_], _ => rfl) (fun A outer s H vs Q E f c hr h => ?_)
  · obtain ⟨C, ⟨x, i, rfl, _⟩, _⟩ := h
    rfl
  · obtain ⟨C, ⟨x, i, rfl, ⟨hx, rfl⟩, rfl⟩, k⟩ := h
    refine ⟨_, pe_fnX x_all_of (L2N.takes_of rfl rfl rfl rfl) hr (by rfl) (pa_cons pe_int (pa_cons pe_int (pa_cons (pv 0) (pa_cons pe_non pa_nil)))), ?_⟩
    exact ev_fnX (ea_cons ev_c (ea_cons ev_c (ea_cons (ev_var rfl) (ea_cons ev_c ea_nil)))) (fun H1 e1 => (.inr (.inr (.inl ⟨10, 3, x, _, rfl, by decide, by decide, by decide, by decide, hx.extN (extN_ex e1), rfl⟩)))) k

abbrev L__law_bad_right_4 : Lam := lamAt "_law_bad_right" s__law_bad_right 4
abbrev G__law_bad_right_4 (K : PySem.W.Frag) : V → Hp → Nat → Prop := fun x H i => (BadRow K 10 H x) ∧ i = 2
theorem lam__law_bad_right_4 (x_number_of : HasX P w K mg base "number_of" P_number_of 3 (spX (X_number_of K Cf))) : LamOk P w K mg base 4 L__law_bad_right_4 (spAsk Cf (G__law_bad_right_4 K)) := by
  refine lam_ok (N := ["_law_some"]) (ps := ["_law_some"]) ⟨rfl, rfl, rfl, by decide +kernel, rfl, by decide +kernel, by decide +kernel⟩ (fun vs H Q E h => ?_) (fun pm cv ctv us hl => match us, hl with | [_], _ => rfl) (fun A outer s H vs Q E f c hr h => ?_)
  · obtain ⟨C, ⟨x, i, rfl, _⟩, _⟩ := h
    rfl
  · obtain ⟨C, ⟨x, i, rfl, ⟨hx, rfl⟩, rfl⟩, k⟩ := h
    refine ⟨_, pe_fnX x_number_of (L2N.takes_of rfl rfl rfl rfl) hr (by rfl) (pa_cons pe_int (pa_cons (pv 0) pa_nil)), ?_⟩
    exact ev_fnX (ea_cons ev_c (ea_cons (ev_var rfl) ea_nil)) (fun H1 e1 => (.inr ⟨10, x, rfl, by decide, by decide, hx.extN (extN_ex e1), rfl⟩)) k

abbrev L__law_bad_right_5 : Lam := lamAt "_law_bad_right" s__law_bad_right 5
abbrev G__law_bad_right_5 (K : PySem.W.Frag) : V → Hp → Nat → Prop := fun x H i => (Bad K okM H x) ∧ i = 6
theorem lam__law_bad_right_5 (x_all_of : HasX P w K mg base "all_of" P_all_of 3 (spX (X_all_of K Cf))) : LamOk P w K mg base 4 L__law_bad_right_5 (spAsk Cf (G__law_bad_right_5 K)) := by
  refine lam_ok (N := ["_law_many"]) (ps := ["_law_many"]) ⟨rfl, rfl, rfl, by decide +kernel, rfl, by decide +kernel, by decide +kernel⟩ (fun vs H Q E h => ?_) (fun pm cv ctv us hl => match us, hl with | [_], _ => rfl) (fun A outer s H vs Q E f c hr h => ?_)
  · obtain ⟨C, ⟨x, i, rfl, _⟩, _⟩ := h
    rfl
  · obtain ⟨C, ⟨x, i, rfl, ⟨hx, rfl⟩, rfl⟩, k⟩ := h
    refine ⟨_, pe_fnX x_all_of (L2N.takes_of rfl rfl rfl rfl) hr (by rfl) (pa_cons pe_int (pa_cons pe_int (pa_cons pe_str (pa_cons (pv 0) pa_nil)))), ?_⟩
    exact ev_fnX (ea_cons ev_c (ea_cons ev_c (ea_cons ev_c (ea_cons (ev_var rfl) ea_nil)))) (fun H1 e1 => (.inr (.inr (.inr ⟨10, 3, true, x, rfl, by decide, by decide, by decide, by decide, hx.extN (extN_ex e1), rfl⟩)))) k

abbrev L__law_bad_right_6 : Lam := lamAt "_law_bad_right" s__law_bad_right 6
abbrev G__law_bad_right_6 (K : PySem.W.Frag) : V → Hp → Nat → Prop := fun x H i => (BadRow K 10 H x) ∧ i = 2
theorem lam__law_bad_right_6 (x_number_of : HasX P w K mg base "number_of" P_number_of 3 (spX (X_number_of K Cf))) : LamOk P w K mg base 4 L__law_bad_right_6 (spAsk Cf (G__law_bad_right_6 K)) := by
  refine lam_ok (N := ["_law_some"]) (ps := ["_law_some"]) ⟨rfl, rfl, rfl, by decide +kernel, rfl, by decide +kernel, by decide +kernel⟩ (fun vs H Q E h => ?_) (fun pm cv ctv us hl => match us, hl with | [_], _ => rfl) (fun A outer s H vs Q E f c hr h => ?_)
  · obtain ⟨C, ⟨x, i, rfl, _⟩, _⟩ := h
    rfl
  · obtain ⟨C, ⟨x, i, rfl, ⟨hx, rfl⟩, rfl⟩, k⟩ := h
    refine ⟨_, pe_fnX x_number_of (L2N.takes_of rfl rfl rfl rfl) hr (by rfl) (pa_cons pe_int (pa_cons (pv 0) pa_nil)), ?_⟩
    exact ev_fnX (ea_cons ev_c (ea_cons (ev_var rfl) ea_nil)) (fun H1 e1 => (.inr ⟨10, x, rfl, by decide, by decide, hx.extN (extN_ex e1), rfl⟩)) k

end
end Tf

namespace Tf
open PySem PySem.Spec PyProof.Rows L2 Evl
/-! ### k08: the known ones to the front -/
theorem rep_vl (k : Nat) (ds : List Nat) : (List.replicate k (vl ds)).flatten = vl (rep k ds) := by
  show _ = List.map vi (List.replicate k ds).flatten
  rw [List.map_flatten, List.map_replicate]
theorem rep_one (d : Nat) : ∀ k, rep k [d] = List.replicate k d
  | 0 => rfl
  | k + 1 => by
    rw [rep_succ, rep_one d k, List.replicate_succ]
    rfl
theorem small_ltN {y : Nat} (h : y < 2 ^ 2000) : y < 2 ^ 50000 := Nat.lt_of_lt_of_le h (Nat.pow_le_pow_right (by decide) (by decide))
theorem neg_lt (n : Nat) : (-(n : Int)) < 2 ^ 50000 := Int.lt_of_le_of_lt (show (-(n : Int)) ≤ 0 by omega) (Int.pow_pos (by decide))
theorem trn_turns {b f x : Nat} {fr : Bool} (h1 : 0 < x) (h2 : mv b x fr = f * x) : trn b f fr x = true := by
  unfold trn
  rw [decide_eq_true h1, decide_eq_true h2]
  rfl
theorem atI_natN {ds : List Nat} {i d : Nat} (h : ds[i]? = some d) : atI (vl ds) (i : Int) = some (vi d) := atI_nat (by rw [List.getElem?_map, h]; rfl)
theorem in_vl {ns : List Nat} {x : Nat} (h : x ∈ ns) : inV (vi x) (vl ns) = true := by
  unfold inV
  rw [List.any_eq_true]
  exact ⟨vi x, List.mem_map.mpr ⟨x, h, rfl⟩, by show ((x : Int) == (x : Int)) = true; exact beq_self_eq_true _⟩
theorem flat_vl (ns : List Nat) : (vl ns).all flatV = true := by
  rw [List.all_eq_true]
  intro x hx
  obtain ⟨i, _, rfl⟩ := List.mem_map.mp hx
  rfl
section
variable {P : Program} {w : World} {K : PySem.W.Frag} {mg : Str → Option Value} {base : Heap}
/-- a, b = [..], an object -/
theorem q_parLI {σ : L2.St} {H : Hp} {D : Ends} {tz : TS} {ta tb : TE} {i j : Nat} {C : Addr} {fs : List (Str × V)} {xs : List V} (h : EvL ta σ H xs) (h2 : EvI tb σ H C fs) (k : ∀ p u dx H1, H p = none → Ex H H1 → H1 p = some (.lst xs) → H1 u = some (.ins C dx fs) → tz D ((σ.set i (some (.ref p))).set j (some (.ref u))) H1) : tSeq (tPar i j (tCons ta (tCons tb tNil))) tz D σ H :=
  h H (Ex.refl H) _ fun p H1 np e1 hp => h2 H1 e1 _ fun u dx H2 nu e2 hu => ⟨.ref p, .ref u, rfl, k p u dx H2 np (e1.trans e2) (e2 _ _ hp) hu⟩
/-- a, b = a pair -/
theorem q_unpU {σ : L2.St} {H : Hp} {D : Ends} {tz : TS} {te : TE} {x y : V} {i j : Nat} (h : EvU te σ H [x, y]) (k : ∀ H1, Ex H H1 → tz D ((σ.set i (some x)).set j (some y)) H1) : tSeq (tAsg te (gTup K 2 (gCons (gName i) (gCons (gName j) gNil)))) tz D σ H :=
  h H (Ex.refl H) _ fun p H1 _ e1 hp => ⟨p, [x, y], rfl, st_of hp, rfl, x, [y], rfl, y, [], rfl, rfl, k _ e1⟩
theorem ev_niN {σ : L2.St} {H : Hp} {ta tb : TE} {x : Nat} {ns : List Nat} (ha : Ev ta σ H (vi x)) (hb : EvL tb σ H (vl ns)) (hx : x ∈ ns) : Ev (tOp (rIn K true) ta tb) σ H (.bl false) :=
  ev_is (ev_opL ha hb fun p H1 hp _ => rv_niL (sq_of hp) rfl (flat_vl ns)) (by rw [in_vl hx]; rfl)
theorem ev_trs {CT : Addr} {σ : L2.St} {H : Hp} {ta tb tc td : TE} {n : Int} {b f : Nat} {fr : Bool} (h1 : Ev ta σ H (.int n)) (h2 : Ev tb σ H (vi b)) (h3 : Ev tc σ H (vi f)) (h4 : Ev td σ H (vs' fr)) (g1 : 2 ≤ b) (g2 : b ≤ 36) (g3 : f ≤ 36) (g4 : n < 2 ^ 50000) :
    Ev (tMeth CT "shows" (spV (R_tshows CT)) [] E0 (tMake CT (spInit1 CT "number") [] E0 (tCons ta tNil)) (tCons tb (tCons tc (tCons td tNil)))) σ H (.bl (trn b f fr n.toNat)) :=
  ev_methJ (ej_new (ei_make h1)) (nf_shows n) (ea_cons h2 (ea_cons h3 (ea_cons h4 ea_nil))) fun u dx H7 e7 h7 => ⟨u, dx, n, b, f, fr, rfl, h7, g1, g2, g3, g4, rfl⟩
theorem ev_says {σ : L2.St} {H : Hp} {ta tb : TE} {x y : Bool} (h1 : Ev ta σ H (.bl x)) (h2 : Ev tb σ H (.bl y)) : Ev (tCall (spV R_lsays) [] E0 (tCons ta (tCons tb tNil))) σ H (.bl (decide (x = y))) := ev_fn (ea_cons h1 (ea_cons h2 ea_nil)) fun _ _ => ⟨_, _, rfl, rfl⟩
/-- not says(Turns(n).shows(10, f, "front"), due): never -/
theorem et_shown {CT : Addr} {σ : L2.St} {H : Hp} {ta tb : TE} {x : Int} {f : Nat} {due : Bool} (h1 : Ev ta σ H (.int x)) (h2 : Ev tb σ H (vi f)) (g3 : f ≤ 36) (g4 : x < 2 ^ 50000) (hd : trn 10 f true x.toNat = due) :
    EvT (tNot (tB (tCall (spV R_lsays) [] E0 (tCons (tMeth CT "shows" (spV (R_tshows CT)) [] E0 (tMake CT (spInit1 CT "number") [] E0 (tCons ta tNil)) (tCons (tC (.int 10)) (tCons tb (tCons (tC (vs' true)) tNil)))) (tCons (tC (.bl due)) tNil))))) σ H false :=
  et_is (et_not (et_B (ev_says (ev_trs (n := x) (b := 10) (f := f) (fr := true) h1 ev_c h2 ev_c (by decide) (by decide) g3 g4) ev_c))) (by
    rw [hd, decide_eq_true rfl]
    rfl)
def R_known : List V → Hp → List V → Prop := fun vs _ xs => vs = [] ∧ xs = vl kn
abbrev s__law_known : Stmt := topS 41
abbrev N__law_known : List Str := ["_law_found"]
abbrev P__law_known : List Str := []
theorem sc__law_known : FnScope N__law_known P__law_known (defScope s__law_known) := ⟨rfl, rfl, rfl, by decide +kernel, rfl, by decide +kernel, by decide +kernel⟩

theorem ok__law_known {f : Addr} {fd : FuncData} (F : Fun K "_law_known" "_law_known" s__law_known f fd) : FnOk P w K mg base CX0 1 f fd P__law_known (spL R_known) := by
  refine F.ok sc__law_known (fun vs H Q E h => ?_) (fun cdv A outer s H vs Q E hr h => ?_)
  · obtain ⟨xs, ⟨rfl, _⟩, _⟩ := h
    rfl
  · obtain ⟨xs, ⟨rfl, rfl⟩, k⟩ := h
    refine ⟨_, (pss_cons (ps_set (i := 0) sc__law_known.nd rfl (.inl rfl) (pe_lst (pa_cons pe_int (pa_cons pe_int (pa_cons pe_int (pa_cons pe_int pa_nil))))))
      (pss_cons (ps_expr (pe_bm PySem.F.plainAttrs_list PySem.F.slot_list_append PySem.F.type_list_append mt_append (pv 0) (pa_cons pe_int pa_nil)))
      (pss_one (ps_ret (pe_op op_cat (pv 0) (pe_lst (pa_cons pe_int (pa_cons pe_int (pa_cons pe_int pa_nil))))))))), ?_⟩
    refine q_asgL (el_lst (ea_cons ev_c (ea_cons ev_c (ea_cons ev_c (ea_cons ev_c ea_nil)))) (by simp)) fun p H1 np e1 hp => ?_
    refine q_app hp (ev_var rfl) ev_c (by simp) fun H2 e2 => ?_
    have e3 := Ex.mut (o := .lst ([.int 105263157894736842, .int 1034482758620689655172413793, .int 102564, .int 142857] ++ [.int 1016949152542372881355932203389830508474576271186440677966])) (e1.trans e2) np
    exact s_retL (el_is (el_cat (es_old (ev_var rfl) upd_same) (es_new (el_lst (ea_cons ev_c (ea_cons ev_c (ea_cons ev_c ea_nil))) (by simp))) (by simp)) rfl) fun q H3 nq e4 hq => k q H3 (fresh_back e3 nq) (e3.trans e4) hq
def R_front : List V → Hp → V → Prop := fun vs _ v => ∃ n : Nat, vs = [vi n] ∧ v = .bl true
abbrev s__law_front_right : Stmt := topS 42
abbrev N__law_front_right : List Str := ["_law_whole", "_law_factor", "_law_known_here", "_law_row", "_law_told", "_law_twice", "_law_number", "_law_spot", "_law_bent", "_law_figure", "_law_top", "_law_bottom", "_law_nines"]
abbrev P__law_front_right : List Str := ["_law_whole"]
theorem sc__law_front_right : FnScope N__law_front_right P__law_front_right (defScope s__law_front_right) := ⟨rfl, rfl, rfl, by decide +kernel, rfl, by decide +kernel, by decide +kernel⟩

theorem ok__law_front_right {f CA CT CN : Addr} {fd : FuncData} (T : Nm mg) (F : Fun K "_law_front_right" "_law_front_right" s__law_front_right f fd) (KT : Kls K mg "Turns" CT) (KN : Kls K mg "Never" CN) (NT : NoAttr K CT "number") (BN : Bare K CN) (Z : Kits K CA CT CN)
    (h__law_known : Has P w K mg base "_law_known" P__law_known 1 (spL R_known)) (h_figures : Has P w K mg base "figures" P_figures 3 (spL R_figures)) (h_least : Has P w K mg base "least" P_least 4 (spLeast CT CN)) (h_moved : Has P w K mg base "moved" P_moved 3 (spV R_moved)) (h_number_of : Has P w K mg base "number_of" P_number_of 3 (spV (R_number_of K)))
    (h_all_of : Has P w K mg base "all_of" P_all_of 4 (spL R_all_of)) (h__law_says : Has P w K mg base "_law_says" P__law_says 1 (spV R_lsays)) (h_Turns___init__ : HasMk P w K mg base "Turns" CT P_Turns___init__ 1 (spInit1 CT "number")) (h_Turns_shows : HasM P w K mg base CT "shows" P_Turns_shows 3 (spV (R_tshows CT))) (h_Never_shows : HasM P w K mg base CN "shows" P_Never_shows 4 (spV R_nshows))
    (h_share : Has P w K mg base "share" P_share 3 (spU R_share)) (h_least_many : Has P w K mg base "least_many" P_least_many 4 (spV R_length_of)) : FnOk P w K mg base CX0 5 f fd P__law_front_right (spV R_front) := by
  refine F.ok sc__law_front_right (fun vs H Q E h => ?_) (fun cdv A outer s H vs Q E hr h => ?_)
  · obtain ⟨v, ⟨n, rfl, _⟩, _⟩ := h
    rfl
  · obtain ⟨v, ⟨n, rfl, rfl⟩, k⟩ := h
    refine ⟨_, (pss_cons (ps_set (i := 1) sc__law_front_right.nd rfl (.inl rfl) (pe_op op_add pe_int (pe_op op_mod (pv 0) pe_int)))
      (pss_cons (ps_set (i := 2) sc__law_front_right.nd rfl (.inl rfl) (pe_ix ix_list (pe_fn0 h__law_known hr (by rfl)) (pe_op op_sub (pv 1) pe_int) (fun _ _ => rfl)))
      (pss_cons (ps_par (i := 3) (j := 4) (by rfl) sc__law_front_right.nd rfl rfl (by decide) rfl rfl (pa_cons (pe_fn h_figures hr (by rfl) (pa_cons pe_int (pa_cons (pv 2) pa_nil))) (pa_cons (pe_fn h_least hr (by rfl) (pa_cons pe_int (pa_cons (pv 1) (pa_cons pe_str pa_nil)))) pa_nil)) (by rfl))
      (pss_cons (ps_if (PW.pt (pw_or (pt_not (pt_val (pe_callB call_isi (by rfl) T.n_isinstance (by decide +kernel) (pa_cons (pv 4) (pa_cons (pe_glob (v := .ref CT) rfl KT.g rfl) pa_nil))))) (pw_or (pt_cmpR op_ne (pe_fld (pv 4) rfl) (pv 2) (nomark _)) (pw_or1 (pt_cmpR op_ne (pe_fn h_moved hr (by rfl) (pa_cons pe_int (pa_cons (pv 2) (pa_cons pe_str pa_nil)))) (pe_op op_mul (pv 1) (pv 2)) (nomark _)))))) (pss_one (ps_ret pe_bl)) pss_nil)
      (pss_cons (ps_set (i := 5) sc__law_front_right.nd rfl (.inl rfl) (pe_fn h_number_of hr (by rfl) (pa_cons pe_int (pa_cons (pe_op op_rep (pv 3) (pe_op op_add pe_int (pe_op op_mod (pe_op op_fdiv (pv 0) pe_int) pe_int))) pa_nil))))
      (pss_cons (ps_if (pt_not (pt_val (pe_fn h__law_says hr (by rfl) (pa_cons (pe_mth h_Turns_shows hr (pe_mk h_Turns___init__ hr (by rfl) (pa_cons (pv 5) pa_nil)) (pa_cons pe_int (pa_cons (pv 1) (pa_cons pe_str pa_nil)))) (pa_cons pe_bl pa_nil))))) (pss_one (ps_ret pe_bl)) pss_nil)
      (pss_cons (ps_if (pt_cmpR op_notIn_seq (pv 2) (pe_fn h_all_of hr (by rfl) (pa_cons pe_int (pa_cons (pv 1) (pa_cons pe_str (pa_cons (pe_callB call_len_seq (by rfl) T.n_len (by decide +kernel) (pa_cons (pv 3) pa_nil)) pa_nil))))) (by rfl)) (pss_one (ps_ret pe_bl)) pss_nil)
      (pss_cons (ps_if (pt_cmpR op_notIn_seq (pv 5) (pe_fn h_all_of hr (by rfl) (pa_cons pe_int (pa_cons (pv 1) (pa_cons pe_str (pa_cons (pe_op op_mul (pe_callB call_len_seq (by rfl) T.n_len (by decide +kernel) (pa_cons (pv 3) pa_nil)) (pe_op op_add pe_int (pe_op op_mod (pe_op op_fdiv (pv 0) pe_int) pe_int))) pa_nil))))) (by rfl)) (pss_one (ps_ret pe_bl)) pss_nil)
      (pss_cons (ps_for PassesOwn.never rfl (pi_list (pe_lst (pa_cons (pe_op op_add (pv 2) pe_int) (pa_cons (pe_op op_mul (pv 2) pe_int) (pa_cons (pe_un un_neg (pv 2)) (pa_cons pe_int (pa_cons (pe_op op_fdiv (pv 2) pe_int) (pa_cons (pe_op op_add (pv 5) pe_int) pa_nil)))))))) (pg_name (i := 6) sc__law_front_right.nd rfl (.inl rfl)) (pss_one (ps_if (pt_not (pt_val (pe_fn h__law_says hr (by rfl) (pa_cons (pe_mth h_Turns_shows hr (pe_mk h_Turns___init__ hr (by rfl) (pa_cons (pv 6) pa_nil)) (pa_cons pe_int (pa_cons (pv 1) (pa_cons pe_str pa_nil)))) (pa_cons pe_bl pa_nil))))) (pss_one (ps_ret pe_bl)) pss_nil)))
      (pss_cons (ps_set (i := 7) sc__law_front_right.nd rfl (.inl rfl) (pe_op op_mod (pe_op op_fdiv (pv 0) pe_int) (pe_callB call_len_seq (by rfl) T.n_len (by decide +kernel) (pa_cons (pv 3) pa_nil))))
      (pss_cons (ps_set (i := 8) sc__law_front_right.nd rfl (.inl rfl) (pe_op op_cat (pe_op op_cat (pe_slice sl_list (pv 3) po_none (po_some (pv 7))) (pe_lst (pa_cons (pe_op op_mod (pe_op op_add (pe_op op_add (pe_ix ix_list (pv 3) (pv 7) (fun _ _ => rfl)) pe_int) (pe_op op_mod (pe_op op_fdiv (pv 0) pe_int) pe_int)) pe_int) pa_nil))) (pe_slice sl_list (pv 3) (po_some (pe_op op_add (pv 7) pe_int)) po_none)))
      (pss_cons (ps_if (PW.pt (pw_and (pt_cmpR op_gt (pe_ix ix_list (pv 8) pe_int (fun _ _ => rfl)) pe_int (nomark _)) (pw_and1 (pt_not (pt_val (pe_fn h__law_says hr (by rfl) (pa_cons (pe_mth h_Turns_shows hr (pe_mk h_Turns___init__ hr (by rfl) (pa_cons (pe_fn h_number_of hr (by rfl) (pa_cons pe_int (pa_cons (pv 8) pa_nil))) pa_nil)) (pa_cons pe_int (pa_cons (pv 1) (pa_cons pe_str pa_nil)))) (pa_cons pe_bl pa_nil)))))))) (pss_one (ps_ret pe_bl)) pss_nil)
      (pss_cons (ps_if (pt_not (pt_val (pe_fn h__law_says hr (by rfl) (pa_cons (pe_mth h_Turns_shows hr (pe_mk h_Turns___init__ hr (by rfl) (pa_cons (pv 2) pa_nil)) (pa_cons pe_int (pa_cons (pe_op op_add pe_int (pe_op op_mod (pe_op op_sub (pv 1) pe_int) pe_int)) (pa_cons pe_str pa_nil)))) (pa_cons pe_bl pa_nil))))) (pss_one (ps_ret pe_bl)) pss_nil)
      (pss_cons (ps_if (pt_val (pe_mth (pl := _) h_Never_shows hr (pe_bare BN (by rfl) KN.g) (pa_cons pe_int (pa_cons (pv 1) (pa_cons pe_str pa_nil))) (by decide) rfl rfl (mcall_of (abase_call (by decide +kernel)) fun _ => rfl))) (pss_one (ps_ret pe_bl)) pss_nil)
      (pss_cons (ps_set (i := 9) sc__law_front_right.nd rfl (.inl rfl) (pe_ix ix_list (pv 3) (pe_un un_neg pe_int) (fun _ _ => rfl)))
      (pss_cons (ps_asg (pe_fn h_share hr (by rfl) (pa_cons pe_int (pa_cons (pv 1) (pa_cons (pv 9) pa_nil)))) (pg_tup rfl (pgs_cons (pg_name (i := 10) sc__law_front_right.nd rfl (.inl rfl)) (pgs_cons (pg_name (i := 11) sc__law_front_right.nd rfl (.inl rfl)) pgs_nil))))
      (pss_cons (ps_if (PW.pt (pw_or (pt_cmpR op_ne (pe_op op_mul (pv 10) (pe_op op_sub (pe_op op_mul pe_int (pv 1)) pe_int)) (pe_op op_mul (pv 11) (pv 9)) (nomark _)) (pw_or1 (pt_cmpR op_ne (pe_fn h_least_many hr (by rfl) (pa_cons pe_int (pa_cons (pv 1) (pa_cons pe_str (pa_cons (pv 9) pa_nil))))) (pe_callB call_len_seq (by rfl) T.n_len (by decide +kernel) (pa_cons (pv 3) pa_nil)) (nomark _))))) (pss_one (ps_ret pe_bl)) pss_nil)
      (pss_cons (ps_set (i := 12) sc__law_front_right.nd rfl (.inl rfl) (pe_fn h_number_of hr (by rfl) (pa_cons pe_int (pa_cons (pe_op op_rep (pe_lst (pa_cons pe_int pa_nil)) (pe_callB call_len_seq (by rfl) T.n_len (by decide +kernel) (pa_cons (pv 3) pa_nil))) pa_nil))))
      (pss_one (ps_ret (pe_cmpR op_eq (pe_op op_mul (pv 2) (pv 11)) (pe_op op_mul (pv 10) (pv 12)) (nomark _)))))))))))))))))))))), ?_⟩
    obtain ⟨x, m, d, hx, k0⟩ := kn_all (n % 8) (Nat.mod_lt _ (by decide))
    refine q_asg (v := vi (2 + n % 8)) (ev_is (ev_op ev_c (ev_op (ev_var rfl) ev_c (rv_I (by decide))) rv_I0) rfl) fun H1 e1 => ?_
    refine q_asg (v := vi x) (ev_ix (eq_new (el_fn ea_nil fun _ _ => ⟨rfl, rfl⟩)) (ev_is (w := vi (n % 8)) (ev_op (ev_var rfl) ev_c rv_I0) ?_) (atI_natN hx)) fun H2 e2 => ?_
    · show V.int (((2 + n % 8 : Nat) : Int) - 2) = V.int ((n % 8 : Nat) : Int)
      congr 1
      omega
    clear hx
    generalize 2 + n % 8 = fc at *
    obtain ⟨f2, f9, x0, xs, xl, m6, m58, xt, xm, xn, xu, x10, xd, xr, xe, fd', d9, xo, xh, x9⟩ := k0
    have x5 : x < 2 ^ 50000 := small_ltN (Nat.lt_trans xs (Nat.pow_lt_pow_right (by decide) (by decide)))
    refine q_parLI (C := CT) (fs := nf x) (el_fn (R := R_figures) (ea_cons ev_c (ea_cons (ev_var rfl) ea_nil)) fun _ _ => ⟨10, x, rfl, by decide, by decide, x0, x5, rfl⟩) (ei_call (ea_cons ev_c (ea_cons (ev_var rfl) (ea_cons ev_c ea_nil))) fun H1 Q E e k => ⟨10, fc, true, rfl, by decide, by decide, f2, by omega, by rw [xm]; exact k⟩) fun p u dx H3 np e3 hp hu => ?_
    have cf : (-(2 ^ 64) : Int) < (fc : Int) ∧ (fc : Int) < 2 ^ 64 := ⟨by omega, by omega⟩
    refine q_when (b := false) (et_is (et_or (a := false) (et_is (et_not (et_B (ev_isiJ (b := true) (ej_old (ev_var rfl) hu) KT Z.tt))) rfl) fun _ => et_or (et_test (ev_op (ev_fldJ (ej_old (ev_var rfl) hu) KT.cl NT (nf_get _)) (ev_var rfl) (rv_ne rfl))) fun _ => et_test (ev_op (ev_fn (ea_cons ev_c (ea_cons (ev_var rfl) (ea_cons ev_c ea_nil))) fun _ _ => ⟨10, x, true, rfl, by decide, by decide, x0, x5, by rw [xt]⟩) (ev_op (ev_var rfl) (ev_var rfl) (rv_I (.inl cf))) (rv_ne rfl))) ?_) (fun z => nomatch z) fun _ H4 e4 => ?_
    · show (false || (!decide (vi x = vi x) || !decide (vi (fc * x) = vi (fc * x)))) = false
      rw [decide_eq_true rfl, decide_eq_true rfl]
      rfl
    have hp4 := e4 _ _ hp
    have hk : 2 ≤ 2 + n / 8 % 4 ∧ 2 + n / 8 % 4 ≤ 5 := by omega
    have ekk : ∀ {σ : L2.St} {H : Hp}, σ[0]? = some (some (vi n)) → Ev (tOp (rI0 fun i j => .int (i + j)) (tC (.int 2)) (tOp (rI (fun _ j => 0 < j) fun i j => .int (i % j)) (tOp (rI CDiv fun i j => .int (i / j)) (tVar 0) (tC (.int 8))) (tC (.int 4)))) σ H (vi (2 + n / 8 % 4)) := fun hs => ev_is (ev_op ev_c (ev_op (ev_op (ev_var hs) ev_c (rv_I ⟨by decide, by decide⟩)) ev_c (rv_I (by decide))) rv_I0) rfl
    generalize 2 + n / 8 % 4 = kk at *
    have hd0 : ∃ d, (figs 10 x)[0]? = some d ∧ 0 < d := by
      have g : (figs 10 x)[0]? = some (figs 10 x)[0] := List.getElem?_eq_getElem (by omega)
      exact ⟨_, g, figs_head (by decide) _ _ g⟩
    have hlt : ∀ d ∈ figs 10 x, d < 10 := figs_lt (by decide) x
    obtain ⟨g1, g2, g3⟩ := mv_rep (b := 10) (f := fc) (fr := true) (ds := figs 10 x) (k := kk) (by decide) hlt hd0 (by omega) (by rw [wr_figs (by decide)]; exact xt)
    have hrl : (rep kk (figs 10 x)).length = kk * m := by rw [rep_len, xl]
    have hkm : kk * m ≤ 5 * 58 := Nat.mul_le_mul hk.2 m58
    have hkm1 : 1 ≤ kk * m := Nat.mul_pos (by omega) (by omega)
    refine q_asg (v := vi (wr 10 (rep kk (figs 10 x)))) (ev_fnL ev_c (es_new (el_is (el_rep (k := kk) (xs := vl (figs 10 x)) (es_old (ev_var rfl) hp4) (ekk rfl) (by omega) (by rw [vl_len, xl, Nat.mul_comm]; omega)) (rep_vl _ _))) fun u H5 e5 hu => ⟨10, u, rep kk (figs 10 x), rfl, by decide, by decide, hu, by omega, fun d hd => hlt d (rep_mem hd), ?_, rfl⟩) fun H5 e5 => ?_
    · have l0 : 0 < (rep kk (figs 10 x)).length := by omega
      have g : (rep kk (figs 10 x))[0]? = some (rep kk (figs 10 x))[0] := List.getElem?_eq_getElem l0
      generalize (rep kk (figs 10 x))[0] = g0 at g
      refine ⟨_, g, ?_⟩
      rw [← g1] at g
      exact figs_head (by decide) _ _ g
    have tw5 : wr 10 (rep kk (figs 10 x)) + 1 < 2 ^ 2000 := by
      have h1 := wr_rep_lt (b := 10) (k := kk) (by decide) hlt
      rw [xl] at h1
      have h2 : 10 ^ (kk * m) ≤ 10 ^ 290 := Nat.pow_le_pow_right (by decide) (by omega)
      have h3 : 10 ^ 290 < 2 ^ 2000 := by decide +kernel
      omega
    have tm : wr 10 (rep kk (figs 10 x)) ∈ allOf 10 fc true (m * kk) := (mem_allOf (by decide) (by decide) f2 (by omega) (by rw [Nat.mul_comm]; omega)).mpr ⟨g3, by rw [g1, hrl, Nat.mul_comm], g2⟩
    have tr := xr kk hk.1 hk.2
    have tt := trn_turns g3 g2
    generalize wr 10 (rep kk (figs 10 x)) = tw at *
    refine q_when (b := false) (et_shown (x := (tw : Int)) (ev_var rfl) (ev_var rfl) (by omega) (int_lt (small_ltN (by omega))) tt) (fun z => nomatch z) fun _ H6 e6 => ?_
    have hp6 := e6 _ _ (e5 _ _ hp4)
    have elen : ∀ {σ : L2.St} {H' : Hp}, Ex H6 H' → σ[3]? = some (some (.ref p)) → Ev (tCB (fun zs H Q => ∃ p ys, zs = [.ref p] ∧ (SqL K H p ys ∨ SqT K H p ys) ∧ Q (.int ys.length) H) (tCons (tVar 3) tNil)) σ H' (vi m) := fun e hs => ev_is (ev_len (eq_of (es_old (ev_var hs) (e _ _ hp6)))) (by rw [vl_len, xl])
    refine q_when (b := false) (et_test (ev_niN (ns := allOf 10 fc true m) (ev_var rfl) (el_fn (R := R_all_of) (ea_cons ev_c (ea_cons (ev_var rfl) (ea_cons ev_c (ea_cons (elen (Ex.refl _) rfl) ea_nil)))) fun _ _ => ⟨10, fc, true, m, rfl, by decide, by decide, f2, by omega, by omega, by omega, rfl⟩) ((mem_allOf (by decide) (by decide) f2 (by omega) (by omega)).mpr ⟨x0, xl, xt⟩))) (fun z => nomatch z) fun _ H7 e7 => ?_
    refine q_when (b := false) (et_test (ev_niN (ns := allOf 10 fc true (m * kk)) (ev_var rfl) (el_fn (R := R_all_of) (ea_cons ev_c (ea_cons (ev_var rfl) (ea_cons ev_c (ea_cons (ev_is (w := vi (m * kk)) (ev_op (elen e7 rfl) (ekk rfl) (rv_I (.inl ⟨by omega, by omega⟩))) rfl) ea_nil)))) fun _ _ => ⟨10, fc, true, m * kk, rfl, by decide, by decide, f2, by omega, by rw [Nat.mul_comm]; omega, by rw [Nat.mul_comm]; omega, rfl⟩) tm)) (fun z => nomatch z) fun _ H8 e8 => ?_
    have e68 := e7.trans e8
    -- numbers that do not turn
    have up5 : x * 10 < 2 ^ 2000 := by
      have : (2 : Nat) ^ 200 * 10 < 2 ^ 2000 := by decide +kernel
      omega
    have six : ∀ y ∈ ([(x : Int) + 1, (x : Int) * 10, -(x : Int), 0, ((x / 10 : Nat) : Int), (tw : Int) + 1] : List Int), y < 2 ^ 50000 ∧ trn 10 fc true y.toNat = false := fun y hy => by
      simp only [List.mem_cons, List.not_mem_nil, or_false] at hy
      rcases hy with rfl | rfl | rfl | rfl | rfl | rfl
      · exact ⟨int_lt (x := x + 1) (small_ltN (by omega)), xu⟩
      · exact ⟨int_lt (x := x * 10) (small_ltN up5), x10⟩
      · refine ⟨neg_lt x, ?_⟩
        rw [show (-(x : Int)).toNat = 0 by omega]
        rfl
      · exact ⟨int_lt (x := 0) (small_ltN (Nat.pow_pos (by decide))), rfl⟩
      · exact ⟨int_lt (x := x / 10) (small_ltN (by omega)), xd⟩
      · exact ⟨int_lt (x := tw + 1) (small_ltN tw5), tr⟩
    refine q_forNLn (xs := ([(x : Int) + 1, (x : Int) * 10, -(x : Int), 0, ((x / 10 : Nat) : Int), (tw : Int) + 1] : List Int).map V.int) (el_is (el_lst (ea_cons (ev_op (ev_var rfl) ev_c rv_I0) (ea_cons (ev_op (ev_var rfl) ev_c (rv_I (.inr ⟨by decide, by decide⟩))) (ea_cons (ev_un (ev_var rfl) ru_neg) (ea_cons ev_c (ea_cons (ev_op (ev_var rfl) ev_c (rv_I ⟨by decide, by decide⟩)) (ea_cons (ev_op (ev_var rfl) ev_c rv_I0) ea_nil)))))) (by simp)) rfl)
      (fun q i σ' H' => ∃ r6, σ' = [some (vi n), some (vi fc), some (vi x), some (.ref p), some (.ref u), some (vi tw), r6, none, none, none, none, none, none] ∧ Ex H8 H' ∧ H' q = some (.lst (([(x : Int) + 1, (x : Int) * 10, -(x : Int), 0, ((x / 10 : Nat) : Int), (tw : Int) + 1] : List Int).map V.int)))
      (fun q H9 _ e9 hq => ⟨_, rfl, e9, hq⟩) (fun q i σ' H' _ ⟨_, _, _, z⟩ => sq_of z) ?_ ?_
    · rintro q i y σ' H9 hy ⟨r6, rfl, e9, hq⟩
      obtain ⟨c, hc, rfl⟩ := get_ints hy
      obtain ⟨c1, c2⟩ := six c (List.mem_of_getElem? hc)
      exact s_when (b := false) (et_shown (x := c) (ev_var rfl) (ev_var rfl) (by omega) c1 c2) (fun z => nomatch z) fun _ H10 e10 => ⟨_, rfl, e9.trans e10, e10 _ _ hq⟩
    · rintro q σ' H9 ⟨r6, rfl, e9, hq⟩
      have e69 := e68.trans e9
      refine q_asg (v := vi (n / 32 % m)) (ev_is (ev_op (ev_op (ev_var rfl) ev_c (rv_I ⟨by decide, by decide⟩)) (elen e69 rfl) (rv_I (show (0 : Int) < (m : Int) by omega))) rfl) fun H10 e10 => ?_
      have hi := Nat.mod_lt (n / 32) (show 0 < m by omega)
      generalize n / 32 % m = i at *
      obtain ⟨r, hr'⟩ : ∃ r, (figs 10 x)[i]? = some r := ⟨_, List.getElem?_eq_getElem (by omega)⟩
      have r10 := hlt r (List.mem_of_getElem? hr')
      obtain ⟨vv, hvv⟩ : ∃ vv, (r + 1 + n / 5 % 8) % 10 = vv := ⟨_, rfl⟩
      have v10 : vv < 10 ∧ vv ≠ r := by omega
      have hp10 := e10 _ _ (e69 _ _ hp6)
      have hpx : Ex H9 H10 := e10
      refine q_asgL (xs := vl ((figs 10 x).set i vv)) (el_is (el_cat (es_new (el_cat (es_new (el_is (ys := vl ((figs 10 x).take i)) (el_cut (eq_old (ev_var rfl) (sq_of hp10)) eo_none (eo_some (ev_var rfl))) (cut_to _ i))) (es_new (el_is (ys := vl [vv]) (el_lst (ea_cons (ev_op (ev_op (ev_op (ev_ix (eq_old (ev_var rfl) (sq_of hp10)) (ev_var rfl) (atI_natN hr')) ev_c rv_I0) (ev_op (ev_op (ev_var rfl) ev_c (rv_I ⟨by decide, by decide⟩)) ev_c (rv_I (by decide))) rv_I0) ev_c (rv_I (by decide))) ea_nil) (show 1 ≤ 100000 by decide)) ?_)) ?_)) (es_new (el_is (ys := vl ((figs 10 x).drop (i + 1))) (el_cut (eq_old (ev_var rfl) (sq_of hp10)) (eo_some (ev_op (ev_var rfl) ev_c rv_I0)) eo_none) (cut_from _ (i + 1)))) ?_) ?_) fun bt H11 nbt e11 hbt => ?_
      · rw [← hvv]
        rfl
      · rw [vl_len, vl_len, List.length_take, xl]
        show _ + 1 ≤ _
        omega
      · rw [List.length_append, vl_len, vl_len, vl_len, List.length_take, List.length_drop, xl]
        show _ + 1 + _ ≤ _
        omega
      · rw [← vl_app, ← vl_app, set_cut (by omega)]
      have hsl : ((figs 10 x).set i vv).length = m := by rw [List.length_set, xl]
      have hslt : ∀ d ∈ (figs 10 x).set i vv, d < 10 := fun d hd => by
        rcases List.mem_or_eq_of_mem_set hd with h | h
        · exact hlt d h
        · rw [h]
          exact v10.1
      obtain ⟨w0, hw0⟩ : ∃ w0, ((figs 10 x).set i vv)[0]? = some w0 := ⟨_, List.getElem?_eq_getElem (by omega)⟩
      refine q_when (b := false) (et_is (et_and (a := decide (0 < w0)) (b := false) (et_is (et_test (ev_op (ev_ix (eq_old (ev_var rfl) (sq_of hbt)) ev_c (atI_natN hw0)) ev_c rv_I0)) ?_) fun hw => ?_) (Bool.and_false _)) (fun z => nomatch z) fun _ H12 e12 => ?_
      · show decide ((0 : Int) < (w0 : Int)) = decide (0 < w0)
        by_cases z : 0 < w0
        · rw [decide_eq_true z, decide_eq_true (by omega)]
        · rw [decide_eq_false z, decide_eq_false (by omega)]
      · have w1 : 0 < w0 := of_decide_eq_true hw
        have bent := bent_row (b := 10) (f := fc) (R := figs 10 x) (i := i) (r := r) (v := vv) (by decide) f2 (by omega) (by omega) hlt (figs_head (by decide) x) (by rw [wr_figs (by decide)]; exact xt) hr' v10.1 v10.2 (fun d hd => by rw [hw0] at hd; rw [← Option.some.inj hd]; exact w1)
        have bl : wr 10 ((figs 10 x).set i vv) < 2 ^ 50000 := by
          have h5 := wr_lt (b := 10) (by decide) _ hslt
          rw [hsl] at h5
          have h2 : 10 ^ m ≤ 10 ^ 290 := Nat.pow_le_pow_right (by decide) (by omega)
          have h3 : 10 ^ 290 < 2 ^ 2000 := by decide +kernel
          exact small_ltN (by omega)
        exact et_shown (x := ((wr 10 ((figs 10 x).set i vv) : Nat) : Int)) (ev_fnL ev_c (es_old (ev_var rfl) hbt) fun q' H12 e12 hq' => ⟨10, q', (figs 10 x).set i vv, rfl, by decide, by decide, hq', by omega, hslt, ⟨w0, hw0, w1⟩, rfl⟩) (ev_var rfl) (by omega) (int_lt bl) bent
      refine q_when (b := false) (et_shown (f := 2 + (fc - 1) % 8) (x := (x : Int)) (ev_var rfl) (ev_is (ev_op ev_c (ev_op (ev_is (w := vi (fc - 1)) (ev_op (ev_var rfl) ev_c rv_I0) (congrArg V.int (show (fc : Int) - 1 = ((fc - 1 : Nat) : Int) by omega))) ev_c (rv_I (by decide))) rv_I0) rfl) (by omega) (int_lt x5) (trn_other x0 xt (by omega))) (fun z => nomatch z) fun _ H13 e13 => ?_
      refine q_when (b := false) (et_B (ev_methJ (ej_new ei_bare) rfl (ea_cons ev_c (ea_cons (ev_var rfl) (ea_cons ev_c ea_nil))) fun u dx H7 e7 h7 => ⟨u, 10, fc, true, rfl, by decide, by decide, f2, by omega, by rw [xn]⟩)) (fun z => nomatch z) fun _ H14 e14 => ?_
      have e614 := ((((e69.trans e10).trans e11).trans e12).trans e13).trans e14
      have hp14 := e614 _ _ hp6
      refine q_asg (v := vi d) (ev_ix (eq_old (ev_var rfl) (sq_of hp14)) (ev_un ev_c ru_neg) ?_) fun H15 e15 => ?_
      · rw [figs_pos (by decide) x0, xe, vl_app]
        exact atI_last _ _
      have B : Bfd 10 fc d := ⟨by decide, by decide, f2, by omega, by omega, by omega⟩
      refine q_unpU (eu_fn (R := R_share) (ea_cons ev_c (ea_cons (ev_var rfl) (ea_cons (ev_var rfl) ea_nil))) fun _ _ => ⟨10, fc, d, rfl, B, fd', rfl⟩) fun H16 e16 => ?_
      have e616 := (e614.trans e15).trans e16
      have tl : top 10 fc d ≤ 9 := Nat.le_trans (Nat.div_le_self _ _) d9
      have bl : cut (fc * 10 - 1) d ≤ 90 := Nat.le_trans (Nat.div_le_self _ _) (by omega)
      generalize top 10 fc d = tp at *
      generalize cut (fc * 10 - 1) d = bo at *
      refine q_when (b := false) (et_is (et_or (et_test (ev_op (ev_op (ev_var rfl) (ev_op (ev_op ev_c (ev_var rfl) (rv_I (.inl ⟨by decide, by decide⟩))) ev_c rv_I0) (rv_I (.inl ⟨by omega, by omega⟩))) (ev_op (ev_var rfl) (ev_var rfl) (rv_I (.inl ⟨by omega, by omega⟩))) (rv_ne rfl))) fun _ => et_test (ev_op (ev_fn (ea_cons ev_c (ea_cons (ev_var rfl) (ea_cons ev_c (ea_cons (ev_var rfl) ea_nil)))) fun _ _ => ⟨10, fc, true, d, rfl, B, rfl⟩) (elen e616 rfl) (rv_ne (by rw [xo]; rfl)))) ?_) (fun z => nomatch z) fun _ H17 e17 => ?_
      · have hz : (tp : Int) * (10 * (fc : Int) - 1) = (bo : Int) * (d : Int) := by
          have h1 : ((10 * fc - 1 : Nat) : Int) = 10 * (fc : Int) - 1 := by omega
          have h2 : ((tp * (10 * fc - 1) : Nat) : Int) = ((bo * d : Nat) : Int) := congrArg _ xh
          rw [Int.natCast_mul, Int.natCast_mul, h1] at h2
          exact h2
        rw [xo]
        show (!decide (V.int ((tp : Int) * (10 * (fc : Int) - 1)) = V.int ((bo : Int) * (d : Int))) || !decide (vi m = vi m)) = false
        rw [hz, decide_eq_true rfl, decide_eq_true rfl]
        rfl
      have e617 := e616.trans e17
      refine q_asg (v := vi (wr 10 (List.replicate m 9))) (ev_fnL ev_c (es_new (el_is (el_rep (k := m) (xs := vl [9]) (es_new (el_lst (ea_cons ev_c ea_nil) (by simp))) (elen e617 rfl) (by omega) (by rw [vl_len]; show 1 * m ≤ _; omega)) (by rw [rep_vl, rep_one]))) fun q' H18 e18 hq' => ⟨10, q', List.replicate m 9, rfl, by decide, by decide, hq', by rw [List.length_replicate]; omega, fun d hd => by rw [List.eq_of_mem_replicate hd]; decide, ⟨9, by rw [List.getElem?_replicate, if_pos (by omega)], by decide⟩, rfl⟩) fun H18 e18 => ?_
      refine s_ret (ev_is (ev_op (ev_op (ev_var rfl) (ev_var rfl) (rv_I (.inr ⟨by omega, by omega⟩))) (ev_op (ev_var rfl) (ev_var rfl) (rv_I (.inl ⟨by omega, by omega⟩))) (rv_eq rfl)) ?_) fun H19 e19 => k H19 ((((((e1.trans e2).trans e3).trans e4).trans (e5.trans e6)).trans e617).trans (e18.trans e19))
      have hz : (x : Int) * (bo : Int) = (tp : Int) * ((wr 10 (List.replicate m 9) : Nat) : Int) := by
        have h2 : ((x * bo : Nat) : Int) = ((tp * wr 10 (List.replicate m 9) : Nat) : Int) := congrArg _ x9
        rw [Int.natCast_mul, Int.natCast_mul] at h2
        exact h2
      show V.bl (decide (V.int ((x : Int) * (bo : Int)) = V.int ((tp : Int) * ((wr 10 (List.replicate m 9) : Nat) : Int)))) = V.bl true
      rw [hz, decide_eq_true rfl]
end
end Tf

namespace Tf
open PySem PySem.Spec PyProof.Rows L2 Evl
/-! ### k08: those behind -/
section
variable {P : Program} {w : World} {K : PySem.W.Frag} {mg : Str → Option Value} {base : Heap}
theorem ev_notBl {σ : L2.St} {H : Hp} {ta : TE} {a b : Bool} (ha : Ev ta σ H (.bl a)) : Ev (tOp rNotBl ta (tC (.bl b))) σ H (.bl (!decide (V.bl a = .bl b))) := fun H1 e Q q => ha H1 e _ fun H2 e2 => ⟨b, rfl, q H2 e2⟩
theorem behind3 : leastOf 10 3 false = some 142857 := by decide +kernel
theorem behindN : ∀ i, i < 8 → i ≠ 1 → leastOf 10 (2 + i) false = none ∧ nev 10 (2 + i) false = true := by decide +kernel
theorem lens3 : (List.range 9).map (fun i => optV (lenOf 10 3 false (1 + i))) = [.int 6, .int 6, .non, .non, .non, .non, .non, .non, .non] := by decide +kernel
def R_none : List V → Hp → V → Prop := fun vs _ v => vs = [] ∧ v = .bl true
abbrev s__law_behind_right : Stmt := topS 43
abbrev N__law_behind_right : List Str := ["_law_factor", "_law_told", "_law_one"]
abbrev P__law_behind_right : List Str := []
theorem sc__law_behind_right : FnScope N__law_behind_right P__law_behind_right (defScope s__law_behind_right) := ⟨rfl, rfl, rfl, by decide +kernel, rfl, by decide +kernel, by decide +kernel⟩

theorem ok__law_behind_right {f CA CT CN : Addr} {fd : FuncData} (T : Nm mg) (F : Fun K "_law_behind_right" "_law_behind_right" s__law_behind_right f fd) (KT : Kls K mg "Turns" CT) (KN : Kls K mg "Never" CN) (NT : NoAttr K CT "number") (Z : Kits K CA CT CN) (h_least : Has P w K mg base "least" P_least 4 (spLeast CT CN))
    (h_all_of : Has P w K mg base "all_of" P_all_of 4 (spL R_all_of)) (h_Turns_shows : HasM P w K mg base CT "shows" P_Turns_shows 3 (spV (R_tshows CT))) (h_Never_shows : HasM P w K mg base CN "shows" P_Never_shows 4 (spV R_nshows))
    (h_share : Has P w K mg base "share" P_share 3 (spU R_share)) (h_least_many : Has P w K mg base "least_many" P_least_many 4 (spV R_length_of)) : FnOk P w K mg base CX0 5 f fd P__law_behind_right (spV R_none) := by
  refine F.ok sc__law_behind_right (fun vs H Q E h => ?_) (fun cdv A outer s H vs Q E hr h => ?_)
  · obtain ⟨v, ⟨rfl, _⟩, _⟩ := h
    rfl
  · obtain ⟨v, ⟨rfl, rfl⟩, k⟩ := h
    refine ⟨_, (pss_cons (ps_for PassesOwn.never rfl (pi_range2 (by rfl) T.n_range (pa_cons pe_int (pa_cons pe_int pa_nil))) (pg_name (i := 0) sc__law_behind_right.nd rfl (.inl rfl)) (pss_cons (ps_set (i := 1) sc__law_behind_right.nd rfl (.inl rfl) (pe_fn h_least hr (by rfl) (pa_cons pe_int (pa_cons (pv 0) (pa_cons pe_str pa_nil)))))
      (pss_cons (ps_if (PW.pt (pw_and (pt_cmpR op_ne (pv 0) pe_int (nomark _)) (pw_and1 (PW.pt (pw_or (pt_not (pt_val (pe_callB call_isi (by rfl) T.n_isinstance (by decide +kernel) (pa_cons (pv 1) (pa_cons (pe_glob (v := .ref CN) rfl KN.g rfl) pa_nil))))) (pw_or1 (pt_cmpR op_notB (pe_ei (pe_mth h_Turns_shows hr (pv 1) (pa_cons pe_int (pa_cons (pv 0) (pa_cons pe_str pa_nil)))) (pe_mth h_Never_shows hr (pv 1) (pa_cons pe_int (pa_cons (pv 0) (pa_cons pe_str pa_nil))))) pe_bl (nomark _)))))))) (pss_one (ps_ret pe_bl)) pss_nil)
      (pss_one (ps_if (PW.pt (pw_and (pt_cmpR op_eq (pv 0) pe_int (nomark _)) (pw_and1 (PW.pt (pw_or (pt_not (pt_val (pe_callB call_isi (by rfl) T.n_isinstance (by decide +kernel) (pa_cons (pv 1) (pa_cons (pe_glob (v := .ref CT) rfl KT.g rfl) pa_nil))))) (pw_or1 (pt_cmpR op_ne (pe_fld (pv 1) rfl) pe_int (nomark _)))))))) (pss_one (ps_ret pe_bl)) pss_nil)))))
      (pss_cons (ps_if (PW.pt (pw_or (pt_cmpR (op_neD hr.units) (pe_fn h_all_of hr (by rfl) (pa_cons pe_int (pa_cons pe_int (pa_cons pe_str (pa_cons pe_int pa_nil))))) (pe_lst (pa_cons pe_int (pa_cons pe_int pa_nil))) (nomark _)) (pw_or1 (pt_cmpR (op_neD hr.units) (pe_fn h_all_of hr (by rfl) (pa_cons pe_int (pa_cons pe_int (pa_cons pe_str (pa_cons pe_int pa_nil))))) (pe_lst (pa_cons pe_int (pa_cons pe_int pa_nil))) (nomark _))))) (pss_one (ps_ret pe_bl)) pss_nil)
      (pss_cons (ps_if (pt_cmpR (op_neD hr.units) (pe_fn h_all_of hr (by rfl) (pa_cons pe_int (pa_cons pe_int (pa_cons pe_str (pa_cons pe_int pa_nil))))) (pe_lst pa_nil) (nomark _)) (pss_one (ps_ret pe_bl)) pss_nil)
      (pss_cons (ps_if (pt_cmpR (op_neD hr.units) (pe_lc (own := [("_law_one", 2)]) (g := gName 2) (tt := tYes) rfl sc__law_behind_right.nd (pi_range2 (by rfl) T.n_range (pa_cons pe_int (pa_cons pe_int pa_nil))) (blkOk_by (own := [("_law_one", 2)]) (N := N__law_behind_right) (sc := defScope s__law_behind_right) (by decide +kernel)) (fun _ _ _ _ _ => pg_name (i := 2) sc__law_behind_right.nd rfl (.inl rfl)) (fun _ _ _ _ _ => pts_nil) (fun _ _ _ _ _ => (pe_fn h_least_many hr (by rfl) (pa_cons pe_int (pa_cons pe_int (pa_cons pe_str (pa_cons (pv 2) pa_nil))))))) (pe_op op_cat (pe_lst (pa_cons pe_int (pa_cons pe_int pa_nil))) (pe_op op_rep (pe_lst (pa_cons pe_non pa_nil)) pe_int)) (nomark _)) (pss_one (ps_ret pe_bl)) pss_nil)
      (pss_cons (ps_if (pt_cmpR (op_neD hr.units) (pe_fn h_all_of hr (by rfl) (pa_cons pe_int (pa_cons pe_int (pa_cons pe_str (pa_cons pe_int pa_nil))))) (pe_lst (pa_cons pe_int (pa_cons pe_int (pa_cons pe_int (pa_cons pe_int (pa_cons pe_int (pa_cons pe_int pa_nil))))))) (nomark _)) (pss_one (ps_ret pe_bl)) pss_nil)
      (pss_cons (ps_if (PW.pt (pw_or (pt_cmpR (op_neD hr.units) (pe_fn h_all_of hr (by rfl) (pa_cons pe_int (pa_cons pe_int (pa_cons pe_str (pa_cons pe_int pa_nil))))) (pe_lst (pa_cons pe_int pa_nil)) (nomark _)) (pw_or1 (pt_cmpR op_ne (pe_callB call_len_seq (by rfl) T.n_len (by decide +kernel) (pa_cons (pe_fn h_all_of hr (by rfl) (pa_cons pe_int (pa_cons pe_int (pa_cons pe_str (pa_cons pe_int pa_nil))))) pa_nil)) pe_int (nomark _))))) (pss_one (ps_ret pe_bl)) pss_nil)
      (pss_one (ps_ret (pe_and (pe_cmpR (op_eqD hr.units) (pe_fn h_share hr (by rfl) (pa_cons pe_int (pa_cons pe_int (pa_cons pe_int pa_nil)))) (pe_tup (pa_cons pe_int (pa_cons pe_int pa_nil))) (nomark _)) (pe_and (pe_cmpR (op_eqD hr.units) (pe_fn h_share hr (by rfl) (pa_cons pe_int (pa_cons pe_int (pa_cons pe_int pa_nil)))) (pe_tup (pa_cons pe_int (pa_cons pe_int pa_nil))) (nomark _)) (pe_one (pe_cmpR (op_eqD hr.units) (pe_fn h_share hr (by rfl) (pa_cons pe_int (pa_cons pe_int (pa_cons pe_int pa_nil)))) (pe_tup (pa_cons pe_int (pa_cons pe_int pa_nil))) (nomark _))))))))))))), ?_⟩
    have shr : ∀ {σ : L2.St} {H : Hp} {b f d t m : Nat}, Bfd b f d → f ≤ d → top b f d = t → cut (f * b - 1) d = m → EvW K (tCall (spU R_share) [] E0 (tCons (tC (vi b)) (tCons (tC (vi f)) (tCons (tC (vi d)) tNil)))) σ H [vi t, vi m] := fun {σ H b f d t m} B hd h1 h2 => ew_new (eu_fn (ea_cons ev_c (ea_cons ev_c (ea_cons ev_c ea_nil))) fun _ _ => ⟨b, f, d, rfl, B, hd, by rw [h1, h2]⟩)
    have all : ∀ {σ : L2.St} {H : Hp} {f m : Nat} {fr : Bool} {xs : List Nat}, 2 ≤ f → f < 10 → 1 ≤ m → m ≤ 3000 → allOf 10 f fr m = xs → EvQ K (tCall (spL R_all_of) [] E0 (tCons (tC (.int 10)) (tCons (tC (vi f)) (tCons (tC (vs' fr)) (tCons (tC (vi m)) tNil))))) σ H (vl xs) := fun {σ H f m fr xs} h1 h2 h3 h4 h5 => eq_new (el_fn (ea_cons ev_c (ea_cons ev_c (ea_cons ev_c (ea_cons ev_c ea_nil)))) fun _ _ => ⟨10, f, fr, m, rfl, by decide, by decide, h1, h2, h3, h4, by rw [h5]⟩)
    refine q_forR2 (lo := 2) (n := 10) (ea_cons ev_c (ea_cons ev_c ea_nil)) (by decide) (fun _ σ' H' => ∃ r0 r1, σ' = [r0, r1, none] ∧ Ex H H') (fun H1 e1 => ⟨_, _, rfl, e1⟩) ?_ ?_
    · rintro i σ' H1 hi ⟨r0, r1, rfl, e1⟩
      have i8 : i < 8 := by omega
      have ev0 : ∀ {r : Option V} {H' : Hp}, Ev (tVar 0) [some (.int (2 + (i : Int))), r, none] H' (vi (2 + i)) := fun {r H'} => ev_is (ev_var rfl) (congrArg V.int (by omega))
      by_cases h3 : i = 1
      · subst h3
        refine q_asgI (C := CT) (fs := nf 142857) (ei_call (ea_cons ev_c (ea_cons ev0 (ea_cons ev_c ea_nil))) fun H1 Q E e k => ⟨10, 2 + 1, false, rfl, by decide, by decide, by decide, by decide, by rw [show 2 + 1 = 3 from rfl, behind3]; exact k⟩) fun u dx H2 nu e2 hu => ?_
        refine q_when (b := false) (et_is (et_and (a := false) (b := false) (et_is (et_test (ev_op (ev_var rfl) ev_c (rv_ne rfl))) (by decide +kernel)) fun z => nomatch z) rfl) (fun z => nomatch z) fun _ H3 e3 => ?_
        refine s_when (b := false) (et_is (et_and (a := true) (b := false) (et_is (et_test (ev_op (ev_var rfl) ev_c (rv_eq rfl))) (by decide +kernel)) fun _ => et_is (et_or (a := false) (b := false) (et_is (et_not (et_B (ev_isiJ (b := true) (ej_old (ev_var rfl) (e3 _ _ hu)) KT Z.tt))) rfl) fun _ => et_is (et_test (ev_op (ev_fldJ (ej_old (ev_var rfl) (e3 _ _ hu)) KT.cl NT (nf_get _)) ev_c (rv_ne rfl))) (by decide +kernel)) rfl) rfl) (fun z => nomatch z) fun _ H4 e4 => ⟨_, _, rfl, ((e1.trans e2).trans e3).trans e4⟩
      · obtain ⟨l1, l2⟩ := behindN i i8 h3
        refine q_asgI (C := CN) (fs := []) (ei_call (ea_cons ev_c (ea_cons ev0 (ea_cons ev_c ea_nil))) fun H1 Q E e k => ⟨10, 2 + i, false, rfl, by decide, by decide, by omega, by omega, by rw [l1]; exact k⟩) fun u dx H2 nu e2 hu => ?_
        refine q_when (b := false) (et_is (et_and (a := true) (b := false) (et_is (et_test (ev_op ev0 ev_c (rv_ne rfl))) ?_) fun _ => et_is (et_or (a := false) (b := false) (et_is (et_not (et_B (ev_isiJ (b := true) (ej_old (ev_var rfl) hu) KN Z.nn))) rfl) fun _ => et_is (et_test (ev_notBl (a := true) (ev_r (ev_methJ (ej_old (ev_var rfl) hu) rfl (ea_cons ev_c (ea_cons ev0 (ea_cons ev_c ea_nil))) fun u dx H7 e7 h7 => ⟨u, 10, 2 + i, false, rfl, by decide, by decide, by omega, by omega, by rw [l2]⟩)))) (by decide +kernel)) rfl) rfl) (fun z => nomatch z) fun _ H3 e3 => ?_
        · show (!decide (vi (2 + i) = vi 3)) = true
          rw [dec_vi, decide_eq_false (by omega)]
          rfl
        refine s_when (b := false) (et_is (et_and (a := false) (b := false) (et_is (et_test (ev_op ev0 ev_c (rv_eq rfl))) ?_) fun z => nomatch z) rfl) (fun z => nomatch z) fun _ H4 e4 => ⟨_, _, rfl, ((e1.trans e2).trans e3).trans e4⟩
        show decide (vi (2 + i) = vi 3) = false
        rw [dec_vi, decide_eq_false (by omega)]
    · rintro σ' H1 ⟨r0, r1, rfl, e1⟩
      refine q_when (b := false) (et_is (et_or (a := false) (b := false) (et_is (et_test (ev_neN (ms := [142857, 285714]) (all (f := 3) (m := 6) (fr := false) (xs := [142857, 285714]) (by decide) (by decide) (by decide) (by decide) (by decide +kernel)) (eq_new (el_is (el_lst (ea_cons ev_c (ea_cons ev_c ea_nil)) (by simp)) rfl)))) (by decide +kernel)) fun _ => et_is (et_test (ev_neN (ms := [142857142857, 285714285714]) (all (f := 3) (m := 12) (fr := false) (xs := [142857142857, 285714285714]) (by decide) (by decide) (by decide) (by decide) (by decide +kernel)) (eq_new (el_is (el_lst (ea_cons ev_c (ea_cons ev_c ea_nil)) (by simp)) rfl)))) (by decide +kernel)) rfl) (fun z => nomatch z) fun _ H2 e2 => ?_
      refine q_when (b := false) (et_is (et_test (ev_neN (ms := []) (all (f := 3) (m := 7) (fr := false) (xs := []) (by decide) (by decide) (by decide) (by decide) (by decide +kernel)) (eq_new (el_lst ea_nil (Nat.zero_le _))))) (by decide +kernel)) (fun z => nomatch z) fun _ H3 e3 => ?_
      refine q_when (b := false) (et_is (et_test (ev_neD (b := true) (d := .list [.int 6, .int 6, .none, .none, .none, .none, .none, .none, .none]) (e := .list [.int 6, .int 6, .none, .none, .none, .none, .none, .none, .none]) (ed_q (xs := [.int 6, .int 6, .non, .non, .non, .non, .non, .non, .non]) (eq_new (el_is (el_lcR2 (n := 9) (fun _ => true) (fun i => optV (lenOf 10 3 false (1 + i))) (ea_cons ev_c (ea_cons ev_c ea_nil)) ⟨by decide, by decide, by decide, by decide⟩ (by decide) (by decide) (fun x => rfl) (fun i H5 e5 _ => et_yes) (fun i H5 e5 hi _ => ?_)) ?_)) ?_) (ed_q (xs := [.int 6, .int 6, .non, .non, .non, .non, .non, .non, .non]) (eq_new (el_is (el_cat (es_new (el_lst (ea_cons ev_c (ea_cons ev_c ea_nil)) (by simp))) (es_new (el_rep (k := 7) (es_new (el_lst (ea_cons ev_c ea_nil) (by simp))) ev_c (by decide) (by simp))) (by simp)) rfl)) ?_) ?_ ?_ ?_)) rfl) (fun z => nomatch z) fun _ H4 e4 => ?_
      · exact ev_fn (ea_cons ev_c (ea_cons ev_c (ea_cons ev_c (ea_cons (ev_is (w := vi (1 + i)) (ev_var rfl) (congrArg V.int (by omega))) ea_nil)))) fun _ _ => ⟨10, 3, false, 1 + i, rfl, ⟨by decide, by decide, by decide, by decide, by omega, by omega⟩, rfl⟩
      · rw [given_all]
        exact lens3
      · exact fun _ _ => .cons (.int 6) (.cons (.int 6) (.cons .non (.cons .non (.cons .non (.cons .non (.cons .non (.cons .non (.cons .non .nil))))))))
      · exact fun _ _ => .cons (.int 6) (.cons (.int 6) (.cons .non (.cons .non (.cons .non (.cons .non (.cons .non (.cons .non (.cons .non .nil))))))))
      · simp [SeqAt.shaped, PyData.canLay0, PyData.canLayAll0, PyData.depth, PyData.depthAll]
      · simp [SeqAt.shaped, PyData.canLay0, PyData.canLayAll0, PyData.depth, PyData.depthAll]
      · simp [PyData.eqv, PyData.eqvAll]
      refine q_when (b := false) (et_is (et_test (ev_neN (ms := [102564, 128205, 153846, 179487, 205128, 230769]) (all (f := 4) (m := 6) (fr := true) (xs := [102564, 128205, 153846, 179487, 205128, 230769]) (by decide) (by decide) (by decide) (by decide) (by decide +kernel)) (eq_new (el_is (el_lst (ea_cons ev_c (ea_cons ev_c (ea_cons ev_c (ea_cons ev_c (ea_cons ev_c (ea_cons ev_c ea_nil)))))) (by simp)) rfl)))) (by decide +kernel)) (fun z => nomatch z) fun _ H5 e5 => ?_
      refine q_when (b := false) (et_is (et_or (a := false) (b := false) (et_is (et_test (ev_neN (ms := [142857]) (all (f := 5) (m := 6) (fr := true) (xs := [142857]) (by decide) (by decide) (by decide) (by decide) (by decide +kernel)) (eq_new (el_is (el_lst (ea_cons ev_c ea_nil) (by simp)) rfl)))) (by decide +kernel)) fun _ => et_is (et_test (ev_op (ev_is (w := .int 5) (ev_len (all (f := 5) (m := 42) (fr := true) (by decide) (by decide) (by decide) (by decide) rfl)) (by rw [vl_len, show (allOf 10 5 true 42).length = 5 by decide +kernel]; rfl)) ev_c (rv_ne rfl))) (by decide +kernel)) rfl) (fun z => nomatch z) fun _ H6 e6 => ?_
      have b1 : Bfd 10 5 7 := ⟨by decide, by decide, by decide, by decide, by decide, by decide⟩
      have b2 : Bfd 10 4 4 := ⟨by decide, by decide, by decide, by decide, by decide, by decide⟩
      have b3 : Bfd 10 4 6 := ⟨by decide, by decide, by decide, by decide, by decide, by decide⟩
      have two : ∀ {σ : L2.St} {H : Hp} {i j : Int}, EvW K (tTup (tCons (tC (.int i)) (tCons (tC (.int j)) tNil))) σ H [.int i, .int j] := ew_new (eu_tup (ea_cons ev_c (ea_cons ev_c ea_nil)) (by simp))
      exact s_ret (ev_is (ev_andV (a := true) (b := true) (ev_is (ev_eqP (shr b1 (by decide) (t := 1) (m := 7) (by decide +kernel) (by decide +kernel)) two) (by decide +kernel)) fun _ => ev_is (ev_andV (a := true) (b := true) (ev_is (ev_eqP (shr b2 (by decide) (t := 4) (m := 39) (by decide +kernel) (by decide +kernel)) two) (by decide +kernel)) fun _ => ev_is (ev_eqP (shr b3 (by decide) (t := 2) (m := 13) (by decide +kernel) (by decide +kernel)) two) (by decide +kernel)) rfl) rfl) fun H7 e7 => k H7 ((((((e1.trans e2).trans e3).trans e4).trans e5).trans e6).trans e7)
end
end Tf

namespace Tf
open PySem PySem.Spec PyProof.Rows L2 Evl
/-! ### k08: what is refused -/
section
variable {P : Program} {w : World} {K : PySem.W.Frag} {mg : Str → Option Value} {base : Heap} {Cf : Nat → Addr} {CE : Addr}
open LamX (ExtN Tabs)
theorem bs_ty {H : Hp} {x : V} (t : String) (h : TyX K H x (.type t)) (hk : kitB t "str" = some false) : BadS K H x := .inl ⟨t, h, hk⟩
theorem en_fn {T : List (Addr × Str)} {σ : L2.St} {H : Hp} {ta : TA} {vs : List V} {v : V} {sp : Sp} (h : EvA ta σ H vs) (hs : ∀ H1, Ex H H1 → Tabs T H1 → ∀ (Q : VK) (E : XK), (∀ H2, ExtN H1 H2 → Tabs T H2 → Q v H2) → sp vs H1 Q E) : EvN T (tCall sp [] E0 ta) σ H v := fun hT Q q =>
  h H (Ex.refl H) _ fun H1 e1 => by rw [List.append_nil]; exact hs H1 e1 (hT.ext e1) _ _ fun H2 e2 t2 => q H2 ((extN_ex e1).trans e2) t2
theorem s_goN {T : List (Addr × Str)} {σ : L2.St} {H : Hp} {D : Ends} {tu : TS} {t : TT} (h : EvTN T t σ H false) (hT : Tabs T H) (k : ∀ H1, ExtN H H1 → Tabs T H1 → D.nx σ H1) : tIfS t tu tNext D σ H := h hT _ fun H1 e1 t1 => iteF (k H1 e1 t1)
theorem en_andV {T : List (Addr × Str)} {σ : L2.St} {H : Hp} {ta tb : TE} {b : Bool} (h1 : EvN T ta σ H (.bl true)) (h2 : ∀ H1, ExtN H H1 → Tabs T H1 → EvN T tb σ H1 (.bl b)) : EvN T (tAndV ta tb) σ H (.bl b) := fun hT Q q => h1 hT _ fun H1 e1 t1 => ⟨true, rfl, by
  show tb σ H1 Q
  exact h2 H1 e1 t1 t1 _ fun H2 e2 t2 => q H2 (e1.trans e2) t2⟩
theorem en_is {T : List (Addr × Str)} {σ : L2.St} {H : Hp} {te : TE} {v u : V} (h : EvN T te σ H v) (e : v = u) : EvN T te σ H u := by
  rw [← e]
  exact h
theorem ev_neg {σ : L2.St} {H : Hp} {ta : TE} {i : Int} (ha : Ev ta σ H (.int i)) : Ev (tUn (rU fun i => .int (-i)) ta) σ H (.int (-i)) := ev_un ha fun H1 _ Q q => ⟨i, rfl, q H1 (Ex.refl H1)⟩
/-! a list of lambdas that is written on -/
theorem tabs_upd {T : List (Addr × Str)} {H : Hp} {l : Addr} {rs ys : List V} (h : Tabs T H) (hl : H l = some (.lst rs)) : Tabs T (upd H l (.lst ys)) := fun p hp => by
  obtain ⟨ps, h1, h2, h3⟩ := h p hp
  have n1 : p.1 ≠ l := fun z => by
    rw [z, hl] at h1
    cases h1
  refine ⟨ps, by rw [upd_ne n1]; exact h1, h2, fun pos cv hc => ?_⟩
  obtain ⟨c, e1, e2⟩ := h3 pos cv hc
  have n2 : c ≠ l := fun z => by
    rw [z, hl] at e2
    unfold LamX.CodeO at e2
    cases e2
  exact ⟨c, e1, by rw [upd_ne n2]; exact e2⟩
theorem IsLam.upd {H : Hp} {L : Lam} {f l : Addr} {rs ys : List V} (h : IsLam H L f) (hl : H l = some (.lst rs)) : IsLam (upd H l (.lst ys)) L f := by
  obtain ⟨c, h1, h2⟩ := h
  have n1 : f ≠ l := fun z => by
    rw [z, hl] at h1
    unfold LamF at h1
    cases h1
  have n2 : c ≠ l := fun z => by
    rw [z, hl] at h2
    unfold LamX.CodeO at h2
    cases h2
  exact ⟨c, by rw [upd_ne n1]; exact h1, by rw [upd_ne n2]; exact h2⟩
theorem Lams.upd {H : Hp} {l : Addr} {ts ys : List V} (hl : H l = some (.lst ts)) : ∀ {rs : List V} {Ls : List Lam}, Lams H rs Ls → Lams (upd H l (.lst ys)) rs Ls
  | _, _, .nil => .nil
  | _, _, .cons ⟨f, h1, h2⟩ t => .cons ⟨f, h1, h2.upd hl⟩ (Lams.upd hl t)
/-- fs = fs + [lambda ..]; fs.append(lambda ..): H0 is a heap in which fs was not yet -/
theorem q_catApp {T : List (Addr × Str)} {σ : L2.St} {H : Hp} {D : Ends} {tz : TS} {ta : TA} {a : Addr} {i : Nat} {rs : List V} {Ms Ls : List Lam} {L : Lam} (hs : σ[i]? = some (some (.ref a))) (ha : H a = some (.lst rs)) (hl : Lams H rs Ms) (h : EvAM T ta Ls) (hz : Ms.length + Ls.length ≤ 900) (hT : Tabs T H) (hi : i < σ.length)
    (k : ∀ p qs H1, ExtN H H1 → Tabs T H1 → H1 p = some (.lst qs) → Lams H1 qs (Ms ++ Ls ++ [L]) → tz D (σ.set i (some (.ref p))) H1) :
    tSeq (tAsg (tOp rCat (tVar i) (tLst ta)) (gName i)) (tSeq (tDrop (tBM K "list" rAppend (tVar i) (tCons (tLamM T L) tNil))) tz) D σ H :=
  ⟨.ref a, hs, em_lst h (by omega) hT _ fun p qs H1 e1 t1 hp hq => ⟨a, p, rs, qs, rfl, rfl, e1 _ _ ha (fun _ z => nomatch z), hp, sz_of (by rw [hl.len, hq.len]; omega), fun l nl => by
    have hL := (hl.extN e1).app hq
    have x1 : Ex H1 (upd H1 l (.lst (rs ++ qs))) := Ex.new nl
    refine ⟨.ref l, by rw [List.getElem?_set_self hi], Or.inl ⟨rfl, _, sq_of upd_same⟩, t1.ext x1, fun f H2 e2 t2 nf hf => ⟨l, rs ++ qs, .ref f, rfl, rfl, e2 _ _ upd_same (fun _ z => nomatch z), sz_lt (by rw [List.length_append, hl.len, hq.len]; omega), ?_⟩⟩
    have hl2 : H2 l = some (.lst (rs ++ qs)) := e2 _ _ upd_same (fun _ z => nomatch z)
    refine k l _ _ (fun b o hb nb => ?_) (tabs_upd t2 hl2) upd_same (Lams.upd hl2 (((hL.extN (extN_ex x1)).extN e2).app (.cons ⟨f, rfl, hf⟩ .nil)))
    have h1 := e1 _ _ hb nb
    have ne : b ≠ l := ne_of_none h1 nl
    rw [upd_ne ne]
    exact e2 _ _ (x1 _ _ h1) nb⟩⟩
/-- f(lambda .., list, y) -/
theorem en_callM {T : List (Addr × Str)} {σ : L2.St} {H : Hp} {tb tc : TE} {L : Lam} {xs : List V} {y v : V} {R : List V → Hp → V → Prop} (hb : ∀ H1, ExtN H H1 → EvS tb σ H1 xs) (hc : ∀ H1, Ev tc σ H1 y) (hR : ∀ f q H1, ExtN H H1 → IsLam H1 L f → H1 q = some (.lst xs) → R [.ref f, .ref q, y] H1 v) :
    EvN T (tCall (spV R) [] E0 (tCons (tLamM T L) (tCons tb (tCons tc tNil)))) σ H v := fun hT Q q => ⟨hT, fun f H1 e1 t1 _ hL =>
  hb H1 e1 H1 (Ex.refl H1) _ fun p' H2 e2 hp' => hc H2 H2 (Ex.refl H2) _ fun H3 e3 =>
    ⟨v, hR f p' H3 (e1.trans (ExtN.of (e2.trans e3))) (hL.ex (e2.trans e3)) (e3 _ _ hp'), fun H4 e4 => q H4 (e1.trans (ExtN.of ((e2.trans e3).trans e4))) (t1.ext ((e2.trans e3).trans e4))⟩⟩
/-- f(lambda .., x, y) -/
theorem en_callV {T : List (Addr × Str)} {σ : L2.St} {H : Hp} {tb tc : TE} {L : Lam} {x y v : V} {R : List V → Hp → V → Prop} (hb : ∀ H1, Ev tb σ H1 x) (hc : ∀ H1, Ev tc σ H1 y) (hR : ∀ f H1, ExtN H H1 → IsLam H1 L f → R [.ref f, x, y] H1 v) :
    EvN T (tCall (spV R) [] E0 (tCons (tLamM T L) (tCons tb (tCons tc tNil)))) σ H v := fun hT Q q => ⟨hT, fun f H1 e1 t1 _ hL =>
  hb H1 H1 (Ex.refl H1) _ fun H2 e2 => hc H2 H2 (Ex.refl H2) _ fun H3 e3 =>
    ⟨v, hR f H3 (e1.trans (ExtN.of (e2.trans e3))) (hL.ex (e2.trans e3)), fun H4 e4 => q H4 (e1.trans (ExtN.of ((e2.trans e3).trans e4))) (t1.ext ((e2.trans e3).trans e4))⟩⟩
theorem all4 {Pr : Lam → Prop} {a b c d : Lam} (h1 : Pr a) (h2 : Pr b) (h3 : Pr c) (h4 : Pr d) : ∀ L ∈ [a, b, c, d], Pr L := List.forall_mem_cons.mpr ⟨h1, List.forall_mem_cons.mpr ⟨h2, List.forall_mem_cons.mpr ⟨h3, List.forall_mem_cons.mpr ⟨h4, fun _ h => nomatch h⟩⟩⟩⟩
/-- a row of figures in which one is put that is none -/
theorem row_bad {H : Hp} {a : Addr} {xs ys : List Nat} {x : V} (h : H a = some (.lst (vl xs ++ [x] ++ vl ys))) (hl : xs.length + ys.length ≤ 900) (hx : okF 10 x = false) (hk : NotW K H x ∨ ∃ i, x = .int i) : BadRow K 10 H (.ref a) := by
  refine .inr ⟨a, _, rfl, h, ?_, fun y hy => ?_, .inr (.inl ?_)⟩
  · rw [List.length_append, List.length_append, vl_len, vl_len]
    show _ + 1 + _ ≤ _
    omega
  · have num : ∀ {zs : List Nat}, y ∈ vl zs → ∃ i, y = .int i := fun hz => by
      obtain ⟨i, _, rfl⟩ := List.mem_map.mp hz
      exact ⟨_, rfl⟩
    rcases List.mem_append.mp hy with h1 | h1
    · rcases List.mem_append.mp h1 with h2 | h2
      · exact .inr (num h2)
      · rw [List.mem_singleton.mp h2]
        exact hk.imp (fun n => ⟨n, hx⟩) id
    · exact .inr (num h1)
  · cases e : (vl xs ++ [x] ++ vl ys).all (okF 10) with
    | false => rfl
    | true =>
      have := (List.all_eq_true.mp e) x (by simp)
      rw [hx] at this
      cases this
theorem row_zero {H : Hp} {a : Addr} {ys : List Nat} (h : H a = some (.lst ([.int 0] ++ vl ys))) (hl : ys.length ≤ 900) : BadRow K 10 H (.ref a) := by
  refine .inr ⟨a, _, rfl, h, ?_, fun y hy => ?_, .inr (.inr rfl)⟩
  · rw [List.length_append, vl_len]
    show 1 + _ ≤ _
    omega
  · rcases List.mem_append.mp hy with h2 | h2
    · exact .inr ⟨0, List.mem_singleton.mp h2⟩
    · obtain ⟨i, _, rfl⟩ := List.mem_map.mp h2
      exact .inr ⟨_, rfl⟩
abbrev badSides : List V := [.str "front\n", .str "behind\n", .str "\n", .str "Front", .str "", .str " front", .str "front ", .non, .int 0]
theorem badSides_all {H : Hp} : ∀ x ∈ badSides, BadS K H x := by
  refine List.forall_mem_cons.mpr ⟨.inr ⟨_, rfl, by decide +kernel⟩, List.forall_mem_cons.mpr ⟨.inr ⟨_, rfl, by decide +kernel⟩, List.forall_mem_cons.mpr ⟨.inr ⟨_, rfl, by decide +kernel⟩, List.forall_mem_cons.mpr ⟨.inr ⟨_, rfl, by decide +kernel⟩, List.forall_mem_cons.mpr ⟨.inr ⟨_, rfl, by decide +kernel⟩, List.forall_mem_cons.mpr ⟨.inr ⟨_, rfl, by decide +kernel⟩, List.forall_mem_cons.mpr ⟨.inr ⟨_, rfl, by decide +kernel⟩,
    List.forall_mem_cons.mpr ⟨bs_ty "NoneType" (.base .non) (by decide +kernel), List.forall_mem_cons.mpr ⟨bs_ty "int" (.base (.int 0)) (by decide +kernel), fun _ h => nomatch h⟩⟩⟩⟩⟩⟩⟩⟩⟩
abbrev badFigs : List V := [.int 10, .int (-1), .bl true, .non, .str "1"]
theorem badFigs_all {H : Hp} : ∀ x ∈ badFigs, okF 10 x = false ∧ (NotW K H x ∨ ∃ i, x = .int i) := by
  refine List.forall_mem_cons.mpr ⟨⟨by decide, .inr ⟨_, rfl⟩⟩, List.forall_mem_cons.mpr ⟨⟨by decide, .inr ⟨_, rfl⟩⟩, List.forall_mem_cons.mpr ⟨⟨rfl, .inl (nw_bl _)⟩, List.forall_mem_cons.mpr ⟨⟨rfl, .inl nw_non⟩, List.forall_mem_cons.mpr ⟨⟨rfl, .inl (nw_str _)⟩, fun _ h => nomatch h⟩⟩⟩⟩⟩
abbrev badMany : List V := [.int 3001, .int 0, .int (-1), .bl true, .non]
theorem badMany_all {H : Hp} : ∀ x ∈ badMany, Bad K okM H x := by
  refine List.forall_mem_cons.mpr ⟨.inr ⟨_, rfl, by decide⟩, List.forall_mem_cons.mpr ⟨.inr ⟨_, rfl, by decide⟩, List.forall_mem_cons.mpr ⟨.inr ⟨_, rfl, by decide⟩, List.forall_mem_cons.mpr ⟨.inl (nw_bl _), List.forall_mem_cons.mpr ⟨.inl nw_non, fun _ h => nomatch h⟩⟩⟩⟩⟩
def spBad (K : PySem.W.Frag) (TT : List (Addr × Str)) : Sp := fun vs H Q _ => ∃ n : Nat, vs = [vi n] ∧ Tabs TT H ∧ ∀ H1, ExtN H H1 → Tabs TT H1 → Q (.bl true) H1
theorem ok__law_bad_right {f c Pt : Addr} {fd : FuncData} {TT : List (Addr × Str)} (T : Nm mg) (F : Fun K "_law_bad_right" "_law_bad_right" s__law_bad_right f fd) (hcd : fd.code = .ref c) (TB : LamX.TabB base mg c Pt)
    (hmT : (Pt, ("_law_bad_right" : Str) ++ ".<locals>." ++ "<lambda>") ∈ TT) (huT : ∀ p ∈ TT, p.1 = Pt → p.2 = ("_law_bad_right" : Str) ++ ".<locals>." ++ "<lambda>") (h__law_refused : Has P w K mg base "_law_refused" P__law_refused 5 (spV (R_refused P w K mg base Cf)))
    (h__law_known : Has P w K mg base "_law_known" P__law_known 1 (spL R_known)) (h_figures : Has P w K mg base "figures" P_figures 3 (spL R_figures)) (h_number_of : Has P w K mg base "number_of" P_number_of 3 (spV (R_number_of K)))
    (x_number_of : HasX P w K mg base "number_of" P_number_of 3 (spX (X_number_of K Cf))) (x_least_many : HasX P w K mg base "least_many" P_least_many 3 (spX (X_least_many K Cf))) (x_all_of : HasX P w K mg base "all_of" P_all_of 3 (spX (X_all_of K Cf))) (x_least : HasX P w K mg base "least" P_least 3 (spX (X_least K Cf)))
    (x_moved : HasX P w K mg base "moved" P_moved 3 (spX (X_moved K Cf))) : FnOk P w K mg base CX0 6 f fd P__law_bad_right (spBad K TT) := by
  refine okC F hcd sc__law_bad_right (fun vs H Q E h => ?_) (fun A outer s H vs Q E hr h => ?_)
  · obtain ⟨n, rfl, _⟩ := h
    rfl
  · obtain ⟨n, rfl, hT, k⟩ := h
    refine ⟨_, (pss_cons (ps_for PassesOwn.never rfl (pi_list (pe_lst (pa_cons pe_str (pa_cons pe_str (pa_cons pe_str (pa_cons pe_str (pa_cons pe_str (pa_cons pe_str (pa_cons pe_str (pa_cons pe_non (pa_cons pe_int pa_nil))))))))))) (pg_name (i := 1) sc__law_bad_right.nd rfl (.inr rfl)) (pss_cons (ps_set (i := 2) sc__law_bad_right.nd rfl (.inl rfl) (pe_lst (pa_cons (pe_lam TB rfl hmT huT rfl (by decide +kernel) rfl) (pa_cons (pe_lam TB rfl hmT huT rfl (by decide +kernel) rfl) pa_nil))))
      (pss_cons (ps_set (i := 2) sc__law_bad_right.nd rfl (.inl rfl) (pe_op op_cat (pv 2) (pe_lst (pa_cons (pe_lam TB rfl hmT huT rfl (by decide +kernel) rfl) pa_nil))))
      (pss_cons (ps_expr (pe_bm PySem.F.plainAttrs_list PySem.F.slot_list_append PySem.F.type_list_append mt_append (pv 2) (pa_cons (pe_lam TB rfl hmT huT rfl (by decide +kernel) rfl) pa_nil)))
      (pss_one (ps_if (pt_not (pt_val (pe_callB (cr_all rfl) (by rfl) T.n_all (by decide +kernel) (pa_cons (pe_lc (own := [("_law_ask", 6)]) (g := gName 6) (tt := tYes) rfl sc__law_bad_right.nd (pi_list (pv 2)) (blkOk_by (own := [("_law_ask", 6)]) (N := N__law_bad_right) (sc := defScope s__law_bad_right) (by decide +kernel)) (fun _ _ _ _ _ => pg_name (i := 6) sc__law_bad_right.nd rfl (.inl rfl)) (fun _ _ _ _ _ => pts_nil) (fun _ _ _ _ _ => (pe_fn h__law_refused hr (by rfl) (pa_cons (pv 6) (pa_cons (pv 1) (pa_cons pe_int pa_nil)))))) pa_nil)))) (pss_one (ps_ret pe_bl)) pss_nil))))))
      (pss_cons (ps_par (i := 3) (j := 4) (by rfl) sc__law_bad_right.nd rfl rfl (by decide) rfl rfl (pa_cons (pe_fn h_figures hr (by rfl) (pa_cons pe_int (pa_cons (pe_ix ix_list (pe_fn0 h__law_known hr (by rfl)) pe_int (fun _ _ => rfl)) pa_nil))) (pa_cons (pe_op op_mod (pv 0) pe_int) pa_nil)) (by rfl))
      (pss_cons (ps_for PassesOwn.never rfl (pi_list (pe_lst (pa_cons pe_int (pa_cons (pe_un un_neg pe_int) (pa_cons pe_bl (pa_cons pe_non (pa_cons pe_str pa_nil))))))) (pg_name (i := 5) sc__law_bad_right.nd rfl (.inl rfl)) (pss_one (ps_if (pt_not (pt_val (pe_fn h__law_refused hr (by rfl) (pa_cons (pe_lam TB rfl hmT huT rfl (by decide +kernel) rfl) (pa_cons (pe_op op_cat (pe_op op_cat (pe_slice sl_list (pv 3) po_none (po_some (pv 4))) (pe_lst (pa_cons (pv 5) pa_nil))) (pe_slice sl_list (pv 3) (po_some (pe_op op_add (pv 4) pe_int)) po_none)) (pa_cons pe_int pa_nil)))))) (pss_one (ps_ret pe_bl)) pss_nil)))
      (pss_cons (ps_for PassesOwn.never rfl (pi_list (pe_lst (pa_cons pe_int (pa_cons pe_int (pa_cons (pe_un un_neg pe_int) (pa_cons pe_bl (pa_cons pe_non pa_nil))))))) (pg_name (i := 5) sc__law_bad_right.nd rfl (.inl rfl)) (pss_one (ps_if (pt_not (pt_val (pe_fn h__law_refused hr (by rfl) (pa_cons (pe_lam TB rfl hmT huT rfl (by decide +kernel) rfl) (pa_cons (pv 5) (pa_cons pe_int pa_nil)))))) (pss_one (ps_ret pe_bl)) pss_nil)))
      (pss_one (ps_ret (pe_and (pe_fn h__law_refused hr (by rfl) (pa_cons (pe_lam TB rfl hmT huT rfl (by decide +kernel) rfl) (pa_cons (pe_op op_cat (pe_lst (pa_cons pe_int pa_nil)) (pv 3)) (pa_cons pe_int pa_nil)))) (pe_one (pe_cmpR op_eq (pe_fn h_number_of hr (by rfl) (pa_cons pe_int (pa_cons (pv 3) pa_nil))) (pe_ix ix_list (pe_fn0 h__law_known hr (by rfl)) pe_int (fun _ _ => rfl)) (nomark _)))))))))), ?_⟩
    -- sides
    refine q_forNLn (xs := badSides) (el_lst (ea_cons ev_c (ea_cons ev_c (ea_cons ev_c (ea_cons ev_c (ea_cons ev_c (ea_cons ev_c (ea_cons ev_c (ea_cons ev_c (ea_cons ev_c ea_nil))))))))) (by simp))
      (fun p i σ' H' => ∃ r1 r2, σ' = [some (vi n), r1, r2, none, none, none, none] ∧ ExtN H H' ∧ Tabs TT H' ∧ H' p = some (.lst badSides))
      (fun p H1 _ e1 hp => ⟨_, _, rfl, extN_ex e1, hT.ext e1, hp⟩) (fun p i σ' H' _ ⟨_, _, _, _, _, z⟩ => sq_of z) ?_ ?_
    · rintro p i x σ' H1 hx ⟨r1, r2, rfl, f1, t1, hp⟩
      have hb := fun H' => badSides_all (K := K) (H := H') x (List.mem_of_getElem? hx)
      refine q_asgM (Ls := [L__law_bad_right_0, L__law_bad_right_1]) (em_lst (eam_cons (eam_cons eam_nil)) (by decide)) t1 fun p2 rs2 H2 e2 t2 hp2 hs2 => ?_
      refine q_catApp (Ls := [L__law_bad_right_2]) (L := L__law_bad_right_3) rfl hp2 hs2 (eam_cons eam_nil) (by decide) t2 (by simp) fun p3 rs3 H3 e3 t3 hp3 hs3 => ?_
      have f3 : ExtN H1 H3 := e2.trans e3
      have len3 : rs3.length = 4 := hs3.len
      refine s_goN (etn_of (et_is (et_not (a := true) (et_B (ev_is (ev_all (bs := List.replicate rs3.length true) (eq_new (el_is (el_lcL (fun _ => true) (fun _ => V.bl true) (ev_var rfl) (sq_of hp3) (by omega) (fun x => rfl) (fun i x H4 e4 _ => et_yes) (fun j y H4 e4 hy _ => ?_)) ?_))) ?_))) rfl)) t3 fun H4 e4 t4 => ⟨_, _, rfl, (f1.trans f3).trans e4, t4, (f3.trans e4) _ _ hp (fun _ z => nomatch z)⟩
      · obtain ⟨g, L, rfl, hL, ok⟩ := hs3.all (Pr := fun L => LamOk P w K mg base 4 L (spAsk Cf (G__law_bad_right_0 K))) (all4 (lam__law_bad_right_0 x_moved) (lam__law_bad_right_1 x_least_many) (lam__law_bad_right_2 x_least) (lam__law_bad_right_3 x_all_of)) y (List.mem_of_getElem? hy)
        exact ev_fn (ea_cons (ev_var rfl) (ea_cons (ev_var rfl) (ea_cons ev_c ea_nil))) fun H5 e5 => ⟨g, x, 5, L, _, rfl, by decide, hL.ex (e4.trans e5), ok, fun H6 e6 => ⟨hb H6, rfl⟩, rfl⟩
      · rw [given_all, List.map_replicate, List.map_const', List.length_range]
      · rw [List.all_replicate]
        cases rs3.length <;> rfl
    · rintro p σ' H1 ⟨r1, r2, rfl, f1, t1, hp⟩
      -- one bad figure
      have k4 := kn4
      have x5 : 1016949152542372881355932203389830508474576271186440677966 < 2 ^ 50000 := small_ltN (by decide +kernel)
      have e4v : ∀ {σ : L2.St} {H : Hp}, Ev (tOp (rIxL K) (tCall (spL R_known) [] E0 tNil) (tC (.int 4))) σ H (vi 1016949152542372881355932203389830508474576271186440677966) := fun {σ H} => ev_ix (eq_new (el_fn ea_nil fun _ _ => ⟨rfl, rfl⟩)) ev_c (atI_natN (i := 4) rfl)
      refine q_parL (xs := vl (figs 10 1016949152542372881355932203389830508474576271186440677966)) (y := vi (n % 58)) (el_fn (R := R_figures) (ea_cons ev_c (ea_cons e4v ea_nil)) fun _ _ => ⟨10, _, rfl, by decide, by decide, k4.pos, x5, rfl⟩) (ev_is (ev_op (ev_var rfl) ev_c (rv_I (by decide))) rfl) fun q H2 nq e2 hq => ?_
      have hl := k4.len
      have hlt := figs_lt (b := 10) (by decide) 1016949152542372881355932203389830508474576271186440677966
      have hhd := figs_head (b := 10) (by decide) 1016949152542372881355932203389830508474576271186440677966
      have hwr := wr_figs (b := 10) (by decide) 1016949152542372881355932203389830508474576271186440677966
      clear k4
      generalize figs 10 1016949152542372881355932203389830508474576271186440677966 = R at *
      have hs58 := Nat.mod_lt n (show 0 < 58 by decide)
      generalize n % 58 = sp at *
      have t2 : Tabs TT H2 := t1.ext e2
      refine q_forNLn (xs := badFigs) (el_is (el_lst (ea_cons ev_c (ea_cons (ev_neg ev_c) (ea_cons ev_c (ea_cons ev_c (ea_cons ev_c ea_nil))))) (by simp)) rfl)
        (fun p i σ' H' => ∃ r5, σ' = [some (vi n), r1, r2, some (.ref q), some (vi sp), r5, none] ∧ ExtN H2 H' ∧ Tabs TT H' ∧ H' p = some (.lst badFigs))
        (fun p H3 _ e3 hp => ⟨_, rfl, extN_ex e3, t2.ext e3, hp⟩) (fun p i σ' H' _ ⟨_, _, _, _, z⟩ => sq_of z) ?_ ?_
      · rintro p i x σ' H3 hx ⟨r5, rfl, f3, t3, hp⟩
        have hb := fun H' => badFigs_all (K := K) (H := H') x (List.mem_of_getElem? hx)
        have hq3 := f3 _ _ hq (fun _ z => nomatch z)
        refine s_goN (etn_not (b := true) (etn_B (en_callM (xs := vl (R.take sp) ++ [x] ++ vl (R.drop (sp + 1))) (fun H4 e4 => ?_) (fun _ => ev_c) fun g a H4 e4 hL ha => ?_))) t3 fun H4 e4 t4 => ⟨_, rfl, f3.trans e4, t4, e4 _ _ hp (fun _ z => nomatch z)⟩
        · have hq4 := e4 _ _ hq3 (fun _ z => nomatch z)
          refine es_new (el_cat (es_new (el_cat (es_new (el_is (ys := vl (R.take sp)) (el_cut (eq_old (ev_var rfl) (sq_of hq4)) eo_none (eo_some (ev_var rfl))) (cut_to _ sp))) (es_new (el_lst (ea_cons (ev_var rfl) ea_nil) (by simp))) ?_)) (es_new (el_is (ys := vl (R.drop (sp + 1))) (el_cut (eq_old (ev_var rfl) (sq_of hq4)) (eo_some (ev_op (ev_var rfl) ev_c rv_I0)) eo_none) (cut_from _ (sp + 1)))) ?_)
          · rw [vl_len, List.length_take]
            show _ + 1 ≤ _
            omega
          · rw [List.length_append, vl_len, vl_len, List.length_take, List.length_drop]
            show _ + 1 + _ ≤ _
            omega
        · refine ⟨g, .ref a, 2, _, G__law_bad_right_4 K, rfl, by decide, hL, lam__law_bad_right_4 x_number_of, fun H5 e5 => ⟨row_bad (e5 _ _ ha) ?_ (hb H5).1 (hb H5).2, rfl⟩, rfl⟩
          rw [List.length_take, List.length_drop]
          omega
      · rintro p' σ' H3 ⟨r5, rfl, f3, t3, _⟩
        -- counts
        refine q_forNLn (xs := badMany) (el_is (el_lst (ea_cons ev_c (ea_cons ev_c (ea_cons (ev_neg ev_c) (ea_cons ev_c (ea_cons ev_c ea_nil))))) (by simp)) rfl)
          (fun p i σ' H' => ∃ r5, σ' = [some (vi n), r1, r2, some (.ref q), some (vi sp), r5, none] ∧ ExtN H3 H' ∧ Tabs TT H' ∧ H' p = some (.lst badMany))
          (fun p H4 _ e4 hp => ⟨_, rfl, extN_ex e4, t3.ext e4, hp⟩) (fun p i σ' H' _ ⟨_, _, _, _, z⟩ => sq_of z) ?_ ?_
        · rintro p i x σ' H4 hx ⟨r5, rfl, f4, t4, hp⟩
          have hb := fun H' => badMany_all (K := K) (H := H') x (List.mem_of_getElem? hx)
          exact s_goN (etn_not (b := true) (etn_B (en_callV (x := x) (fun _ => ev_var rfl) (fun _ => ev_c) fun g H5 e5 hL => ⟨g, x, 6, _, G__law_bad_right_5 K, rfl, by decide, hL, lam__law_bad_right_5 x_all_of, fun H6 e6 => ⟨hb H6, rfl⟩, rfl⟩))) t4 fun H5 e5 t5 => ⟨_, rfl, f4.trans e5, t5, e5 _ _ hp (fun _ z => nomatch z)⟩
        · rintro p'' σ' H4 ⟨r5', rfl, f4, t4, _⟩
          have hq4 := (f3.trans f4) _ _ hq (fun _ z => nomatch z)
          refine s_retN (v := .bl true) (en_andV (en_callM (xs := [.int 0] ++ vl R) (fun H5 e5 => es_new (el_cat (es_new (el_lst (ea_cons ev_c ea_nil) (by simp))) (es_old (ev_var rfl) (e5 _ _ hq4 (fun _ z => nomatch z))) ?_)) (fun _ => ev_c) fun g a H5 e5 hL ha => ⟨g, .ref a, 2, _, G__law_bad_right_6 K, rfl, by decide, hL, lam__law_bad_right_6 x_number_of, fun H6 e6 => ⟨row_zero (e6 _ _ ha) (by omega), rfl⟩, rfl⟩) fun H5 e5 t5 => en_of (ev_is (ev_op (ev_fnL ev_c (es_old (ev_var rfl) (e5 _ _ hq4 (fun _ z => nomatch z))) fun a H6 e6 ha => ⟨10, a, R, rfl, by decide, by decide, ha, by omega, hlt, ?_, rfl⟩) e4v (rv_eq rfl)) ?_)) t4 fun H5 e5 t5 => k H5 (((f1.trans (extN_ex e2)).trans (f3.trans f4)).trans e5) t5
          · rw [vl_len]
            show 1 + _ ≤ _
            omega
          · have g : R[0]? = some R[0] := List.getElem?_eq_getElem (by omega)
            exact ⟨_, g, hhd _ g⟩
          · rw [hwr, decide_eq_true rfl]
def spLaw (K : PySem.W.Frag) (TT : List (Addr × Str)) : Sp := fun vs H Q _ => ∃ (a : Addr) (ns : List Int), vs = [.ref a] ∧ SqL K H a (ns.map V.int) ∧ ns.length ≤ 63 ∧ Tabs TT H ∧ ∀ H', Q (.bl true) H'
abbrev s_law : Stmt := topS 45
abbrev N_law : List Str := ["_law_script", "_law_whole"]
abbrev P_law : List Str := ["_law_script"]
theorem sc_law : FnScope N_law P_law (defScope s_law) := ⟨rfl, rfl, rfl, by decide +kernel, rfl, by decide +kernel, by decide +kernel⟩

theorem ok_law {f : Addr} {fd : FuncData} {TT : List (Addr × Str)} (T : Nm mg) (F : Fun K "law" "law" s_law f fd) (h__law_front_right : Has P w K mg base "_law_front_right" P__law_front_right 5 (spV R_front)) (h__law_behind_right : Has P w K mg base "_law_behind_right" P__law_behind_right 5 (spV R_none)) (h__law_bad_right : Has P w K mg base "_law_bad_right" P__law_bad_right 6 (spBad K TT)) : FnOk P w K mg base CX0 7 f fd P_law (spLaw K TT) := by
  refine F.ok sc_law (fun vs H Q E h => ?_) (fun cdv A outer s H vs Q E hr h => ?_)
  · obtain ⟨a, ns, rfl, _⟩ := h
    rfl
  · obtain ⟨a, ns, rfl, hS, hlen, hT, k⟩ := h
    refine ⟨_, (pss_cons (ps_set (i := 1) sc_law.nd rfl (.inl rfl) (pe_op op_mod (pe_callB call_abs (by rfl) T.n_abs (by decide +kernel) (pa_cons (pe_callB (cr_sum rfl) (by rfl) T.n_sum (by decide +kernel) (pa_cons (pe_slice sl_list (pv 0) po_none (po_some pe_int)) pa_nil)) pa_nil)) (pe_op op_pow pe_int pe_int)))
      (pss_one (ps_ret (pe_and (pe_fn h__law_front_right hr (by rfl) (pa_cons (pv 1) pa_nil)) (pe_and (pe_fn0 h__law_behind_right hr (by rfl)) (pe_one (pe_fn h__law_bad_right hr (by rfl) (pa_cons (pv 1) pa_nil)))))))), ?_⟩
    refine q_asg (ev_whole hS rfl) fun H1 e1 => ?_
    generalize (ns.take 63).sum.natAbs % 10 ^ 60 = wh at *
    exact s_retN (v := .bl true) (en_andV (en_of (ev_fn (ea_cons (ev_var rfl) ea_nil) fun _ _ => ⟨wh, rfl, rfl⟩)) fun H2 e2 t2 => en_andV (en_of (ev_fn ea_nil fun _ _ => ⟨rfl, rfl⟩)) fun H3 e3 t3 => en_fn (ea_cons (ev_var rfl) ea_nil) fun H4 e4 t4 Q' E' q' => ⟨wh, rfl, t4, q'⟩) (hT.ext e1) fun H5 _ _ => k H5
end
end Tf

namespace Tf
open PySem PySem.Spec PyProof.Rows L2 Evl
theorem all_mk {l : PySem.W.OpenLaw} {w : World} {K : PySem.W.Frag} {h : Heap} {mg : Str → Option Value} {fa f0 f1 f2 f3 f4 f5 f6 f7 f8 f9 f10 f11 f12 f13 f14 f15 f16 f17 f18 f19 f20 f21 f22 f23 f24 f25 f26 f27 f28 f29 f30 : Addr} {q : Program} (X : K.In h) (G : h.Ns mainGlobals mg) (hfa : mg "law" = some (.ref fa))
    (TK : TabsKnown q K h)
    {aS : Addr} {tS1 tS2 : Tok} {nS : Nat} {odS : Option Addr} {slS : Array (Option Value)}
    {tM : Tok}
    {C0 C1 C2 C3 C4 C5 C6 CE : Addr}
    {cB PB : Addr} {ecB : Value} {dcB : Option Addr} {vcB : Array Value} {scB : Array (Option Value)}
    {CA CT CN : Addr}
    (xg0 : PySem.W.nsIn K mainGlobals "BadBase" = some (some (.ref C0)))
    (xg1 : PySem.W.nsIn K mainGlobals "BadNumber" = some (some (.ref C1)))
    (xg2 : PySem.W.nsIn K mainGlobals "BadFigures" = some (some (.ref C2)))
    (xg3 : PySem.W.nsIn K mainGlobals "BadFactor" = some (some (.ref C3)))
    (xg4 : PySem.W.nsIn K mainGlobals "BadFigure" = some (some (.ref C4)))
    (xg5 : PySem.W.nsIn K mainGlobals "BadSide" = some (some (.ref C5)))
    (xg6 : PySem.W.nsIn K mainGlobals "BadMany" = some (some (.ref C6)))
    (xgE : PySem.W.nsIn K mainGlobals "TurnError" = some (some (.ref CE)))
    (gCA : PySem.W.nsIn K mainGlobals "Answer" = some (some (.ref CA)))
    (gCT : PySem.W.nsIn K mainGlobals "Turns" = some (some (.ref CT)))
    (gCN : PySem.W.nsIn K mainGlobals "Never" = some (some (.ref CN)))
    {od0 an0 : Option Addr} {sl0 : Array (Option Value)} {oc0 kV0 dc0 pm0 cd0 ct0 : Value}
    (a0 : PySem.W.nsIn K mainGlobals "is_whole" = some (some (.ref f0)))
    (l0 : K.lookup f0 = some ⟨oc0, od0, .func (PySem.W.fnOf "is_whole" "is_whole" (defArgs s_is_whole) (defBody s_is_whole) (defScope s_is_whole) .none kV0 dc0 pm0 an0 cd0 ct0), sl0⟩) (c0 : PySem.W.codeIn K cd0 "is_whole" = true) (k0 : PySem.W.keepIn K (.ref f0) = true)
    {od1 an1 : Option Addr} {sl1 : Array (Option Value)} {oc1 kV1 dc1 pm1 cd1 ct1 : Value}
    (a1 : PySem.W.nsIn K mainGlobals "asked_base" = some (some (.ref f1)))
    (l1 : K.lookup f1 = some ⟨oc1, od1, .func (PySem.W.fnOf "asked_base" "asked_base" (defArgs s_asked_base) (defBody s_asked_base) (defScope s_asked_base) .none kV1 dc1 pm1 an1 cd1 ct1), sl1⟩) (c1 : PySem.W.codeIn K cd1 "asked_base" = true) (k1 : PySem.W.keepIn K (.ref f1) = true)
    {od2 an2 : Option Addr} {sl2 : Array (Option Value)} {oc2 kV2 dc2 pm2 cd2 ct2 : Value}
    (a2 : PySem.W.nsIn K mainGlobals "asked_number" = some (some (.ref f2)))
    (l2 : K.lookup f2 = some ⟨oc2, od2, .func (PySem.W.fnOf "asked_number" "asked_number" (defArgs s_asked_number) (defBody s_asked_number) (defScope s_asked_number) .none kV2 dc2 pm2 an2 cd2 ct2), sl2⟩) (c2 : PySem.W.codeIn K cd2 "asked_number" = true) (k2 : PySem.W.keepIn K (.ref f2) = true)
    {od3 an3 : Option Addr} {sl3 : Array (Option Value)} {oc3 kV3 dc3 pm3 cd3 ct3 : Value}
    (a3 : PySem.W.nsIn K mainGlobals "asked_side" = some (some (.ref f3)))
    (l3 : K.lookup f3 = some ⟨oc3, od3, .func (PySem.W.fnOf "asked_side" "asked_side" (defArgs s_asked_side) (defBody s_asked_side) (defScope s_asked_side) .none kV3 dc3 pm3 an3 cd3 ct3), sl3⟩) (c3 : PySem.W.codeIn K cd3 "asked_side" = true) (k3 : PySem.W.keepIn K (.ref f3) = true)
    {od4 an4 : Option Addr} {sl4 : Array (Option Value)} {oc4 kV4 dc4 pm4 cd4 ct4 : Value}
    (a4 : PySem.W.nsIn K mainGlobals "figures_of" = some (some (.ref f4)))
    (l4 : K.lookup f4 = some ⟨oc4, od4, .func (PySem.W.fnOf "figures_of" "figures_of" (defArgs s_figures_of) (defBody s_figures_of) (defScope s_figures_of) .none kV4 dc4 pm4 an4 cd4 ct4), sl4⟩) (c4 : PySem.W.codeIn K cd4 "figures_of" = true) (k4 : PySem.W.keepIn K (.ref f4) = true)
    {od5 an5 : Option Addr} {sl5 : Array (Option Value)} {oc5 kV5 dc5 pm5 cd5 ct5 : Value}
    (a5 : PySem.W.nsIn K mainGlobals "figures" = some (some (.ref f5)))
    (l5 : K.lookup f5 = some ⟨oc5, od5, .func (PySem.W.fnOf "figures" "figures" (defArgs s_figures) (defBody s_figures) (defScope s_figures) .none kV5 dc5 pm5 an5 cd5 ct5), sl5⟩) (c5 : PySem.W.codeIn K cd5 "figures" = true) (k5 : PySem.W.keepIn K (.ref f5) = true)
    {od6 an6 : Option Addr} {sl6 : Array (Option Value)} {oc6 kV6 dc6 pm6 cd6 ct6 : Value}
    (a6 : PySem.W.nsIn K mainGlobals "worth" = some (some (.ref f6)))
    (l6 : K.lookup f6 = some ⟨oc6, od6, .func (PySem.W.fnOf "worth" "worth" (defArgs s_worth) (defBody s_worth) (defScope s_worth) .none kV6 dc6 pm6 an6 cd6 ct6), sl6⟩) (c6 : PySem.W.codeIn K cd6 "worth" = true) (k6 : PySem.W.keepIn K (.ref f6) = true)
    {od7 an7 : Option Addr} {sl7 : Array (Option Value)} {oc7 kV7 dc7 pm7 cd7 ct7 : Value}
    (a7 : PySem.W.nsIn K mainGlobals "number_of" = some (some (.ref f7)))
    (l7 : K.lookup f7 = some ⟨oc7, od7, .func (PySem.W.fnOf "number_of" "number_of" (defArgs s_number_of) (defBody s_number_of) (defScope s_number_of) .none kV7 dc7 pm7 an7 cd7 ct7), sl7⟩) (c7 : PySem.W.codeIn K cd7 "number_of" = true) (k7 : PySem.W.keepIn K (.ref f7) = true)
    {od8 an8 : Option Addr} {sl8 : Array (Option Value)} {oc8 kV8 dc8 pm8 cd8 ct8 : Value}
    (a8 : PySem.W.nsIn K mainGlobals "moved_of" = some (some (.ref f8)))
    (l8 : K.lookup f8 = some ⟨oc8, od8, .func (PySem.W.fnOf "moved_of" "moved_of" (defArgs s_moved_of) (defBody s_moved_of) (defScope s_moved_of) .none kV8 dc8 pm8 an8 cd8 ct8), sl8⟩) (c8 : PySem.W.codeIn K cd8 "moved_of" = true) (k8 : PySem.W.keepIn K (.ref f8) = true)
    {od9 an9 : Option Addr} {sl9 : Array (Option Value)} {oc9 kV9 dc9 pm9 cd9 ct9 : Value}
    (a9 : PySem.W.nsIn K mainGlobals "moved" = some (some (.ref f9)))
    (l9 : K.lookup f9 = some ⟨oc9, od9, .func (PySem.W.fnOf "moved" "moved" (defArgs s_moved) (defBody s_moved) (defScope s_moved) .none kV9 dc9 pm9 an9 cd9 ct9), sl9⟩) (c9 : PySem.W.codeIn K cd9 "moved" = true) (k9 : PySem.W.keepIn K (.ref f9) = true)
    {od10 an10 : Option Addr} {sl10 : Array (Option Value)} {oc10 kV10 dc10 pm10 cd10 ct10 : Value}
    (a10 : PySem.W.nsIn K mainGlobals "common" = some (some (.ref f10)))
    (l10 : K.lookup f10 = some ⟨oc10, od10, .func (PySem.W.fnOf "common" "common" (defArgs s_common) (defBody s_common) (defScope s_common) .none kV10 dc10 pm10 an10 cd10 ct10), sl10⟩) (c10 : PySem.W.codeIn K cd10 "common" = true) (k10 : PySem.W.keepIn K (.ref f10) = true)
    {od11 an11 : Option Addr} {sl11 : Array (Option Value)} {oc11 kV11 dc11 pm11 cd11 ct11 : Value}
    (a11 : PySem.W.nsIn K mainGlobals "often_back" = some (some (.ref f11)))
    (l11 : K.lookup f11 = some ⟨oc11, od11, .func (PySem.W.fnOf "often_back" "often_back" (defArgs s_often_back) (defBody s_often_back) (defScope s_often_back) .none kV11 dc11 pm11 an11 cd11 ct11), sl11⟩) (c11 : PySem.W.codeIn K cd11 "often_back" = true) (k11 : PySem.W.keepIn K (.ref f11) = true)
    {od12 an12 : Option Addr} {sl12 : Array (Option Value)} {oc12 kV12 dc12 pm12 cd12 ct12 : Value}
    (a12 : PySem.W.nsIn K mainGlobals "length_of" = some (some (.ref f12)))
    (l12 : K.lookup f12 = some ⟨oc12, od12, .func (PySem.W.fnOf "length_of" "length_of" (defArgs s_length_of) (defBody s_length_of) (defScope s_length_of) .none kV12 dc12 pm12 an12 cd12 ct12), sl12⟩) (c12 : PySem.W.codeIn K cd12 "length_of" = true) (k12 : PySem.W.keepIn K (.ref f12) = true)
    {od13 an13 : Option Addr} {sl13 : Array (Option Value)} {oc13 kV13 dc13 pm13 cd13 ct13 : Value}
    (a13 : PySem.W.findIn K (.ref CT) "__init__" = some (some (.ref f13))) (i13 : PySem.W.isFn K (.ref f13) = true)
    (l13 : K.lookup f13 = some ⟨oc13, od13, .func (PySem.W.fnOf "__init__" "Turns.__init__" (defArgs s_Turns___init__) (defBody s_Turns___init__) (defScope s_Turns___init__) .none kV13 dc13 pm13 an13 cd13 ct13), sl13⟩) (c13 : PySem.W.codeIn K cd13 "Turns.__init__" = true) (k13 : PySem.W.keepIn K (.ref f13) = true)
    {od14 an14 : Option Addr} {sl14 : Array (Option Value)} {oc14 kV14 dc14 pm14 cd14 ct14 : Value}
    (a14 : PySem.W.findIn K (.ref CT) "shows" = some (some (.ref f14))) (i14 : PySem.W.isFn K (.ref f14) = true)
    (l14 : K.lookup f14 = some ⟨oc14, od14, .func (PySem.W.fnOf "shows" "Turns.shows" (defArgs s_Turns_shows) (defBody s_Turns_shows) (defScope s_Turns_shows) .none kV14 dc14 pm14 an14 cd14 ct14), sl14⟩) (c14 : PySem.W.codeIn K cd14 "Turns.shows" = true) (k14 : PySem.W.keepIn K (.ref f14) = true)
    {od15 an15 : Option Addr} {sl15 : Array (Option Value)} {oc15 kV15 dc15 pm15 cd15 ct15 : Value}
    (a15 : PySem.W.findIn K (.ref CN) "shows" = some (some (.ref f15))) (i15 : PySem.W.isFn K (.ref f15) = true)
    (l15 : K.lookup f15 = some ⟨oc15, od15, .func (PySem.W.fnOf "shows" "Never.shows" (defArgs s_Never_shows) (defBody s_Never_shows) (defScope s_Never_shows) .none kV15 dc15 pm15 an15 cd15 ct15), sl15⟩) (c15 : PySem.W.codeIn K cd15 "Never.shows" = true) (k15 : PySem.W.keepIn K (.ref f15) = true)
    {od16 an16 : Option Addr} {sl16 : Array (Option Value)} {oc16 kV16 dc16 pm16 cd16 ct16 : Value}
    (a16 : PySem.W.nsIn K mainGlobals "asked_factor" = some (some (.ref f16)))
    (l16 : K.lookup f16 = some ⟨oc16, od16, .func (PySem.W.fnOf "asked_factor" "asked_factor" (defArgs s_asked_factor) (defBody s_asked_factor) (defScope s_asked_factor) .none kV16 dc16 pm16 an16 cd16 ct16), sl16⟩) (c16 : PySem.W.codeIn K cd16 "asked_factor" = true) (k16 : PySem.W.keepIn K (.ref f16) = true)
    {od17 an17 : Option Addr} {sl17 : Array (Option Value)} {oc17 kV17 dc17 pm17 cd17 ct17 : Value}
    (a17 : PySem.W.nsIn K mainGlobals "asked_figure" = some (some (.ref f17)))
    (l17 : K.lookup f17 = some ⟨oc17, od17, .func (PySem.W.fnOf "asked_figure" "asked_figure" (defArgs s_asked_figure) (defBody s_asked_figure) (defScope s_asked_figure) .none kV17 dc17 pm17 an17 cd17 ct17), sl17⟩) (c17 : PySem.W.codeIn K cd17 "asked_figure" = true) (k17 : PySem.W.keepIn K (.ref f17) = true)
    {od18 an18 : Option Addr} {sl18 : Array (Option Value)} {oc18 kV18 dc18 pm18 cd18 ct18 : Value}
    (a18 : PySem.W.nsIn K mainGlobals "turned_one" = some (some (.ref f18)))
    (l18 : K.lookup f18 = some ⟨oc18, od18, .func (PySem.W.fnOf "turned_one" "turned_one" (defArgs s_turned_one) (defBody s_turned_one) (defScope s_turned_one) .none kV18 dc18 pm18 an18 cd18 ct18), sl18⟩) (c18 : PySem.W.codeIn K cd18 "turned_one" = true) (k18 : PySem.W.keepIn K (.ref f18) = true)
    {od19 an19 : Option Addr} {sl19 : Array (Option Value)} {oc19 kV19 dc19 pm19 cd19 ct19 : Value}
    (a19 : PySem.W.nsIn K mainGlobals "power" = some (some (.ref f19)))
    (l19 : K.lookup f19 = some ⟨oc19, od19, .func (PySem.W.fnOf "power" "power" (defArgs s_power) (defBody s_power) (defScope s_power) .none kV19 dc19 pm19 an19 cd19 ct19), sl19⟩) (c19 : PySem.W.codeIn K cd19 "power" = true) (k19 : PySem.W.keepIn K (.ref f19) = true)
    {od20 an20 : Option Addr} {sl20 : Array (Option Value)} {oc20 kV20 dc20 pm20 cd20 ct20 : Value}
    (a20 : PySem.W.nsIn K mainGlobals "least_many" = some (some (.ref f20)))
    (l20 : K.lookup f20 = some ⟨oc20, od20, .func (PySem.W.fnOf "least_many" "least_many" (defArgs s_least_many) (defBody s_least_many) (defScope s_least_many) .none kV20 dc20 pm20 an20 cd20 ct20), sl20⟩) (c20 : PySem.W.codeIn K cd20 "least_many" = true) (k20 : PySem.W.keepIn K (.ref f20) = true)
    {od21 an21 : Option Addr} {sl21 : Array (Option Value)} {oc21 kV21 dc21 pm21 cd21 ct21 : Value}
    (a21 : PySem.W.nsIn K mainGlobals "all_of" = some (some (.ref f21)))
    (l21 : K.lookup f21 = some ⟨oc21, od21, .func (PySem.W.fnOf "all_of" "all_of" (defArgs s_all_of) (defBody s_all_of) (defScope s_all_of) .none kV21 dc21 pm21 an21 cd21 ct21), sl21⟩) (c21 : PySem.W.codeIn K cd21 "all_of" = true) (k21 : PySem.W.keepIn K (.ref f21) = true)
    {od22 an22 : Option Addr} {sl22 : Array (Option Value)} {oc22 kV22 dc22 pm22 cd22 ct22 : Value}
    (a22 : PySem.W.nsIn K mainGlobals "least" = some (some (.ref f22)))
    (l22 : K.lookup f22 = some ⟨oc22, od22, .func (PySem.W.fnOf "least" "least" (defArgs s_least) (defBody s_least) (defScope s_least) .none kV22 dc22 pm22 an22 cd22 ct22), sl22⟩) (c22 : PySem.W.codeIn K cd22 "least" = true) (k22 : PySem.W.keepIn K (.ref f22) = true)
    {od23 an23 : Option Addr} {sl23 : Array (Option Value)} {oc23 kV23 dc23 pm23 cd23 ct23 : Value}
    (a23 : PySem.W.nsIn K mainGlobals "share" = some (some (.ref f23)))
    (l23 : K.lookup f23 = some ⟨oc23, od23, .func (PySem.W.fnOf "share" "share" (defArgs s_share) (defBody s_share) (defScope s_share) .none kV23 dc23 pm23 an23 cd23 ct23), sl23⟩) (c23 : PySem.W.codeIn K cd23 "share" = true) (k23 : PySem.W.keepIn K (.ref f23) = true)
    {od24 an24 : Option Addr} {sl24 : Array (Option Value)} {oc24 kV24 dc24 pm24 cd24 ct24 : Value}
    (a24 : PySem.W.nsIn K mainGlobals "_law_refused" = some (some (.ref f24)))
    (l24 : K.lookup f24 = some ⟨oc24, od24, .func (PySem.W.fnOf "_law_refused" "_law_refused" (defArgs s__law_refused) (defBody s__law_refused) (defScope s__law_refused) .none kV24 dc24 pm24 an24 cd24 ct24), sl24⟩) (c24 : PySem.W.codeIn K cd24 "_law_refused" = true) (k24 : PySem.W.keepIn K (.ref f24) = true)
    {od25 an25 : Option Addr} {sl25 : Array (Option Value)} {oc25 kV25 dc25 pm25 cd25 ct25 : Value}
    (a25 : PySem.W.nsIn K mainGlobals "_law_says" = some (some (.ref f25)))
    (l25 : K.lookup f25 = some ⟨oc25, od25, .func (PySem.W.fnOf "_law_says" "_law_says" (defArgs s__law_says) (defBody s__law_says) (defScope s__law_says) .none kV25 dc25 pm25 an25 cd25 ct25), sl25⟩) (c25 : PySem.W.codeIn K cd25 "_law_says" = true) (k25 : PySem.W.keepIn K (.ref f25) = true)
    {od26 an26 : Option Addr} {sl26 : Array (Option Value)} {oc26 kV26 dc26 pm26 cd26 ct26 : Value}
    (a26 : PySem.W.nsIn K mainGlobals "_law_known" = some (some (.ref f26)))
    (l26 : K.lookup f26 = some ⟨oc26, od26, .func (PySem.W.fnOf "_law_known" "_law_known" (defArgs s__law_known) (defBody s__law_known) (defScope s__law_known) .none kV26 dc26 pm26 an26 cd26 ct26), sl26⟩) (c26 : PySem.W.codeIn K cd26 "_law_known" = true) (k26 : PySem.W.keepIn K (.ref f26) = true)
    {od27 an27 : Option Addr} {sl27 : Array (Option Value)} {oc27 kV27 dc27 pm27 cd27 ct27 : Value}
    (a27 : PySem.W.nsIn K mainGlobals "_law_front_right" = some (some (.ref f27)))
    (l27 : K.lookup f27 = some ⟨oc27, od27, .func (PySem.W.fnOf "_law_front_right" "_law_front_right" (defArgs s__law_front_right) (defBody s__law_front_right) (defScope s__law_front_right) .none kV27 dc27 pm27 an27 cd27 ct27), sl27⟩) (c27 : PySem.W.codeIn K cd27 "_law_front_right" = true) (k27 : PySem.W.keepIn K (.ref f27) = true)
    {od28 an28 : Option Addr} {sl28 : Array (Option Value)} {oc28 kV28 dc28 pm28 cd28 ct28 : Value}
    (a28 : PySem.W.nsIn K mainGlobals "_law_behind_right" = some (some (.ref f28)))
    (l28 : K.lookup f28 = some ⟨oc28, od28, .func (PySem.W.fnOf "_law_behind_right" "_law_behind_right" (defArgs s__law_behind_right) (defBody s__law_behind_right) (defScope s__law_behind_right) .none kV28 dc28 pm28 an28 cd28 ct28), sl28⟩) (c28 : PySem.W.codeIn K cd28 "_law_behind_right" = true) (k28 : PySem.W.keepIn K (.ref f28) = true)
    {od29 an29 : Option Addr} {sl29 : Array (Option Value)} {oc29 kV29 dc29 pm29 cd29 ct29 : Value}
    (a29 : PySem.W.nsIn K mainGlobals "_law_bad_right" = some (some (.ref f29)))
    (l29 : K.lookup f29 = some ⟨oc29, od29, .func (PySem.W.fnOf "_law_bad_right" "_law_bad_right" (defArgs s__law_bad_right) (defBody s__law_bad_right) (defScope s__law_bad_right) .none kV29 dc29 pm29 an29 cd29 ct29), sl29⟩) (c29 : PySem.W.codeIn K cd29 "_law_bad_right" = true) (k29 : PySem.W.keepIn K (.ref f29) = true)
    {od30 an30 : Option Addr} {sl30 : Array (Option Value)} {oc30 kV30 dc30 pm30 cd30 ct30 : Value}
    (a30 : PySem.W.nsIn K mainGlobals "law" = some (some (.ref f30)))
    (l30 : K.lookup f30 = some ⟨oc30, od30, .func (PySem.W.fnOf "law" "law" (defArgs s_law) (defBody s_law) (defScope s_law) .none kV30 dc30 pm30 an30 cd30 ct30), sl30⟩) (c30 : PySem.W.codeIn K cd30 "law" = true) (k30 : PySem.W.keepIn K (.ref f30) = true)
    (z0 : PySem.W.nsIn K mainGlobals "isinstance" = some none)
    (z1 : PySem.W.nsIn K mainGlobals "int" = some none)
    (z2 : PySem.W.nsIn K mainGlobals "bool" = some none)
    (z3 : PySem.W.nsIn K mainGlobals "str" = some none)
    (z4 : PySem.W.nsIn K mainGlobals "list" = some none)
    (z5 : PySem.W.nsIn K mainGlobals "min" = some none)
    (z6 : PySem.W.nsIn K mainGlobals "all" = some none)
    (z7 : PySem.W.nsIn K mainGlobals "any" = some none)
    (z8 : PySem.W.nsIn K mainGlobals "abs" = some none)
    (z9 : PySem.W.nsIn K mainGlobals "sum" = some none)
    (z10 : PySem.W.nsIn K mainGlobals "range" = some none)
    (z11 : PySem.W.nsIn K mainGlobals "len" = some none)
    (z12 : PySem.W.nsIn K mainGlobals "ValueError" = some none)
    (gS : PySem.W.nsIn K mainGlobals "SIDES" = some (some (.ref aS)))
    (lS : K.lookup aS = some ⟨.type "tuple", odS, .seq #[.str "front" tS1, .str "behind" tS2] nS, slS⟩)
    (gM : PySem.W.nsIn K mainGlobals "MOST" = some (some (.int 3000 tM)))
    (xx0 : PySem.W.excIn K C0 bmV "ValueError.__new__" = true)
    (xk0 : PySem.W.keepIn K (.ref C0) = true)
    (xt0 : PySem.W.typeIn K (.ref C0) = some (.type "type"))
    (xi0 : PySem.W.isClsIn K C0 = true)
    (xa0 : PySem.W.findIn K (.ref C0) "__getattribute__" = some (some (.builtin "BaseException.__getattribute__")))
    (xb0 : PySem.W.findIn K (.ref C0) "__getattr__" = some none)
    (xs0 : PySem.W.subIn K (.ref C0) (.type "BaseException") = some true)
    (xd0 : PySem.W.hasDictIn K C0 = true)
    (xc0 : PySem.W.findIn K (.ref C0) "__class__" = some (some (.builtin "object.__class__")))
    (xm0 : PySem.W.mroIn K C0 (.type "object") = some true)
    (xe0 : PySem.W.subIn K (.ref C0) (.ref CE) = some true)
    (xv0 : PySem.W.subIn K (.ref C0) (.type "ValueError") = some true)
    (x00 : PySem.W.subIn K (.ref C0) (.ref C0) = some true)
    (x01 : PySem.W.subIn K (.ref C0) (.ref C1) = some false)
    (x02 : PySem.W.subIn K (.ref C0) (.ref C2) = some false)
    (x03 : PySem.W.subIn K (.ref C0) (.ref C3) = some false)
    (x04 : PySem.W.subIn K (.ref C0) (.ref C4) = some false)
    (x05 : PySem.W.subIn K (.ref C0) (.ref C5) = some false)
    (x06 : PySem.W.subIn K (.ref C0) (.ref C6) = some false)
    (xx1 : PySem.W.excIn K C1 bmV "ValueError.__new__" = true)
    (xk1 : PySem.W.keepIn K (.ref C1) = true)
    (xt1 : PySem.W.typeIn K (.ref C1) = some (.type "type"))
    (xi1 : PySem.W.isClsIn K C1 = true)
    (xa1 : PySem.W.findIn K (.ref C1) "__getattribute__" = some (some (.builtin "BaseException.__getattribute__")))
    (xb1 : PySem.W.findIn K (.ref C1) "__getattr__" = some none)
    (xs1 : PySem.W.subIn K (.ref C1) (.type "BaseException") = some true)
    (xd1 : PySem.W.hasDictIn K C1 = true)
    (xc1 : PySem.W.findIn K (.ref C1) "__class__" = some (some (.builtin "object.__class__")))
    (xm1 : PySem.W.mroIn K C1 (.type "object") = some true)
    (xe1 : PySem.W.subIn K (.ref C1) (.ref CE) = some true)
    (xv1 : PySem.W.subIn K (.ref C1) (.type "ValueError") = some true)
    (x10 : PySem.W.subIn K (.ref C1) (.ref C0) = some false)
    (x11 : PySem.W.subIn K (.ref C1) (.ref C1) = some true)
    (x12 : PySem.W.subIn K (.ref C1) (.ref C2) = some false)
    (x13 : PySem.W.subIn K (.ref C1) (.ref C3) = some false)
    (x14 : PySem.W.subIn K (.ref C1) (.ref C4) = some false)
    (x15 : PySem.W.subIn K (.ref C1) (.ref C5) = some false)
    (x16 : PySem.W.subIn K (.ref C1) (.ref C6) = some false)
    (xx2 : PySem.W.excIn K C2 bmV "ValueError.__new__" = true)
    (xk2 : PySem.W.keepIn K (.ref C2) = true)
    (xt2 : PySem.W.typeIn K (.ref C2) = some (.type "type"))
    (xi2 : PySem.W.isClsIn K C2 = true)
    (xa2 : PySem.W.findIn K (.ref C2) "__getattribute__" = some (some (.builtin "BaseException.__getattribute__")))
    (xb2 : PySem.W.findIn K (.ref C2) "__getattr__" = some none)
    (xs2 : PySem.W.subIn K (.ref C2) (.type "BaseException") = some true)
    (xd2 : PySem.W.hasDictIn K C2 = true)
    (xc2 : PySem.W.findIn K (.ref C2) "__class__" = some (some (.builtin "object.__class__")))
    (xm2 : PySem.W.mroIn K C2 (.type "object") = some true)
    (xe2 : PySem.W.subIn K (.ref C2) (.ref CE) = some true)
    (xv2 : PySem.W.subIn K (.ref C2) (.type "ValueError") = some true)
    (x20 : PySem.W.subIn K (.ref C2) (.ref C0) = some false)
    (x21 : PySem.W.subIn K (.ref C2) (.ref C1) = some false)
    (x22 : PySem.W.subIn K (.ref C2) (.ref C2) = some true)
    (x23 : PySem.W.subIn K (.ref C2) (.ref C3) = some false)
    (x24 : PySem.W.subIn K (.ref C2) (.ref C4) = some false)
    (x25 : PySem.W.subIn K (.ref C2) (.ref C5) = some false)
    (x26 : PySem.W.subIn K (.ref C2) (.ref C6) = some false)
    (xx3 : PySem.W.excIn K C3 bmV "ValueError.__new__" = true)
    (xk3 : PySem.W.keepIn K (.ref C3) = true)
    (xt3 : PySem.W.typeIn K (.ref C3) = some (.type "type"))
    (xi3 : PySem.W.isClsIn K C3 = true)
    (xa3 : PySem.W.findIn K (.ref C3) "__getattribute__" = some (some (.builtin "BaseException.__getattribute__")))
    (xb3 : PySem.W.findIn K (.ref C3) "__getattr__" = some none)
    (xs3 : PySem.W.subIn K (.ref C3) (.type "BaseException") = some true)
    (xd3 : PySem.W.hasDictIn K C3 = true)
    (xc3 : PySem.W.findIn K (.ref C3) "__class__" = some (some (.builtin "object.__class__")))
    (xm3 : PySem.W.mroIn K C3 (.type "object") = some true)
    (xe3 : PySem.W.subIn K (.ref C3) (.ref CE) = some true)
    (xv3 : PySem.W.subIn K (.ref C3) (.type "ValueError") = some true)
    (x30 : PySem.W.subIn K (.ref C3) (.ref C0) = some false)
    (x31 : PySem.W.subIn K (.ref C3) (.ref C1) = some false)
    (x32 : PySem.W.subIn K (.ref C3) (.ref C2) = some false)
    (x33 : PySem.W.subIn K (.ref C3) (.ref C3) = some true)
    (x34 : PySem.W.subIn K (.ref C3) (.ref C4) = some false)
    (x35 : PySem.W.subIn K (.ref C3) (.ref C5) = some false)
    (x36 : PySem.W.subIn K (.ref C3) (.ref C6) = some false)
    (xx4 : PySem.W.excIn K C4 bmV "ValueError.__new__" = true)
    (xk4 : PySem.W.keepIn K (.ref C4) = true)
    (xt4 : PySem.W.typeIn K (.ref C4) = some (.type "type"))
    (xi4 : PySem.W.isClsIn K C4 = true)
    (xa4 : PySem.W.findIn K (.ref C4) "__getattribute__" = some (some (.builtin "BaseException.__getattribute__")))
    (xb4 : PySem.W.findIn K (.ref C4) "__getattr__" = some none)
    (xs4 : PySem.W.subIn K (.ref C4) (.type "BaseException") = some true)
    (xd4 : PySem.W.hasDictIn K C4 = true)
    (xc4 : PySem.W.findIn K (.ref C4) "__class__" = some (some (.builtin "object.__class__")))
    (xm4 : PySem.W.mroIn K C4 (.type "object") = some true)
    (xe4 : PySem.W.subIn K (.ref C4) (.ref CE) = some true)
    (xv4 : PySem.W.subIn K (.ref C4) (.type "ValueError") = some true)
    (x40 : PySem.W.subIn K (.ref C4) (.ref C0) = some false)
    (x41 : PySem.W.subIn K (.ref C4) (.ref C1) = some false)
    (x42 : PySem.W.subIn K (.ref C4) (.ref C2) = some false)
    (x43 : PySem.W.subIn K (.ref C4) (.ref C3) = some false)
    (x44 : PySem.W.subIn K (.ref C4) (.ref C4) = some true)
    (x45 : PySem.W.subIn K (.ref C4) (.ref C5) = some false)
    (x46 : PySem.W.subIn K (.ref C4) (.ref C6) = some false)
    (xx5 : PySem.W.excIn K C5 bmV "ValueError.__new__" = true)
    (xk5 : PySem.W.keepIn K (.ref C5) = true)
    (xt5 : PySem.W.typeIn K (.ref C5) = some (.type "type"))
    (xi5 : PySem.W.isClsIn K C5 = true)
    (xa5 : PySem.W.findIn K (.ref C5) "__getattribute__" = some (some (.builtin "BaseException.__getattribute__")))
    (xb5 : PySem.W.findIn K (.ref C5) "__getattr__" = some none)
    (xs5 : PySem.W.subIn K (.ref C5) (.type "BaseException") = some true)
    (xd5 : PySem.W.hasDictIn K C5 = true)
    (xc5 : PySem.W.findIn K (.ref C5) "__class__" = some (some (.builtin "object.__class__")))
    (xm5 : PySem.W.mroIn K C5 (.type "object") = some true)
    (xe5 : PySem.W.subIn K (.ref C5) (.ref CE) = some true)
    (xv5 : PySem.W.subIn K (.ref C5) (.type "ValueError") = some true)
    (x50 : PySem.W.subIn K (.ref C5) (.ref C0) = some false)
    (x51 : PySem.W.subIn K (.ref C5) (.ref C1) = some false)
    (x52 : PySem.W.subIn K (.ref C5) (.ref C2) = some false)
    (x53 : PySem.W.subIn K (.ref C5) (.ref C3) = some false)
    (x54 : PySem.W.subIn K (.ref C5) (.ref C4) = some false)
    (x55 : PySem.W.subIn K (.ref C5) (.ref C5) = some true)
    (x56 : PySem.W.subIn K (.ref C5) (.ref C6) = some false)
    (xx6 : PySem.W.excIn K C6 bmV "ValueError.__new__" = true)
    (xk6 : PySem.W.keepIn K (.ref C6) = true)
    (xt6 : PySem.W.typeIn K (.ref C6) = some (.type "type"))
    (xi6 : PySem.W.isClsIn K C6 = true)
    (xa6 : PySem.W.findIn K (.ref C6) "__getattribute__" = some (some (.builtin "BaseException.__getattribute__")))
    (xb6 : PySem.W.findIn K (.ref C6) "__getattr__" = some none)
    (xs6 : PySem.W.subIn K (.ref C6) (.type "BaseException") = some true)
    (xd6 : PySem.W.hasDictIn K C6 = true)
    (xc6 : PySem.W.findIn K (.ref C6) "__class__" = some (some (.builtin "object.__class__")))
    (xm6 : PySem.W.mroIn K C6 (.type "object") = some true)
    (xe6 : PySem.W.subIn K (.ref C6) (.ref CE) = some true)
    (xv6 : PySem.W.subIn K (.ref C6) (.type "ValueError") = some true)
    (x60 : PySem.W.subIn K (.ref C6) (.ref C0) = some false)
    (x61 : PySem.W.subIn K (.ref C6) (.ref C1) = some false)
    (x62 : PySem.W.subIn K (.ref C6) (.ref C2) = some false)
    (x63 : PySem.W.subIn K (.ref C6) (.ref C3) = some false)
    (x64 : PySem.W.subIn K (.ref C6) (.ref C4) = some false)
    (x65 : PySem.W.subIn K (.ref C6) (.ref C5) = some false)
    (x66 : PySem.W.subIn K (.ref C6) (.ref C6) = some true)
    (xsE : PySem.W.subIn K (.ref CE) (.type "BaseException") = some true)
    (xdE : PySem.W.hasDictIn K CE = true)
    (xtE : PySem.W.typeIn K (.ref CE) = some (.type "type"))
    (xnO : PySem.W.specialIn K (.builtin "object.__class__") "__get__" = some (some (.builtin "getset_descriptor.__get__")))
    (xtO : PySem.W.takesIn K (.builtin "object.__class__") = some true)
    (tcB : cd29 = .ref cB)
    (tlB : K.lookup cB = some ⟨ecB, dcB, .fields vcB, scB⟩)
    (tpB : vcB[11]? = some (.ref PB))
    (tnB : K.lookup PB = none)
    (trB : ((recsOf q).find? (fun e => e.name == ("_law_bad_right" : Str))).isSome = true)
    (pgA : PySem.W.plainGet K CA Str.empty = true)
    (hdA : PySem.W.hasDictIn K CA = true)
    (poA : PySem.W.plainOver K CA = true)
    (saA : PySem.W.findIn K (.ref CA) "__setattr__" = some (some (.builtin "object.__setattr__")))
    (haA : PySem.W.findIn K (.ref CA) "__class__" = some (some (.builtin "object.__class__")))
    (hmA : PySem.W.mroIn K CA (.type "object") = some true)
    (mkA : PySem.W.makesIn K CA = true)
    (kcA : PySem.W.keepIn K (.ref CA) = true)
    (pgT : PySem.W.plainGet K CT Str.empty = true)
    (hdT : PySem.W.hasDictIn K CT = true)
    (poT : PySem.W.plainOver K CT = true)
    (saT : PySem.W.findIn K (.ref CT) "__setattr__" = some (some (.builtin "object.__setattr__")))
    (haT : PySem.W.findIn K (.ref CT) "__class__" = some (some (.builtin "object.__class__")))
    (hmT : PySem.W.mroIn K CT (.type "object") = some true)
    (mkT : PySem.W.makesIn K CT = true)
    (kcT : PySem.W.keepIn K (.ref CT) = true)
    (pgN : PySem.W.plainGet K CN Str.empty = true)
    (hdN : PySem.W.hasDictIn K CN = true)
    (poN : PySem.W.plainOver K CN = true)
    (saN : PySem.W.findIn K (.ref CN) "__setattr__" = some (some (.builtin "object.__setattr__")))
    (haN : PySem.W.findIn K (.ref CN) "__class__" = some (some (.builtin "object.__class__")))
    (hmN : PySem.W.mroIn K CN (.type "object") = some true)
    (mkN : PySem.W.makesIn K CN = true)
    (kcN : PySem.W.keepIn K (.ref CN) = true)
    (hnO : PySem.W.specialIn K (.builtin "object.__class__") "__get__" = some (some (.builtin "getset_descriptor.__get__")))
    (htO : PySem.W.takesIn K (.builtin "object.__class__") = some true)
    (nuT : PySem.W.findIn K (.ref CT) "number" = some none)
    (inN : PySem.W.findIn K (.ref CN) "__init__" = some (some (.builtin "object.__init__")))
    (isA : PySem.W.isClsIn K CA = true)
    (isT : PySem.W.isClsIn K CT = true)
    (isN : PySem.W.isClsIn K CN = true)
    (tyA : PySem.W.typeIn K (.ref CA) = some (.type "type"))
    (tyT : PySem.W.typeIn K (.ref CT) = some (.type "type"))
    (tyN : PySem.W.typeIn K (.ref CN) = some (.type "type"))
    (z_ta : PySem.W.subIn K (.ref CT) (.ref CA) = some true)
    (z_na : PySem.W.subIn K (.ref CN) (.ref CA) = some true)
    (z_tt : PySem.W.subIn K (.ref CT) (.ref CT) = some true)
    (z_tn : PySem.W.subIn K (.ref CT) (.ref CN) = some false)
    (z_nt : PySem.W.subIn K (.ref CN) (.ref CT) = some false)
    (z_nn : PySem.W.subIn K (.ref CN) (.ref CN) = some true)
    : LamX.LawAtS l w K CX0 7 63 "_law_script" mg fa h := by
  have e := hfa.symm.trans (PySem.W.mg_of X G a30)
  cases e
  have T : Nm mg := ⟨PySem.W.mg_none_of X G z0, PySem.W.mg_none_of X G z1, PySem.W.mg_none_of X G z2, PySem.W.mg_none_of X G z3, PySem.W.mg_none_of X G z4, PySem.W.mg_none_of X G z5, PySem.W.mg_none_of X G z6, PySem.W.mg_none_of X G z7, PySem.W.mg_none_of X G z8, PySem.W.mg_none_of X G z9, PySem.W.mg_none_of X G z10, PySem.W.mg_none_of X G z11, PySem.W.mg_none_of X G z12⟩
  have S : Sides K mg aS := ⟨PySem.W.mg_of X G gS, fun H => .inr ⟨_, _, _, lS, rfl, rfl, (by show 2 ≤ sizeLine; decide), .cons ⟨_, rfl⟩ (.cons ⟨_, rfl⟩ .nil)⟩⟩
  have M : Most mg tM := ⟨PySem.W.mg_of X G gM⟩
  have XC : Excs K mg (cf7 C0 C1 C2 C3 C4 C5 C6) CE := ⟨PySem.W.mg_of X G xg0, PySem.W.mg_of X G xg1, PySem.W.mg_of X G xg2, PySem.W.mg_of X G xg3, PySem.W.mg_of X G xg4, PySem.W.mg_of X G xg5, PySem.W.mg_of X G xg6, PySem.W.mg_of X G xgE,
    fun i hi => match i, hi with
      | 0, _ => ⟨xx0, xk0, xt0, ⟨xa0, xb0, xs0, xd0, xc0, xnO, xtO, xm0⟩⟩
      | 1, _ => ⟨xx1, xk1, xt1, ⟨xa1, xb1, xs1, xd1, xc1, xnO, xtO, xm1⟩⟩
      | 2, _ => ⟨xx2, xk2, xt2, ⟨xa2, xb2, xs2, xd2, xc2, xnO, xtO, xm2⟩⟩
      | 3, _ => ⟨xx3, xk3, xt3, ⟨xa3, xb3, xs3, xd3, xc3, xnO, xtO, xm3⟩⟩
      | 4, _ => ⟨xx4, xk4, xt4, ⟨xa4, xb4, xs4, xd4, xc4, xnO, xtO, xm4⟩⟩
      | 5, _ => ⟨xx5, xk5, xt5, ⟨xa5, xb5, xs5, xd5, xc5, xnO, xtO, xm5⟩⟩
      | 6, _ => ⟨xx6, xk6, xt6, ⟨xa6, xb6, xs6, xd6, xc6, xnO, xtO, xm6⟩⟩
    , fun i hi => match i, hi with
      | 0, _ => PySem.W.exm_ref xsE xdE xtE xe0
      | 1, _ => PySem.W.exm_ref xsE xdE xtE xe1
      | 2, _ => PySem.W.exm_ref xsE xdE xtE xe2
      | 3, _ => PySem.W.exm_ref xsE xdE xtE xe3
      | 4, _ => PySem.W.exm_ref xsE xdE xtE xe4
      | 5, _ => PySem.W.exm_ref xsE xdE xtE xe5
      | 6, _ => PySem.W.exm_ref xsE xdE xtE xe6
    , fun i j hi hj => match i, j, hi, hj with
      | 0, 0, _, _ => kit_by xi0 xt0 x00 fun _ => rfl
      | 0, 1, _, _ => kit_ne xi1 xt1 x01 x11
      | 0, 2, _, _ => kit_ne xi2 xt2 x02 x22
      | 0, 3, _, _ => kit_ne xi3 xt3 x03 x33
      | 0, 4, _, _ => kit_ne xi4 xt4 x04 x44
      | 0, 5, _, _ => kit_ne xi5 xt5 x05 x55
      | 0, 6, _, _ => kit_ne xi6 xt6 x06 x66
      | 1, 0, _, _ => kit_ne xi0 xt0 x10 x00
      | 1, 1, _, _ => kit_by xi1 xt1 x11 fun _ => rfl
      | 1, 2, _, _ => kit_ne xi2 xt2 x12 x22
      | 1, 3, _, _ => kit_ne xi3 xt3 x13 x33
      | 1, 4, _, _ => kit_ne xi4 xt4 x14 x44
      | 1, 5, _, _ => kit_ne xi5 xt5 x15 x55
      | 1, 6, _, _ => kit_ne xi6 xt6 x16 x66
      | 2, 0, _, _ => kit_ne xi0 xt0 x20 x00
      | 2, 1, _, _ => kit_ne xi1 xt1 x21 x11
      | 2, 2, _, _ => kit_by xi2 xt2 x22 fun _ => rfl
      | 2, 3, _, _ => kit_ne xi3 xt3 x23 x33
      | 2, 4, _, _ => kit_ne xi4 xt4 x24 x44
      | 2, 5, _, _ => kit_ne xi5 xt5 x25 x55
      | 2, 6, _, _ => kit_ne xi6 xt6 x26 x66
      | 3, 0, _, _ => kit_ne xi0 xt0 x30 x00
      | 3, 1, _, _ => kit_ne xi1 xt1 x31 x11
      | 3, 2, _, _ => kit_ne xi2 xt2 x32 x22
      | 3, 3, _, _ => kit_by xi3 xt3 x33 fun _ => rfl
      | 3, 4, _, _ => kit_ne xi4 xt4 x34 x44
      | 3, 5, _, _ => kit_ne xi5 xt5 x35 x55
      | 3, 6, _, _ => kit_ne xi6 xt6 x36 x66
      | 4, 0, _, _ => kit_ne xi0 xt0 x40 x00
      | 4, 1, _, _ => kit_ne xi1 xt1 x41 x11
      | 4, 2, _, _ => kit_ne xi2 xt2 x42 x22
      | 4, 3, _, _ => kit_ne xi3 xt3 x43 x33
      | 4, 4, _, _ => kit_by xi4 xt4 x44 fun _ => rfl
      | 4, 5, _, _ => kit_ne xi5 xt5 x45 x55
      | 4, 6, _, _ => kit_ne xi6 xt6 x46 x66
      | 5, 0, _, _ => kit_ne xi0 xt0 x50 x00
      | 5, 1, _, _ => kit_ne xi1 xt1 x51 x11
      | 5, 2, _, _ => kit_ne xi2 xt2 x52 x22
      | 5, 3, _, _ => kit_ne xi3 xt3 x53 x33
      | 5, 4, _, _ => kit_ne xi4 xt4 x54 x44
      | 5, 5, _, _ => kit_by xi5 xt5 x55 fun _ => rfl
      | 5, 6, _, _ => kit_ne xi6 xt6 x56 x66
      | 6, 0, _, _ => kit_ne xi0 xt0 x60 x00
      | 6, 1, _, _ => kit_ne xi1 xt1 x61 x11
      | 6, 2, _, _ => kit_ne xi2 xt2 x62 x22
      | 6, 3, _, _ => kit_ne xi3 xt3 x63 x33
      | 6, 4, _, _ => kit_ne xi4 xt4 x64 x44
      | 6, 5, _, _ => kit_ne xi5 xt5 x65 x55
      | 6, 6, _, _ => kit_by xi6 xt6 x66 fun _ => rfl
    , fun i hi => match i, hi with
      | 0, _ => kit_ve xv0
      | 1, _ => kit_ve xv1
      | 2, _ => kit_ve xv2
      | 3, _ => kit_ve xv3
      | 4, _ => kit_ve xv4
      | 5, _ => kit_ve xv5
      | 6, _ => kit_ve xv6
    ⟩
  have KA : Kls K mg "Answer" CA := ⟨PySem.W.mg_of X G gCA, ⟨pgA, hdA, poA, saA⟩, haA, hnO, htO, hmA⟩
  have KT : Kls K mg "Turns" CT := ⟨PySem.W.mg_of X G gCT, ⟨pgT, hdT, poT, saT⟩, haT, hnO, htO, hmT⟩
  have KN : Kls K mg "Never" CN := ⟨PySem.W.mg_of X G gCN, ⟨pgN, hdN, poN, saN⟩, haN, hnO, htO, hmN⟩
  have NT : NoAttr K CT "number" := nuT
  have BN : Bare K CN := ⟨mkN, inN, hmN, kcN⟩
  have Z : Kits K CA CT CN := kits_by isA isT isN tyA tyT tyN z_ta z_na z_tt z_tn z_nt z_nn
  have tbB := tab_mk a29 l29 tcB tlB tpB
  obtain ⟨TcB, TeB⟩ := TK _ cB PB trB tbB
  have F_is_whole := fun_mk (st := s_is_whole) l0 c0 k0
  have b_is_whole := F_is_whole.binds (ps := P_is_whole) fun _ _ _ _ _ _ us hl => match us, hl with | [_], _ => rfl
  have H_is_whole : ∀ base : Heap, Has l.prog w K mg base "is_whole" P_is_whole _ _ := fun base => ⟨⟨_, _, PySem.W.mg_of X G a0, k0, b_is_whole, ok_is_whole T F_is_whole⟩⟩
  have F_asked_base := fun_mk (st := s_asked_base) l1 c1 k1
  have b_asked_base := F_asked_base.binds (ps := P_asked_base) fun _ _ _ _ _ _ us hl => match us, hl with | [_], _ => rfl
  have H_asked_base : ∀ base : Heap, Has l.prog w K mg base "asked_base" P_asked_base _ _ := fun base => ⟨⟨_, _, PySem.W.mg_of X G a1, k1, b_asked_base, ok_asked_base F_asked_base (H_is_whole base)⟩⟩
  have F_asked_number := fun_mk (st := s_asked_number) l2 c2 k2
  have b_asked_number := F_asked_number.binds (ps := P_asked_number) fun _ _ _ _ _ _ us hl => match us, hl with | [_], _ => rfl
  have H_asked_number : ∀ base : Heap, Has l.prog w K mg base "asked_number" P_asked_number _ _ := fun base => ⟨⟨_, _, PySem.W.mg_of X G a2, k2, b_asked_number, ok_asked_number F_asked_number (H_is_whole base)⟩⟩
  have F_asked_side := fun_mk (st := s_asked_side) l3 c3 k3
  have b_asked_side := F_asked_side.binds (ps := P_asked_side) fun _ _ _ _ _ _ us hl => match us, hl with | [_], _ => rfl
  have H_asked_side : ∀ base : Heap, Has l.prog w K mg base "asked_side" P_asked_side _ _ := fun base => ⟨⟨_, _, PySem.W.mg_of X G a3, k3, b_asked_side, ok_asked_side T S F_asked_side⟩⟩
  have F_figures_of := fun_mk (st := s_figures_of) l4 c4 k4
  have b_figures_of := F_figures_of.binds (ps := P_figures_of) fun _ _ _ _ _ _ us hl => match us, hl with | [_, _], _ => rfl
  have H_figures_of : ∀ base : Heap, Has l.prog w K mg base "figures_of" P_figures_of _ _ := fun base => ⟨⟨_, _, PySem.W.mg_of X G a4, k4, b_figures_of, ok_figures_of F_figures_of⟩⟩
  have F_figures := fun_mk (st := s_figures) l5 c5 k5
  have b_figures := F_figures.binds (ps := P_figures) fun _ _ _ _ _ _ us hl => match us, hl with | [_, _], _ => rfl
  have H_figures : ∀ base : Heap, Has l.prog w K mg base "figures" P_figures _ _ := fun base => ⟨⟨_, _, PySem.W.mg_of X G a5, k5, b_figures, ok_figures F_figures (H_asked_base base) (H_asked_number base) (H_figures_of base)⟩⟩
  have F_worth := fun_mk (st := s_worth) l6 c6 k6
  have b_worth := F_worth.binds (ps := P_worth) fun _ _ _ _ _ _ us hl => match us, hl with | [_, _], _ => rfl
  have H_worth : ∀ base : Heap, Has l.prog w K mg base "worth" P_worth _ _ := fun base => ⟨⟨_, _, PySem.W.mg_of X G a6, k6, b_worth, ok_worth F_worth⟩⟩
  have F_number_of := fun_mk (st := s_number_of) l7 c7 k7
  have b_number_of := F_number_of.binds (ps := P_number_of) fun _ _ _ _ _ _ us hl => match us, hl with | [_, _], _ => rfl
  have H_number_of : ∀ base : Heap, Has l.prog w K mg base "number_of" P_number_of _ _ := fun base => ⟨⟨_, _, PySem.W.mg_of X G a7, k7, b_number_of, ok_number_of T F_number_of (H_asked_base base) (H_is_whole base) (H_worth base)⟩⟩
  have F_moved_of := fun_mk (st := s_moved_of) l8 c8 k8
  have b_moved_of := F_moved_of.binds (ps := P_moved_of) fun _ _ _ _ _ _ us hl => match us, hl with | [_, _, _], _ => rfl
  have H_moved_of : ∀ base : Heap, Has l.prog w K mg base "moved_of" P_moved_of _ _ := fun base => ⟨⟨_, _, PySem.W.mg_of X G a8, k8, b_moved_of, ok_moved_of F_moved_of (H_figures_of base) (H_worth base)⟩⟩
  have F_moved := fun_mk (st := s_moved) l9 c9 k9
  have b_moved := F_moved.binds (ps := P_moved) fun _ _ _ _ _ _ us hl => match us, hl with | [_, _, _], _ => rfl
  have H_moved : ∀ base : Heap, Has l.prog w K mg base "moved" P_moved _ _ := fun base => ⟨⟨_, _, PySem.W.mg_of X G a9, k9, b_moved, ok_moved F_moved (H_asked_base base) (H_asked_number base) (H_asked_side base) (H_moved_of base)⟩⟩
  have F_common := fun_mk (st := s_common) l10 c10 k10
  have b_common := F_common.binds (ps := P_common) fun _ _ _ _ _ _ us hl => match us, hl with | [_, _], _ => rfl
  have H_common : ∀ base : Heap, Has l.prog w K mg base "common" P_common _ _ := fun base => ⟨⟨_, _, PySem.W.mg_of X G a10, k10, b_common, ok_common F_common⟩⟩
  have F_often_back := fun_mk (st := s_often_back) l11 c11 k11
  have b_often_back := F_often_back.binds (ps := P_often_back) fun _ _ _ _ _ _ us hl => match us, hl with | [_, _], _ => rfl
  have H_often_back : ∀ base : Heap, Has l.prog w K mg base "often_back" P_often_back _ _ := fun base => ⟨⟨_, _, PySem.W.mg_of X G a11, k11, b_often_back, ok_often_back F_often_back (H_common base)⟩⟩
  have F_length_of := fun_mk (st := s_length_of) l12 c12 k12
  have b_length_of := F_length_of.binds (ps := P_length_of) fun _ _ _ _ _ _ us hl => match us, hl with | [_, _, _, _], _ => rfl
  have H_length_of : ∀ base : Heap, Has l.prog w K mg base "length_of" P_length_of _ _ := fun base => ⟨⟨_, _, PySem.W.mg_of X G a12, k12, b_length_of, ok_length_of F_length_of (H_common base) (H_often_back base)⟩⟩
  have F_asked_factor := fun_mk (st := s_asked_factor) l16 c16 k16
  have b_asked_factor := F_asked_factor.binds (ps := P_asked_factor) fun _ _ _ _ _ _ us hl => match us, hl with | [_, _], _ => rfl
  have H_asked_factor : ∀ base : Heap, Has l.prog w K mg base "asked_factor" P_asked_factor _ _ := fun base => ⟨⟨_, _, PySem.W.mg_of X G a16, k16, b_asked_factor, ok_asked_factor F_asked_factor (H_is_whole base)⟩⟩
  have F_asked_figure := fun_mk (st := s_asked_figure) l17 c17 k17
  have b_asked_figure := F_asked_figure.binds (ps := P_asked_figure) fun _ _ _ _ _ _ us hl => match us, hl with | [_, _], _ => rfl
  have H_asked_figure : ∀ base : Heap, Has l.prog w K mg base "asked_figure" P_asked_figure _ _ := fun base => ⟨⟨_, _, PySem.W.mg_of X G a17, k17, b_asked_figure, ok_asked_figure F_asked_figure (H_is_whole base)⟩⟩
  have F_least_many := fun_mk (st := s_least_many) l20 c20 k20
  have b_least_many := F_least_many.binds (ps := P_least_many) fun _ _ _ _ _ _ us hl => match us, hl with | [_, _, _, _], _ => rfl
  have H_least_many : ∀ base : Heap, Has l.prog w K mg base "least_many" P_least_many _ _ := fun base => ⟨⟨_, _, PySem.W.mg_of X G a20, k20, b_least_many, ok_least_many F_least_many (H_asked_base base) (H_asked_factor base) (H_asked_side base) (H_asked_figure base) (H_length_of base)⟩⟩
  have F_power := fun_mk (st := s_power) l19 c19 k19
  have b_power := F_power.binds (ps := P_power) fun _ _ _ _ _ _ us hl => match us, hl with | [_, _], _ => rfl
  have H_power : ∀ base : Heap, Has l.prog w K mg base "power" P_power _ _ := fun base => ⟨⟨_, _, PySem.W.mg_of X G a19, k19, b_power, ok_power F_power⟩⟩
  have F_turned_one := fun_mk (st := s_turned_one) l18 c18 k18
  have b_turned_one := F_turned_one.binds (ps := P_turned_one) fun _ _ _ _ _ _ us hl => match us, hl with | [_, _, _, _, _], _ => rfl
  have H_turned_one : ∀ base : Heap, Has l.prog w K mg base "turned_one" P_turned_one _ _ := fun base => ⟨⟨_, _, PySem.W.mg_of X G a18, k18, b_turned_one, ok_turned_one F_turned_one (H_power base)⟩⟩
  have F_all_of := fun_mk (st := s_all_of) l21 c21 k21
  have b_all_of := F_all_of.binds (ps := P_all_of) fun _ _ _ _ _ _ us hl => match us, hl with | [_, _, _, _], _ => rfl
  have H_all_of : ∀ base : Heap, Has l.prog w K mg base "all_of" P_all_of _ _ := fun base => ⟨⟨_, _, PySem.W.mg_of X G a21, k21, b_all_of, ok_all_of T M F_all_of (H_is_whole base) (H_asked_base base) (H_asked_factor base) (H_asked_side base) (H_length_of base) (H_turned_one base)⟩⟩
  have F_share := fun_mk (st := s_share) l23 c23 k23
  have b_share := F_share.binds (ps := P_share) fun _ _ _ _ _ _ us hl => match us, hl with | [_, _, _], _ => rfl
  have H_share : ∀ base : Heap, Has l.prog w K mg base "share" P_share _ _ := fun base => ⟨⟨_, _, PySem.W.mg_of X G a23, k23, b_share, ok_share F_share (H_asked_base base) (H_asked_factor base) (H_asked_figure base) (H_common base)⟩⟩
  have F_Turns___init__ := fun_mk (st := s_Turns___init__) l13 c13 k13
  have b_Turns___init__ := F_Turns___init__.binds (ps := P_Turns___init__) fun _ _ _ _ _ _ us hl => match us, hl with | [_, _], _ => rfl
  have H_Turns___init__ : ∀ base : Heap, HasMk l.prog w K mg base "Turns" CT P_Turns___init__ _ _ := fun base => ⟨⟨_, _, ⟨mkT, a13, i13, kcT⟩, b_Turns___init__, ok_Turns___init__ F_Turns___init__ KT NT⟩, KT.g⟩
  have F_Turns_shows := fun_mk (st := s_Turns_shows) l14 c14 k14
  have b_Turns_shows := F_Turns_shows.binds (ps := P_Turns_shows) fun _ _ _ _ _ _ us hl => match us, hl with | [_, _, _, _], _ => rfl
  have H_Turns_shows : ∀ base : Heap, HasM l.prog w K mg base CT "shows" P_Turns_shows _ _ := fun base => ⟨⟨_, _, ⟨a14, i14, k14⟩, b_Turns_shows, ok_Turns_shows F_Turns_shows KT NT (H_moved_of base)⟩, KT.cl⟩
  have F_Never_shows := fun_mk (st := s_Never_shows) l15 c15 k15
  have b_Never_shows := F_Never_shows.binds (ps := P_Never_shows) fun _ _ _ _ _ _ us hl => match us, hl with | [_, _, _, _], _ => rfl
  have H_Never_shows : ∀ base : Heap, HasM l.prog w K mg base CN "shows" P_Never_shows _ _ := fun base => ⟨⟨_, _, ⟨a15, i15, k15⟩, b_Never_shows, ok_Never_shows T F_Never_shows (H_length_of base)⟩, KN.cl⟩
  have F_least := fun_mk (st := s_least) l22 c22 k22
  have b_least := F_least.binds (ps := P_least) fun _ _ _ _ _ _ us hl => match us, hl with | [_, _, _], _ => rfl
  have H_least : ∀ base : Heap, Has l.prog w K mg base "least" P_least _ _ := fun base => ⟨⟨_, _, PySem.W.mg_of X G a22, k22, b_least, ok_least T F_least KN BN (H_Turns___init__ base) (H_asked_base base) (H_asked_factor base) (H_asked_side base) (H_length_of base) (H_turned_one base)⟩⟩
  have HX_asked_base : ∀ base : Heap, HasX l.prog w K mg base "asked_base" P_asked_base _ _ := fun base => ⟨⟨_, _, PySem.W.mg_of X G a1, k1, b_asked_base, okx_asked_base F_asked_base XC (H_is_whole base)⟩⟩
  have HX_asked_number : ∀ base : Heap, HasX l.prog w K mg base "asked_number" P_asked_number _ _ := fun base => ⟨⟨_, _, PySem.W.mg_of X G a2, k2, b_asked_number, okx_asked_number F_asked_number XC (H_is_whole base)⟩⟩
  have HX_asked_side : ∀ base : Heap, HasX l.prog w K mg base "asked_side" P_asked_side _ _ := fun base => ⟨⟨_, _, PySem.W.mg_of X G a3, k3, b_asked_side, okx_asked_side T S F_asked_side XC⟩⟩
  have HX_asked_factor : ∀ base : Heap, HasX l.prog w K mg base "asked_factor" P_asked_factor _ _ := fun base => ⟨⟨_, _, PySem.W.mg_of X G a16, k16, b_asked_factor, okx_asked_factor F_asked_factor XC (H_is_whole base)⟩⟩
  have HX_asked_figure : ∀ base : Heap, HasX l.prog w K mg base "asked_figure" P_asked_figure _ _ := fun base => ⟨⟨_, _, PySem.W.mg_of X G a17, k17, b_asked_figure, okx_asked_figure F_asked_figure XC (H_is_whole base)⟩⟩
  have HX_figures : ∀ base : Heap, HasX l.prog w K mg base "figures" P_figures _ _ := fun base => ⟨⟨_, _, PySem.W.mg_of X G a5, k5, b_figures, okx_figures F_figures (H_asked_base base) (HX_asked_base base) (H_asked_number base) (HX_asked_number base)⟩⟩
  have HX_moved : ∀ base : Heap, HasX l.prog w K mg base "moved" P_moved _ _ := fun base => ⟨⟨_, _, PySem.W.mg_of X G a9, k9, b_moved, okx_moved F_moved (H_asked_base base) (HX_asked_base base) (H_asked_number base) (HX_asked_number base) (H_asked_side base) (HX_asked_side base)⟩⟩
  have HX_least_many : ∀ base : Heap, HasX l.prog w K mg base "least_many" P_least_many _ _ := fun base => ⟨⟨_, _, PySem.W.mg_of X G a20, k20, b_least_many, okx_least_many F_least_many (H_asked_base base) (HX_asked_base base) (H_asked_factor base) (HX_asked_factor base) (H_asked_side base) (HX_asked_side base) (H_asked_figure base) (HX_asked_figure base)⟩⟩
  have HX_least : ∀ base : Heap, HasX l.prog w K mg base "least" P_least _ _ := fun base => ⟨⟨_, _, PySem.W.mg_of X G a22, k22, b_least, okx_least F_least (H_asked_base base) (HX_asked_base base) (H_asked_factor base) (HX_asked_factor base) (H_asked_side base) (HX_asked_side base)⟩⟩
  have HX_share : ∀ base : Heap, HasX l.prog w K mg base "share" P_share _ _ := fun base => ⟨⟨_, _, PySem.W.mg_of X G a23, k23, b_share, okx_share XC F_share (H_asked_base base) (HX_asked_base base) (H_asked_factor base) (HX_asked_factor base) (H_asked_figure base) (HX_asked_figure base)⟩⟩
  have HX_all_of : ∀ base : Heap, HasX l.prog w K mg base "all_of" P_all_of _ _ := fun base => ⟨⟨_, _, PySem.W.mg_of X G a21, k21, b_all_of, okx_all_of M XC (H_is_whole base) F_all_of (H_asked_base base) (HX_asked_base base) (H_asked_factor base) (HX_asked_factor base) (H_asked_side base) (HX_asked_side base)⟩⟩
  have HX_number_of : ∀ base : Heap, HasX l.prog w K mg base "number_of" P_number_of _ _ := fun base => ⟨⟨_, _, PySem.W.mg_of X G a7, k7, b_number_of, okx_number_of T XC F_number_of (H_is_whole base) (H_asked_base base) (HX_asked_base base)⟩⟩
  have F__law_says := fun_mk (st := s__law_says) l25 c25 k25
  have b__law_says := F__law_says.binds (ps := P__law_says) fun _ _ _ _ _ _ us hl => match us, hl with | [_, _], _ => rfl
  have H__law_says : ∀ base : Heap, Has l.prog w K mg base "_law_says" P__law_says _ _ := fun base => ⟨⟨_, _, PySem.W.mg_of X G a25, k25, b__law_says, ok__law_says T F__law_says⟩⟩
  have F__law_refused := fun_mk (st := s__law_refused) l24 c24 k24
  have b__law_refused := F__law_refused.binds (ps := P__law_refused) fun _ _ _ _ _ _ us hl => match us, hl with | [_, _, _], _ => rfl
  have H__law_refused : ∀ base : Heap, Has l.prog w K mg base "_law_refused" P__law_refused _ _ := fun base => ⟨⟨_, _, PySem.W.mg_of X G a24, k24, b__law_refused, ok__law_refused T F__law_refused XC⟩⟩
  have F__law_known := fun_mk (st := s__law_known) l26 c26 k26
  have b__law_known := F__law_known.binds (ps := P__law_known) fun _ _ _ _ _ _ us hl => match us, hl with | [], _ => rfl
  have H__law_known : ∀ base : Heap, Has l.prog w K mg base "_law_known" P__law_known _ _ := fun base => ⟨⟨_, _, PySem.W.mg_of X G a26, k26, b__law_known, ok__law_known F__law_known⟩⟩
  have F__law_front_right := fun_mk (st := s__law_front_right) l27 c27 k27
  have b__law_front_right := F__law_front_right.binds (ps := P__law_front_right) fun _ _ _ _ _ _ us hl => match us, hl with | [_], _ => rfl
  have H__law_front_right : ∀ base : Heap, Has l.prog w K mg base "_law_front_right" P__law_front_right _ _ := fun base => ⟨⟨_, _, PySem.W.mg_of X G a27, k27, b__law_front_right, ok__law_front_right T F__law_front_right KT KN NT BN Z (H__law_known base) (H_figures base) (H_least base) (H_moved base) (H_number_of base) (H_all_of base) (H__law_says base) (H_Turns___init__ base) (H_Turns_shows base) (H_Never_shows base) (H_share base) (H_least_many base)⟩⟩
  have F__law_behind_right := fun_mk (st := s__law_behind_right) l28 c28 k28
  have b__law_behind_right := F__law_behind_right.binds (ps := P__law_behind_right) fun _ _ _ _ _ _ us hl => match us, hl with | [], _ => rfl
  have H__law_behind_right : ∀ base : Heap, Has l.prog w K mg base "_law_behind_right" P__law_behind_right _ _ := fun base => ⟨⟨_, _, PySem.W.mg_of X G a28, k28, b__law_behind_right, ok__law_behind_right T F__law_behind_right KT KN NT Z (H_least base) (H_all_of base) (H_Turns_shows base) (H_Never_shows base) (H_share base) (H_least_many base)⟩⟩
  have F__law_bad_right := fun_mk (st := s__law_bad_right) l29 c29 k29
  have b__law_bad_right := F__law_bad_right.binds (ps := P__law_bad_right) fun _ _ _ _ _ _ us hl => match us, hl with | [_], _ => rfl
  have H__law_bad_right : ∀ base : Heap, (∀ p ∈ [(cB, PB)], LamX.TabB base mg p.1 p.2) → Has l.prog w K mg base "_law_bad_right" P__law_bad_right _ (spBad K [(PB, ("_law_bad_right" : Str) ++ ".<locals>." ++ "<lambda>")]) := fun base tB => ⟨⟨_, _, PySem.W.mg_of X G a29, k29, b__law_bad_right, ok__law_bad_right T F__law_bad_right (PySem.W.law_code X G tbB (PySem.W.mg_of X G a29) (X _ _ l29) rfl) (tB _ (.head _)) (.head _) tt1 (H__law_refused base) (H__law_known base) (H_figures base) (H_number_of base) (HX_number_of base) (HX_least_many base) (HX_all_of base) (HX_least base) (HX_moved base)⟩⟩
  have F_law := fun_mk (st := s_law) l30 c30 k30
  exact ⟨PySem.W.fnOf "law" "law" (defArgs s_law) (defBody s_law) (defScope s_law) .none kV30 dc30 pm30 an30 cd30 ct30, [(cB, PB)], spLaw K [(PB, ("_law_bad_right" : Str) ++ ".<locals>." ++ "<lambda>")], ever1 TeB, ever1 tnB, ever1 TcB, fun s v => .of_eq rfl, fun H a ns hl hb hH hS => ⟨a, ns, rfl, hS, hl, tabs1 hH, fun _ => rfl⟩, fun base _ _ tB => ok_law T F_law (H__law_front_right base) (H__law_behind_right base) (H__law_bad_right base tB)⟩
end Tf
open PySem PySem.W PyProof.Rows
set_option maxRecDepth 100000 in
set_option maxHeartbeats 0 in
theorem PySem.Challenge.cw_turnfigures_k08_whole_known_holds : PySem.Challenge.rw_turnfigures_k08_whole_known.Holds := by
  w_on; o_law; k_head; (case hw => w_witness2)
  k_fill
  refine Tf.walk_tabs (l := PySem.Challenge.rw_turnfigures_k08_whole_known) (n := 63) (k := 7) (x := "_law_script") (CX := fun _ => L2.CX0) rfl (by decide) rfl ⟨rfl, by decide, by decide⟩ (fun w h Y => PySem.W.km_in_of Y) ?F (fun _ _ _ _ _ h => h)
  case F =>
    intro w mg fa h _ KX G hmg TK
    refine' Tf.all_mk KX G hmg TK ?xg0 ?xg1 ?xg2 ?xg3 ?xg4 ?xg5 ?xg6 ?xgE ?gCA ?gCT ?gCN ?a0 ?l0 ?c0 ?k0 ?a1 ?l1 ?c1 ?k1 ?a2 ?l2 ?c2 ?k2 ?a3 ?l3 ?c3 ?k3 ?a4 ?l4 ?c4 ?k4 ?a5 ?l5 ?c5 ?k5 ?a6 ?l6 ?c6 ?k6 ?a7 ?l7 ?c7 ?k7 ?a8 ?l8 ?c8 ?k8 ?a9 ?l9 ?c9 ?k9 ?a10 ?l10 ?c10 ?k10 ?a11 ?l11 ?c11 ?k11 ?a12 ?l12 ?c12 ?k12 ?a13 ?i13 ?l13 ?c13 ?k13 ?a14 ?i14 ?l14 ?c14 ?k14 ?a15 ?i15 ?l15 ?c15 ?k15 ?a16 ?l16 ?c16 ?k16 ?a17 ?l17 ?c17 ?k17 ?a18 ?l18 ?c18 ?k18 ?a19 ?l19 ?c19 ?k19 ?a20 ?l20 ?c20 ?k20 ?a21 ?l21 ?c21 ?k21 ?a22 ?l22 ?c22 ?k22 ?a23 ?l23 ?c23 ?k23 ?a24 ?l24 ?c24 ?k24 ?a25 ?l25 ?c25 ?k25 ?a26 ?l26 ?c26 ?k26 ?a27 ?l27 ?c27 ?k27 ?a28 ?l28 ?c28 ?k28 ?a29 ?l29 ?c29 ?k29 ?a30 ?l30 ?c30 ?k30 ?z0 ?z1 ?z2 ?z3 ?z4 ?z5 ?z6 ?z7 ?z8 ?z9 ?z10 ?z11 ?z12 ?gS ?lS ?gM ?xx0 ?xk0 ?xt0 ?xi0 ?xa0 ?xb0 ?xs0 ?xd0 ?xc0 ?xm0 ?xe0 ?xv0 ?x00 ?x01 ?x02 ?x03 ?x04 ?x05 ?x06 ?xx1 ?xk1 ?xt1 ?xi1 ?xa1 ?xb1 ?xs1 ?xd1 ?xc1 ?xm1 ?xe1 ?xv1 ?x10 ?x11 ?x12 ?x13 ?x14 ?x15 ?x16 ?xx2 ?xk2 ?xt2 ?xi2 ?xa2 ?xb2 ?xs2 ?xd2 ?xc2 ?xm2 ?xe2 ?xv2 ?x20 ?x21 ?x22 ?x23 ?x24 ?x25 ?x26 ?xx3 ?xk3 ?xt3 ?xi3 ?xa3 ?xb3 ?xs3 ?xd3 ?xc3 ?xm3 ?xe3 ?xv3 ?x30 ?x31 ?x32 ?x33 ?x34 ?x35 ?x36 ?xx4 ?xk4 ?xt4 ?xi4 ?xa4 ?xb4 ?xs4 ?xd4 ?xc4 ?xm4 ?xe4 ?xv4 ?x40 ?x41 ?x42 ?x43 ?x44 ?x45 ?x46 ?xx5 ?xk5 ?xt5 ?xi5 ?xa5 ?xb5 ?xs5 ?xd5 ?xc5 ?xm5 ?xe5 ?xv5 ?x50 ?x51 ?x52 ?x53 ?x54 ?x55 ?x56 ?xx6 ?xk6 ?xt6 ?xi6 ?xa6 ?xb6 ?xs6 ?xd6 ?xc6 ?xm6 ?xe6 ?xv6 ?x60 ?x61 ?x62 ?x63 ?x64 ?x65 ?x66 ?xsE ?xdE ?xtE ?xnO ?xtO ?tcB ?tlB ?tpB ?tnB ?trB ?pgA ?hdA ?poA ?saA ?haA ?hmA ?mkA ?kcA ?pgT ?hdT ?poT ?saT ?haT ?hmT ?mkT ?kcT ?pgN ?hdN ?poN ?saN ?haN ?hmN ?mkN ?kcN ?hnO ?htO ?nuT ?inN ?isA ?isT ?isN ?tyA ?tyT ?tyN ?z_ta ?z_na ?z_tt ?z_tn ?z_nt ?z_nn
    (case xg0 => k_is)
    (case xg1 => k_is)
    (case xg2 => k_is)
    (case xg3 => k_is)
    (case xg4 => k_is)
    (case xg5 => k_is)
    (case xg6 => k_is)
    (case xgE => k_is)
    (case gCA => k_is)
    (case gCT => k_is)
    (case gCN => k_is)
    (case a0 => k_is)
    (case l0 => k_is)
    (case c0 => k_is)
    (case k0 => k_is)
    (case a1 => k_is)
    (case l1 => k_is)
    (case c1 => k_is)
    (case k1 => k_is)
    (case a2 => k_is)
    (case l2 => k_is)
    (case c2 => k_is)
    (case k2 => k_is)
    (case a3 => k_is)
    (case l3 => k_is)
    (case c3 => k_is)
    (case k3 => k_is)
    (case a4 => k_is)
    (case l4 => k_is)
    (case c4 => k_is)
    (case k4 => k_is)
    (case a5 => k_is)
    (case l5 => k_is)
    (case c5 => k_is)
    (case k5 => k_is)
    (case a6 => k_is)
    (case l6 => k_is)
    (case c6 => k_is)
    (case k6 => k_is)
    (case a7 => k_is)
    (case l7 => k_is)
    (case c7 => k_is)
    (case k7 => k_is)
    (case a8 => k_is)
    (case l8 => k_is)
    (case c8 => k_is)
    (case k8 => k_is)
    (case a9 => k_is)
    (case l9 => k_is)
    (case c9 => k_is)
    (case k9 => k_is)
    (case a10 => k_is)
    (case l10 => k_is)
    (case c10 => k_is)
    (case k10 => k_is)
    (case a11 => k_is)
    (case l11 => k_is)
    (case c11 => k_is)
    (case k11 => k_is)
    (case a12 => k_is)
    (case l12 => k_is)
    (case c12 => k_is)
    (case k12 => k_is)
    (case a13 => k_is)
    (case i13 => k_is)
    (case l13 => k_is)
    (case c13 => k_is)
    (case k13 => k_is)
    (case a14 => k_is)
    (case i14 => k_is)
    (case l14 => k_is)
    (case c14 => k_is)
    (case k14 => k_is)
    (case a15 => k_is)
    (case i15 => k_is)
    (case l15 => k_is)
    (case c15 => k_is)
    (case k15 => k_is)
    (case a16 => k_is)
    (case l16 => k_is)
    (case c16 => k_is)
    (case k16 => k_is)
    (case a17 => k_is)
    (case l17 => k_is)
    (case c17 => k_is)
    (case k17 => k_is)
    (case a18 => k_is)
    (case l18 => k_is)
    (case c18 => k_is)
    (case k18 => k_is)
    (case a19 => k_is)
    (case l19 => k_is)
    (case c19 => k_is)
    (case k19 => k_is)
    (case a20 => k_is)
    (case l20 => k_is)
    (case c20 => k_is)
    (case k20 => k_is)
    (case a21 => k_is)
    (case l21 => k_is)
    (case c21 => k_is)
    (case k21 => k_is)
    (case a22 => k_is)
    (case l22 => k_is)
    (case c22 => k_is)
    (case k22 => k_is)
    (case a23 => k_is)
    (case l23 => k_is)
    (case c23 => k_is)
    (case k23 => k_is)
    (case a24 => k_is)
    (case l24 => k_is)
    (case c24 => k_is)
    (case k24 => k_is)
    (case a25 => k_is)
    (case l25 => k_is)
    (case c25 => k_is)
    (case k25 => k_is)
    (case a26 => k_is)
    (case l26 => k_is)
    (case c26 => k_is)
    (case k26 => k_is)
    (case a27 => k_is)
    (case l27 => k_is)
    (case c27 => k_is)
    (case k27 => k_is)
    (case a28 => k_is)
    (case l28 => k_is)
    (case c28 => k_is)
    (case k28 => k_is)
    (case a29 => k_is)
    (case l29 => k_is)
    (case c29 => k_is)
    (case k29 => k_is)
    (case a30 => k_is)
    (case l30 => k_is)
    (case c30 => k_is)
    (case k30 => k_is)
    (case z0 => k_is)
    (case z1 => k_is)
    (case z2 => k_is)
    (case z3 => k_is)
    (case z4 => k_is)
    (case z5 => k_is)
    (case z6 => k_is)
    (case z7 => k_is)
    (case z8 => k_is)
    (case z9 => k_is)
    (case z10 => k_is)
    (case z11 => k_is)
    (case z12 => k_is)
    (case gS => k_is)
    (case lS => k_is)
    (case gM => k_is)
    (case xx0 => k_exc)
    (case xk0 => k_is)
    (case xt0 => k_is)
    (case xi0 => k_is)
    (case xa0 => k_is)
    (case xb0 => k_is)
    (case xs0 => k_is)
    (case xd0 => k_is)
    (case xc0 => k_is)
    (case xm0 => k_is)
    (case xe0 => k_is)
    (case xv0 => k_is)
    (case x00 => k_is)
    (case x01 => k_is)
    (case x02 => k_is)
    (case x03 => k_is)
    (case x04 => k_is)
    (case x05 => k_is)
    (case x06 => k_is)
    (case xx1 => k_exc)
    (case xk1 => k_is)
    (case xt1 => k_is)
    (case xi1 => k_is)
    (case xa1 => k_is)
    (case xb1 => k_is)
    (case xs1 => k_is)
    (case xd1 => k_is)
    (case xc1 => k_is)
    (case xm1 => k_is)
    (case xe1 => k_is)
    (case xv1 => k_is)
    (case x10 => k_is)
    (case x11 => k_is)
    (case x12 => k_is)
    (case x13 => k_is)
    (case x14 => k_is)
    (case x15 => k_is)
    (case x16 => k_is)
    (case xx2 => k_exc)
    (case xk2 => k_is)
    (case xt2 => k_is)
    (case xi2 => k_is)
    (case xa2 => k_is)
    (case xb2 => k_is)
    (case xs2 => k_is)
    (case xd2 => k_is)
    (case xc2 => k_is)
    (case xm2 => k_is)
    (case xe2 => k_is)
    (case xv2 => k_is)
    (case x20 => k_is)
    (case x21 => k_is)
    (case x22 => k_is)
    (case x23 => k_is)
    (case x24 => k_is)
    (case x25 => k_is)
    (case x26 => k_is)
    (case xx3 => k_exc)
    (case xk3 => k_is)
    (case xt3 => k_is)
    (case xi3 => k_is)
    (case xa3 => k_is)
    (case xb3 => k_is)
    (case xs3 => k_is)
    (case xd3 => k_is)
    (case xc3 => k_is)
    (case xm3 => k_is)
    (case xe3 => k_is)
    (case xv3 => k_is)
    (case x30 => k_is)
    (case x31 => k_is)
    (case x32 => k_is)
    (case x33 => k_is)
    (case x34 => k_is)
    (case x35 => k_is)
    (case x36 => k_is)
    (case xx4 => k_exc)
    (case xk4 => k_is)
    (case xt4 => k_is)
    (case xi4 => k_is)
    (case xa4 => k_is)
    (case xb4 => k_is)
    (case xs4 => k_is)
    (case xd4 => k_is)
    (case xc4 => k_is)
    (case xm4 => k_is)
    (case xe4 => k_is)
    (case xv4 => k_is)
    (case x40 => k_is)
    (case x41 => k_is)
    (case x42 => k_is)
    (case x43 => k_is)
    (case x44 => k_is)
    (case x45 => k_is)
    (case x46 => k_is)
    (case xx5 => k_exc)
    (case xk5 => k_is)
    (case xt5 => k_is)
    (case xi5 => k_is)
    (case xa5 => k_is)
    (case xb5 => k_is)
    (case xs5 => k_is)
    (case xd5 => k_is)
    (case xc5 => k_is)
    (case xm5 => k_is)
    (case xe5 => k_is)
    (case xv5 => k_is)
    (case x50 => k_is)
    (case x51 => k_is)
    (case x52 => k_is)
    (case x53 => k_is)
    (case x54 => k_is)
    (case x55 => k_is)
    (case x56 => k_is)
    (case xx6 => k_exc)
    (case xk6 => k_is)
    (case xt6 => k_is)
    (case xi6 => k_is)
    (case xa6 => k_is)
    (case xb6 => k_is)
    (case xs6 => k_is)
    (case xd6 => k_is)
    (case xc6 => k_is)
    (case xm6 => k_is)
    (case xe6 => k_is)
    (case xv6 => k_is)
    (case x60 => k_is)
    (case x61 => k_is)
    (case x62 => k_is)
    (case x63 => k_is)
    (case x64 => k_is)
    (case x65 => k_is)
    (case x66 => k_is)
    (case xsE => k_is)
    (case xdE => k_is)
    (case xtE => k_is)
    (case xnO => k_is)
    (case xtO => k_is)
    (case tcB => rfl)
    (case tlB => k_is)
    (case tpB => exact rfl)
    (case tnB => kernel_rfl)
    (case trB => decide +kernel)
    (case pgA => k_is)
    (case hdA => k_is)
    (case poA => k_is)
    (case saA => k_is)
    (case haA => k_is)
    (case hmA => k_is)
    (case mkA => k_is)
    (case kcA => k_is)
    (case pgT => k_is)
    (case hdT => k_is)
    (case poT => k_is)
    (case saT => k_is)
    (case haT => k_is)
    (case hmT => k_is)
    (case mkT => k_is)
    (case kcT => k_is)
    (case pgN => k_is)
    (case hdN => k_is)
    (case poN => k_is)
    (case saN => k_is)
    (case haN => k_is)
    (case hmN => k_is)
    (case mkN => k_is)
    (case kcN => k_is)
    (case hnO => k_is)
    (case htO => k_is)
    (case nuT => k_is)
    (case inN => k_is)
    (case isA => k_is)
    (case isT => k_is)
    (case isN => k_is)
    (case tyA => k_is)
    (case tyT => k_is)
    (case tyN => k_is)
    (case z_ta => k_is)
    (case z_na => k_is)
    (case z_tt => k_is)
    (case z_tn => k_is)
    (case z_nt => k_is)
    (case z_nn => k_is)
