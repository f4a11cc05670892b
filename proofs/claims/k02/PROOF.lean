import PyProof.Rows.All
import Wide.All
import OpenK.AllK
import Wide.FinOn
import HandS.ForMost
import HandS.Evl
import HandS.Wide
import HandS.Style
import HandS.IsInst
import HandS.SortInts
import PySem.Challenge.RW_turnfigures_k02_whole_lengths
set_option Elab.async false
set_option linter.all false
set_option maxRecDepth 100000
set_option maxHeartbeats 4000000

/-! # figures, plain -/
namespace Tf
def lowF (b : Nat) : Nat → Nat → List Nat
  | 0, _ => []
  | f + 1, n => if n = 0 then [] else n % b :: lowF b f (n / b)
/-- the figures, the least place first -/
def low (b n : Nat) : List Nat := lowF b n n
theorem div_lt {b n : Nat} (hb : 2 ≤ b) (hn : 0 < n) : n / b < n := Nat.div_lt_self hn hb
theorem lowF_eq {b : Nat} (hb : 2 ≤ b) : ∀ (f g n : Nat), n ≤ f → n ≤ g → lowF b f n = lowF b g n
  | 0, 0, _, _, _ => rfl
  | 0, g + 1, n, h, _ => by
    have e : n = 0 := by omega
    subst e
    rfl
  | f + 1, 0, n, _, h => by
    have e : n = 0 := by omega
    subst e
    rfl
  | f + 1, g + 1, n, h1, h2 => by
    unfold lowF
    by_cases e : n = 0
    · rw [if_pos e, if_pos e]
    · rw [if_neg e, if_neg e]
      have l := div_lt hb (Nat.pos_of_ne_zero e)
      rw [lowF_eq hb f g (n / b) (by omega) (by omega)]
theorem low_zero (b : Nat) : low b 0 = [] := rfl
theorem low_pos {b n : Nat} (hb : 2 ≤ b) (hn : 0 < n) : low b n = n % b :: low b (n / b) := by
  unfold low
  cases n with
  | zero => omega
  | succ k =>
    show (if k + 1 = 0 then [] else (k + 1) % b :: lowF b k ((k + 1) / b)) = _
    rw [if_neg (by omega)]
    have l := div_lt hb hn
    rw [lowF_eq hb k ((k + 1) / b) ((k + 1) / b) (by omega) (Nat.le_refl _)]
/-- the number of a row of figures -/
def wr (b : Nat) (ds : List Nat) : Nat := ds.foldl (fun a d => a * b + d) 0
theorem wr_fold (b : Nat) : ∀ (ds : List Nat) (a : Nat), ds.foldl (fun a d => a * b + d) a = a * b ^ ds.length + wr b ds
  | [], a => by simp [wr]
  | d :: ds, a => by
    rw [List.foldl_cons, wr_fold b ds (a * b + d)]
    show _ = a * b ^ (ds.length + 1) + (d :: ds).foldl (fun a d => a * b + d) 0
    rw [List.foldl_cons, wr_fold b ds (0 * b + d), Nat.pow_succ]
    have e : (a * b + d) * b ^ ds.length = a * (b ^ ds.length * b) + d * b ^ ds.length := by
      rw [Nat.add_mul, Nat.mul_assoc, Nat.mul_comm b (b ^ ds.length)]
    rw [e, Nat.zero_mul, Nat.zero_add]
    omega
theorem wr_nil (b : Nat) : wr b [] = 0 := rfl
theorem wr_cons (b d : Nat) (ds : List Nat) : wr b (d :: ds) = d * b ^ ds.length + wr b ds := by
  unfold wr
  rw [List.foldl_cons, wr_fold]
  simp [wr]
theorem wr_append (b : Nat) (xs ys : List Nat) : wr b (xs ++ ys) = wr b xs * b ^ ys.length + wr b ys := by
  unfold wr
  rw [List.foldl_append, wr_fold]
  rfl
theorem wr_snoc (b : Nat) (xs : List Nat) (d : Nat) : wr b (xs ++ [d]) = wr b xs * b + d := by
  unfold wr
  rw [List.foldl_append]
  rfl
theorem wr_take {b : Nat} {ds : List Nat} {i d : Nat} (h : ds[i]? = some d) : wr b (ds.take (i + 1)) = wr b (ds.take i) * b + d := by
  rw [List.take_add_one, h]
  exact wr_snoc b _ d
/-- the figures, the greatest place first -/
def figs (b n : Nat) : List Nat := (low b n).reverse
theorem figs_zero (b : Nat) : figs b 0 = [] := rfl
theorem figs_pos {b n : Nat} (hb : 2 ≤ b) (hn : 0 < n) : figs b n = figs b (n / b) ++ [n % b] := by
  unfold figs
  rw [low_pos hb hn, List.reverse_cons]
theorem wr_figs {b : Nat} (hb : 2 ≤ b) (n : Nat) : wr b (figs b n) = n := by
  induction n using Nat.strongRecOn with
  | _ n ih =>
    by_cases e : n = 0
    · subst e
      rfl
    · have hn := Nat.pos_of_ne_zero e
      rw [figs_pos hb hn, wr_snoc, ih _ (div_lt hb hn), Nat.mul_comm]
      exact Nat.div_add_mod n b
theorem figs_lt {b : Nat} (hb : 2 ≤ b) (n : Nat) : ∀ d ∈ figs b n, d < b := by
  induction n using Nat.strongRecOn with
  | _ n ih =>
    by_cases e : n = 0
    · subst e
      intro d hd
      cases hd
    · have hn := Nat.pos_of_ne_zero e
      rw [figs_pos hb hn]
      intro d hd
      rcases List.mem_append.mp hd with h | h
      · exact ih _ (div_lt hb hn) d h
      · have z : d = n % b := by simpa using h
        rw [z]
        exact Nat.mod_lt _ (by omega)
theorem figs_ne {b n : Nat} (hb : 2 ≤ b) (hn : 0 < n) : figs b n ≠ [] := by
  rw [figs_pos hb hn]
  simp
theorem figs_len_pos {b n : Nat} (hb : 2 ≤ b) (hn : 0 < n) : 0 < (figs b n).length := List.length_pos_iff.mpr (figs_ne hb hn)
theorem figs_head {b : Nat} (hb : 2 ≤ b) (n : Nat) : ∀ d, (figs b n)[0]? = some d → 0 < d := by
  induction n using Nat.strongRecOn with
  | _ n ih =>
    by_cases e : n = 0
    · subst e
      intro d hd
      cases hd
    · have hn := Nat.pos_of_ne_zero e
      intro d hd
      rw [figs_pos hb hn] at hd
      by_cases l : n / b = 0
      · rw [l, figs_zero] at hd
        have z : n % b = d := by simpa using hd
        have m := Nat.div_add_mod n b
        rw [l] at m
        omega
      · have lp := figs_len_pos (b := b) hb (Nat.pos_of_ne_zero l)
        rw [List.getElem?_append_left lp] at hd
        exact ih _ (div_lt hb hn) d hd
/-- a row of figures whose first one is above 0 is that of its number -/
theorem figs_wr {b : Nat} (hb : 2 ≤ b) : ∀ (k : Nat) (ds : List Nat), ds.length = k → (∀ d ∈ ds, d < b) → (∀ d, ds[0]? = some d → 0 < d) → figs b (wr b ds) = ds
  | 0, ds, hk, _, _ => by
    rw [List.length_eq_zero_iff.mp hk]
    rfl
  | k + 1, ds, hk, h1, h2 => by
    have hne : ds ≠ [] := fun e => by
      rw [e] at hk
      cases hk
    have hs := List.dropLast_concat_getLast hne
    have hlast : ds.getLast hne < b := h1 _ (List.getLast_mem hne)
    have hl : ds.dropLast.length = k := by
      rw [List.length_dropLast, hk]
      rfl
    have e : wr b ds = wr b ds.dropLast * b + ds.getLast hne := by
      conv => lhs; rw [← hs]
      exact wr_snoc b _ _
    have i1 : ∀ d ∈ ds.dropLast, d < b := fun d hd => h1 d (List.dropLast_subset _ hd)
    have i2 : ∀ d, ds.dropLast[0]? = some d → 0 < d := fun d hd => by
      refine h2 d ?_
      have l0 : 0 < ds.dropLast.length := (List.getElem?_eq_some_iff.mp hd).1
      rw [← hs, List.getElem?_append_left l0]
      exact hd
    have ih := figs_wr hb k ds.dropLast hl i1 i2
    have dv : wr b ds / b = wr b ds.dropLast := by
      rw [e, Nat.mul_comm, Nat.mul_add_div (by omega), Nat.div_eq_of_lt hlast, Nat.add_zero]
    have md : wr b ds % b = ds.getLast hne := by
      rw [e, Nat.mul_comm, Nat.mul_add_mod, Nat.mod_eq_of_lt hlast]
    have pos : 0 < wr b ds := by
      by_cases z : k = 0
      · subst z
        have z2 : ds.dropLast = [] := List.length_eq_zero_iff.mp hl
        rw [z2] at hs e
        have g : ds[0]? = some (ds.getLast hne) := (congrArg (fun l : List Nat => l[0]?) hs).symm
        have : 0 < ds.getLast hne := h2 _ g
        omega
      · have q : 0 < ds.dropLast.length := by omega
        have p0 : 0 < wr b ds.dropLast := by
          by_cases w : wr b ds.dropLast = 0
          · rw [w, figs_zero] at ih
            rw [← ih] at q
            cases q
          · exact Nat.pos_of_ne_zero w
        rw [e]
        have : b ≤ wr b ds.dropLast * b := Nat.le_mul_of_pos_left b p0
        omega
    rw [figs_pos hb pos, dv, md, ih]
    exact hs
theorem wr_lt {b : Nat} (hb : 2 ≤ b) : ∀ ds : List Nat, (∀ d ∈ ds, d < b) → wr b ds < b ^ ds.length
  | [], _ => by simp [wr_nil]
  | d :: ds, h => by
    rw [wr_cons, List.length_cons, Nat.pow_succ]
    have h1 := wr_lt hb ds fun x hx => h x (List.mem_cons_of_mem _ hx)
    have h2 : d + 1 ≤ b := h d List.mem_cons_self
    have h3 : (d + 1) * b ^ ds.length ≤ b * b ^ ds.length := Nat.mul_le_mul_right _ h2
    rw [Nat.add_mul, Nat.one_mul] at h3
    rw [Nat.mul_comm (b ^ ds.length) b]
    omega
/-- how many figures -/
theorem figs_len_le {b : Nat} (hb : 2 ≤ b) : ∀ (k n : Nat), n < b ^ k → (figs b n).length ≤ k
  | 0, n, h => by
    have e : n = 0 := by simpa using h
    subst e
    exact Nat.le_refl _
  | k + 1, n, h => by
    by_cases e : n = 0
    · subst e
      exact Nat.zero_le _
    · rw [figs_pos hb (Nat.pos_of_ne_zero e), List.length_append]
      have : n / b < b ^ k := by
        rw [Nat.div_lt_iff_lt_mul (by omega)]
        rw [Nat.pow_succ] at h
        exact h
      have := figs_len_le hb k (n / b) this
      show _ + 1 ≤ _
      omega
theorem figs_len_ge {b : Nat} (hb : 2 ≤ b) {k n : Nat} (h : b ^ k ≤ n) : k < (figs b n).length := by
  have h1 := wr_lt hb (figs b n) (figs_lt hb n)
  rw [wr_figs hb] at h1
  exact (Nat.pow_lt_pow_iff_right (by omega)).mp (Nat.lt_of_le_of_lt h h1)
theorem figs_len2 {b : Nat} (hb : 2 ≤ b) {k n : Nat} (h : n < 2 ^ k) : (figs b n).length ≤ k :=
  figs_len_le hb k n (Nat.lt_of_lt_of_le h (Nat.pow_le_pow_left hb k))
/-! ### a figure moved -/
def rotF (ds : List Nat) : List Nat := ds.drop (ds.length - 1) ++ ds.take (ds.length - 1)
def rotB (ds : List Nat) : List Nat := ds.drop 1 ++ ds.take 1
def rot (fr : Bool) (ds : List Nat) : List Nat := if fr then rotF ds else rotB ds
theorem rotB_rotF (ds : List Nat) : rotB (rotF ds) = ds := by
  unfold rotB rotF
  by_cases h : ds = []
  · subst h
    rfl
  · have l : 0 < ds.length := List.length_pos_iff.mpr h
    have e : (ds.drop (ds.length - 1)).length = 1 := by
      rw [List.length_drop]
      omega
    obtain ⟨x, hx⟩ := List.length_eq_one_iff.mp e
    have t := List.take_append_drop (ds.length - 1) ds
    rw [hx] at t
    rw [hx]
    exact t
theorem rotF_rotB (ds : List Nat) : rotF (rotB ds) = ds := by
  unfold rotB rotF
  by_cases h : ds = []
  · subst h
    rfl
  · have l : 0 < ds.length := List.length_pos_iff.mpr h
    have e1 : (ds.drop 1).length = ds.length - 1 := by rw [List.length_drop]
    have e2 : (ds.drop 1 ++ ds.take 1).length - 1 = (ds.drop 1).length := by
      rw [List.length_append, List.length_take, e1]
      omega
    rw [e2, List.drop_left, List.take_left]
    exact List.take_append_drop _ _
theorem rot_rot (fr : Bool) (ds : List Nat) : rot (!fr) (rot fr ds) = ds := by
  cases fr with
  | true => exact rotB_rotF ds
  | false => exact rotF_rotB ds
theorem rot_len (fr : Bool) (ds : List Nat) : (rot fr ds).length = ds.length := by
  cases fr with
  | true =>
    show (ds.drop (ds.length - 1) ++ ds.take (ds.length - 1)).length = _
    rw [List.length_append, List.length_drop, List.length_take]
    omega
  | false =>
    show (ds.drop 1 ++ ds.take 1).length = _
    rw [List.length_append, List.length_drop, List.length_take]
    omega
theorem rot_mem (fr : Bool) {ds : List Nat} {d : Nat} (h : d ∈ rot fr ds) : d ∈ ds := by
  cases fr with
  | true =>
    rcases List.mem_append.mp (show d ∈ ds.drop (ds.length - 1) ++ ds.take (ds.length - 1) from h) with h | h
    · exact List.mem_of_mem_drop h
    · exact List.mem_of_mem_take h
  | false =>
    rcases List.mem_append.mp (show d ∈ ds.drop 1 ++ ds.take 1 from h) with h | h
    · exact List.mem_of_mem_drop h
    · exact List.mem_of_mem_take h
/-- the number with a figure moved -/
def mv (b n : Nat) (fr : Bool) : Nat := wr b (rot fr (figs b n))
theorem mv_back {b : Nat} (hb : 2 ≤ b) (n : Nat) (fr : Bool) (h : ∀ d, (rot fr (figs b n))[0]? = some d → 0 < d) : mv b (mv b n fr) (!fr) = n := by
  unfold mv
  rw [figs_wr hb _ _ rfl (fun d hd => figs_lt hb n d (rot_mem fr hd)) h, rot_rot, wr_figs hb]
theorem mv_pos {b : Nat} (hb : 2 ≤ b) (n : Nat) (fr : Bool) (h : ∀ d, (rot fr (figs b n))[0]? = some d → 0 < d) (hn : 0 < n) : 0 < mv b n fr := by
  by_cases z : mv b n fr = 0
  · have e := mv_back hb n fr h
    rw [z] at e
    have : mv b 0 (!fr) = 0 := by cases fr <;> rfl
    omega
  · exact Nat.pos_of_ne_zero z
theorem mv_lt {b : Nat} (hb : 2 ≤ b) (n : Nat) (fr : Bool) : mv b n fr < b ^ (figs b n).length := by
  have h := wr_lt hb (rot fr (figs b n)) fun d hd => figs_lt hb n d (rot_mem fr hd)
  rw [rot_len] at h
  exact h
end Tf

/-! # lengths, plain -/
namespace Tf
/-! ### rests -/
theorem mod_one_iff {n x : Nat} (hx : 1 ≤ x) : x % n = 1 % n ↔ n ∣ x - 1 := by
  constructor
  · intro h
    exact Nat.dvd_of_mod_eq_zero (Nat.sub_mod_eq_zero_of_mod_eq h)
  · rintro ⟨c, hc⟩
    have e : x = 1 + n * c := by omega
    rw [e, Nat.add_mul_mod_self_left]
theorem mod_mul {a a' c c' n : Nat} (h1 : a % n = a' % n) (h2 : c % n = c' % n) : (a * c) % n = (a' * c') % n := by
  rw [Nat.mul_mod, h1, h2, ← Nat.mul_mod]
theorem mod_pow {a a' n : Nat} (k : Nat) (h : a % n = a' % n) : a ^ k % n = a' ^ k % n := by
  rw [Nat.pow_mod, h, ← Nat.pow_mod]
theorem one_pow_mod {a n : Nat} (k : Nat) (h : a % n = 1 % n) : a ^ k % n = 1 % n := by
  rw [mod_pow k h, Nat.one_pow]
theorem pow_pos1 {a : Nat} (ha : 1 ≤ a) (k : Nat) : 1 ≤ a ^ k := Nat.pow_pos ha
/-! ### as many drawers as things, and one thing more -/
theorem drawers : ∀ (n : Nat) (h : Nat → Nat), (∀ i, i ≤ n → h i < n) → ∃ i j, i < j ∧ j ≤ n ∧ h i = h j
  | 0, h, hh => absurd (hh 0 (Nat.le_refl _)) (Nat.not_lt_zero _)
  | n + 1, h, hh => by
    by_cases ex : ∃ i, i ≤ n ∧ h i = h (n + 1)
    · obtain ⟨i, hi, e⟩ := ex
      exact ⟨i, n + 1, by omega, Nat.le_refl _, e⟩
    · have ne : ∀ i, i ≤ n → h i ≠ h (n + 1) := fun i hi e => ex ⟨i, hi, e⟩
      have hv : h (n + 1) < n + 1 := hh (n + 1) (Nat.le_refl _)
      obtain ⟨i, j, hij, hj, e⟩ := drawers n (fun i => if h i = n then h (n + 1) else h i) (fun i hi => by
        have h1 := hh i (by omega)
        have h2 := ne i hi
        show (if h i = n then h (n + 1) else h i) < n
        split <;> omega)
      refine ⟨i, j, hij, by omega, ?_⟩
      have e' : (if h i = n then h (n + 1) else h i) = (if h j = n then h (n + 1) else h j) := e
      have n1 := ne i (by omega)
      have n2 := ne j hj
      split at e' <;> split at e' <;> omega
theorem ord_ex {g n : Nat} (hg : 1 ≤ g) (hn : 1 ≤ n) (hc : Nat.Coprime g n) : ∃ k, 1 ≤ k ∧ k ≤ n ∧ g ^ k % n = 1 % n := by
  obtain ⟨i, j, hij, hj, e⟩ := drawers n (fun i => g ^ i % n) (fun i _ => Nat.mod_lt _ hn)
  refine ⟨j - i, by omega, by omega, ?_⟩
  rw [mod_one_iff (pow_pos1 hg _)]
  have d : n ∣ g ^ j - g ^ i := Nat.dvd_of_mod_eq_zero (Nat.sub_mod_eq_zero_of_mod_eq e.symm)
  have e2 : g ^ j - g ^ i = g ^ i * (g ^ (j - i) - 1) := by
    rw [Nat.mul_sub, ← Nat.pow_add, Nat.mul_one]
    congr 2
    omega
  rw [e2] at d
  exact (Nat.Coprime.pow_left i hc).symm.dvd_of_dvd_mul_left d
/-! ### how often till 1 is left -/
def seek (p : Nat → Bool) : Nat → Nat → Nat
  | 0, k => k
  | f + 1, k => if p k then k else seek p f (k + 1)
theorem seek_spec {p : Nat → Bool} : ∀ (f k m : Nat), k ≤ m → m ≤ k + f → p m = true → p (seek p f k) = true ∧ k ≤ seek p f k ∧ seek p f k ≤ m ∧ ∀ j, k ≤ j → j < seek p f k → p j = false
  | 0, k, m, h1, h2, hm => by
    have e : m = k := by omega
    subst e
    exact ⟨hm, Nat.le_refl _, Nat.le_refl _, fun j a b => by
      have b' : j < m := b
      omega⟩
  | f + 1, k, m, h1, h2, hm => by
    unfold seek
    by_cases hk : p k = true
    · rw [if_pos hk]
      exact ⟨hk, Nat.le_refl _, h1, fun j a b => by omega⟩
    · rw [if_neg hk]
      have hne : k ≠ m := fun e => hk (by rw [e]; exact hm)
      obtain ⟨a, b, c, d⟩ := seek_spec f (k + 1) m (by omega) (by omega) hm
      refine ⟨a, by omega, c, fun j x y => ?_⟩
      by_cases z : j = k
      · subst z
        exact Bool.eq_false_iff.mpr hk
      · exact d j (by omega) y
def ordN (g n : Nat) : Nat := seek (fun k => g ^ k % n == 1 % n) n 1
structure IsOrd (g n k : Nat) : Prop where
  pos : 1 ≤ k
  le : k ≤ n
  one : g ^ k % n = 1 % n
  least : ∀ j, 1 ≤ j → j < k → g ^ j % n ≠ 1 % n
theorem ordN_is {g n : Nat} (hg : 1 ≤ g) (hn : 1 ≤ n) (hc : Nat.Coprime g n) : IsOrd g n (ordN g n) := by
  obtain ⟨k, h1, h2, h3⟩ := ord_ex hg hn hc
  obtain ⟨a, b, c, d⟩ := seek_spec (p := fun k => g ^ k % n == 1 % n) n 1 k h1 (by omega) (by simpa using h3)
  refine ⟨b, Nat.le_trans c h2, by unfold ordN; simpa using a, fun j x y => ?_⟩
  have := d j x y
  simpa using this
theorem IsOrd.dvd {g n k : Nat} (o : IsOrd g n k) (m : Nat) : g ^ m % n = 1 % n ↔ k ∣ m := by
  have key : ∀ q r, g ^ (k * q + r) % n = g ^ r % n := fun q r => by
    rw [Nat.pow_add, Nat.pow_mul]
    have h1 : (g ^ k) ^ q % n = 1 % n := one_pow_mod q o.one
    have := mod_mul h1 (rfl : g ^ r % n = g ^ r % n)
    rw [Nat.one_mul] at this
    exact this
  constructor
  · intro h
    have e := Nat.div_add_mod m k
    rw [← e, key] at h
    by_cases z : m % k = 0
    · exact Nat.dvd_of_mod_eq_zero z
    · exact absurd h (o.least _ (by omega) (Nat.mod_lt _ o.pos))
  · rintro ⟨q, rfl⟩
    have := key q 0
    rw [Nat.add_zero, Nat.pow_zero] at this
    exact this
theorem IsOrd.uniq {g n k l : Nat} (a : IsOrd g n k) (c : IsOrd g n l) : k = l :=
  Nat.dvd_antisymm ((a.dvd l).mp c.one) ((c.dvd k).mp a.one)
/-! ### the rest by the greatest common one -/
def cut (n d : Nat) : Nat := n / Nat.gcd n d
theorem cut_pos {n d : Nat} (hn : 1 ≤ n) : 1 ≤ cut n d := Nat.div_pos (Nat.le_of_dvd hn (Nat.gcd_dvd_left _ _)) (Nat.gcd_pos_of_pos_left _ hn)
theorem cut_le (n d : Nat) : cut n d ≤ n := Nat.div_le_self _ _
theorem cut_dvd (n d : Nat) : cut n d ∣ n := ⟨Nat.gcd n d, (Nat.div_mul_cancel (Nat.gcd_dvd_left n d)).symm⟩
theorem cut_iff {n d : Nat} (hn : 1 ≤ n) (x : Nat) : n ∣ d * x ↔ cut n d ∣ x := by
  have hg : 0 < Nat.gcd n d := Nat.gcd_pos_of_pos_left _ hn
  have e1 : n / Nat.gcd n d * Nat.gcd n d = n := Nat.div_mul_cancel (Nat.gcd_dvd_left n d)
  have e2 : d / Nat.gcd n d * Nat.gcd n d = d := Nat.div_mul_cancel (Nat.gcd_dvd_right n d)
  have co : (n / Nat.gcd n d).Coprime (d / Nat.gcd n d) := Nat.coprime_div_gcd_div_gcd hg
  have e3 : d * x = d / Nat.gcd n d * x * Nat.gcd n d := by
    conv => lhs; rw [← e2]
    rw [Nat.mul_assoc, Nat.mul_assoc, Nat.mul_comm (Nat.gcd n d) x]
  have s : n ∣ d * x ↔ n / Nat.gcd n d ∣ d / Nat.gcd n d * x := by
    rw [e3]
    conv => lhs; lhs; rw [← e1]
    exact Nat.mul_dvd_mul_iff_right hg
  rw [s]
  exact ⟨fun h => co.dvd_of_dvd_mul_left h, fun h => Nat.dvd_mul_left_of_dvd h _⟩
/-! ### the length -/
def backOf (g n : Nat) : Option Nat := if Nat.gcd g n > 1 then none else some (ordN g n)
def lenOf (b f : Nat) (fr : Bool) (d : Nat) : Option Nat :=
  if fr then (if f ≤ d then backOf b (cut (f * b - 1) d) else none)
  else if (d + 1) * f ≤ b then backOf f (cut (b - f) d) else none
/-- bases, factors, figures -/
structure Bfd (b f d : Nat) : Prop where
  b3 : 3 ≤ b
  b36 : b ≤ 36
  f2 : 2 ≤ f
  fb : f < b
  d1 : 1 ≤ d
  db : d < b
theorem Bfd.n5 {b f d : Nat} (h : Bfd b f d) : 2 * b - 1 ≤ f * b - 1 := by
  have := Nat.mul_le_mul_right b h.f2
  omega
theorem Bfd.nle {b f d : Nat} (h : Bfd b f d) : f * b - 1 ≤ 1296 := by
  have := Nat.mul_le_mul (show f ≤ 36 by have := h.b36; have := h.fb; omega) h.b36
  omega
/-- the base and the factor undo each other -/
theorem inv_mod {b f d : Nat} (h : Bfd b f d) : (f * b) % cut (f * b - 1) d = 1 % cut (f * b - 1) d := by
  have n5 := h.n5
  have b3 := h.b3
  rw [mod_one_iff (by omega)]
  exact cut_dvd _ _
theorem co_front {b f d : Nat} (h : Bfd b f d) : Nat.Coprime b (cut (f * b - 1) d) := by
  have n5 := h.n5
  have b3 := h.b3
  have d1 : Nat.gcd b (cut (f * b - 1) d) ∣ f * b - 1 := Nat.dvd_trans (Nat.gcd_dvd_right _ _) (cut_dvd _ _)
  have d2 : Nat.gcd b (cut (f * b - 1) d) ∣ f * b := Nat.dvd_mul_left_of_dvd (Nat.gcd_dvd_left _ _) _
  have d3 := Nat.dvd_sub d2 d1
  have e : f * b - (f * b - 1) = 1 := by omega
  rw [e] at d3
  exact Nat.dvd_one.mp d3
theorem len_front {b f d : Nat} (h : Bfd b f d) (hd : f ≤ d) : ∃ k, lenOf b f true d = some k ∧ IsOrd b (cut (f * b - 1) d) k := by
  have co := co_front h
  have n5 := h.n5
  have b3 := h.b3
  refine ⟨ordN b (cut (f * b - 1) d), ?_, ordN_is (by omega) (cut_pos (by omega)) co⟩
  show (if f ≤ d then backOf b (cut (f * b - 1) d) else none) = _
  rw [if_pos hd]
  unfold backOf
  rw [co.gcd_eq_one, if_neg (by decide)]
theorem len_front_none {b f d : Nat} (hd : ¬ f ≤ d) : lenOf b f true d = none := if_neg hd
theorem len_behind {b f d k : Nat} (h : Bfd b f d) (e : lenOf b f false d = some k) : (d + 1) * f ≤ b ∧ IsOrd f (cut (b - f) d) k := by
  have e' : (if (d + 1) * f ≤ b then backOf f (cut (b - f) d) else none) = some k := e
  by_cases c : (d + 1) * f ≤ b
  · rw [if_pos c] at e'
    unfold backOf at e'
    by_cases g : Nat.gcd f (cut (b - f) d) > 1
    · rw [if_pos g] at e'
      cases e'
    · rw [if_neg g] at e'
      have ek := Option.some.inj e'
      have fb := h.fb
      have f2 := h.f2
      have gp : 0 < Nat.gcd f (cut (b - f) d) := Nat.gcd_pos_of_pos_left _ (by omega)
      subst ek
      exact ⟨c, ordN_is (by omega) (cut_pos (by omega)) (show Nat.gcd f (cut (b - f) d) = 1 by omega)⟩
  · rw [if_neg c] at e'
    cases e'
/-- where there is none: the figure is too great, or no power leaves 1 -/
theorem len_behind_none {b f d : Nat} (h : Bfd b f d) (e : lenOf b f false d = none) (m : Nat) (hm : 1 ≤ m) : ¬ ((d + 1) * f ≤ b ∧ f ^ m % cut (b - f) d = 1 % cut (b - f) d) := by
  rintro ⟨c, hp⟩
  have e' : (if (d + 1) * f ≤ b then backOf f (cut (b - f) d) else none) = none := e
  rw [if_pos c] at e'
  unfold backOf at e'
  have fb := h.fb
  have f2 := h.f2
  by_cases g : Nat.gcd f (cut (b - f) d) > 1
  · have q : Nat.gcd f (cut (b - f) d) ∣ f ^ m := by
      obtain ⟨j, rfl⟩ : ∃ j, m = j + 1 := ⟨m - 1, by omega⟩
      rw [Nat.pow_succ]
      exact Nat.dvd_mul_left_of_dvd (Nat.gcd_dvd_left _ _) _
    have r : cut (b - f) d ∣ f ^ m - 1 := (mod_one_iff (pow_pos1 (by omega) _)).mp hp
    have t := Nat.dvd_sub q (Nat.dvd_trans (Nat.gcd_dvd_right f (cut (b - f) d)) r)
    have pp := pow_pos1 (show 1 ≤ f by omega) m
    rw [show f ^ m - (f ^ m - 1) = 1 by omega] at t
    have := Nat.dvd_one.mp t
    omega
  · rw [if_neg g] at e'
    cases e'
/-! ### multiplied from the last figure on -/
/-- what stands behind k turns: the figure and, times the base, what is over -/
def fw (b f d k : Nat) : Nat := d * f ^ k % (f * b - 1)
theorem fw_zero {b f d : Nat} (h : Bfd b f d) : fw b f d 0 = d := by
  unfold fw
  rw [Nat.pow_zero, Nat.mul_one]
  have := h.n5
  have := h.db
  exact Nat.mod_eq_of_lt (by omega)
theorem co_f {b f : Nat} (hb : 3 ≤ b) (hf : 2 ≤ f) : Nat.Coprime f (f * b - 1) := by
  have n5 := Nat.mul_le_mul_right b hf
  have d2 : Nat.gcd f (f * b - 1) ∣ f * b := Nat.dvd_mul_right_of_dvd (Nat.gcd_dvd_left _ _) _
  have d3 := Nat.dvd_sub d2 (Nat.gcd_dvd_right f (f * b - 1))
  rw [show f * b - (f * b - 1) = 1 by omega] at d3
  exact Nat.dvd_one.mp d3
theorem fw_pos {b f d : Nat} (h : Bfd b f d) (k : Nat) : 1 ≤ fw b f d k := by
  unfold fw
  by_cases z : d * f ^ k % (f * b - 1) = 0
  · have dv := Nat.dvd_of_mod_eq_zero z
    have c := (Nat.Coprime.pow_left k (co_f h.b3 h.f2)).symm
    rw [Nat.mul_comm d] at dv
    have := Nat.le_of_dvd h.d1 (c.dvd_of_dvd_mul_left dv)
    have := h.n5
    have := h.db
    omega
  · omega
theorem fw_lt {b f d : Nat} (h : Bfd b f d) (k : Nat) : fw b f d k < f * b - 1 := by
  have := h.n5
  have := h.b3
  exact Nat.mod_lt _ (by omega)
theorem fw_step {b f d : Nat} (h : Bfd b f d) (k : Nat) : f * (fw b f d k % b) + fw b f d k / b = fw b f d (k + 1) := by
  have n5 := h.n5
  have b3 := h.b3
  have f2 := h.f2
  have w1 := fw_pos h k
  have w2 := fw_lt h k
  have e0 : fw b f d (k + 1) = f * fw b f d k % (f * b - 1) := by
    unfold fw
    have := mod_mul (n := f * b - 1) (a := d * f ^ k) (a' := d * f ^ k % (f * b - 1)) (Nat.mod_mod _ _).symm (rfl : f % (f * b - 1) = f % (f * b - 1))
    rw [Nat.pow_succ, ← Nat.mul_assoc, this, Nat.mul_comm f (d * f ^ k % (f * b - 1))]
  rw [e0]
  generalize fw b f d k = x at *
  have dm := Nat.div_add_mod x b
  have ml := Nat.mod_lt x (show 0 < b by omega)
  generalize hx1 : x % b = u at *
  generalize hx2 : x / b = v at *
  -- f * x = f * b * v + f * u = (f b - 1) v + v + f u
  have ex : f * x = (f * b - 1) * v + (f * u + v) := by
    have a1 : f * x = f * b * v + f * u := by
      rw [← dm, Nat.mul_add, Nat.mul_assoc]
    have a2 : (f * b - 1) * v = f * b * v - v := by rw [Nat.sub_mul, Nat.one_mul]
    have a3 : v ≤ f * b * v := Nat.le_mul_of_pos_left v (by omega)
    omega
  have vf : v < f := by
    rcases Nat.lt_or_ge v f with z | z
    · exact z
    · have : b * f ≤ b * v := Nat.mul_le_mul_left b z
      rw [Nat.mul_comm b f] at this
      omega
  have fu : f * u + v < f * b - 1 := by
    have a1 : f * u ≤ f * (b - 1) := Nat.mul_le_mul_left f (by omega)
    have a2 : f * (b - 1) = f * b - f := by rw [Nat.mul_sub, Nat.mul_one]
    have a0 : f ≤ f * b := Nat.le_mul_of_pos_right f (by omega)
    by_cases c1 : u = b - 1
    · by_cases c2 : v = f - 1
      · have a3 : b * v = b * f - b := by
          rw [c2, Nat.mul_sub, Nat.mul_one]
        rw [Nat.mul_comm b f] at a3
        omega
      · omega
    · have a4 : f * u ≤ f * (b - 2) := Nat.mul_le_mul_left f (by omega)
      have a5 : f * (b - 2) = f * b - 2 * f := by rw [Nat.mul_sub, Nat.mul_comm f 2]
      have a6 : 2 * f ≤ f * b := by
        rw [Nat.mul_comm f b]
        exact Nat.mul_le_mul_right f (by omega)
      omega
  rw [ex, Nat.mul_add_mod, Nat.mod_eq_of_lt fu]
theorem fw_back {b f d : Nat} (h : Bfd b f d) (k : Nat) : fw b f d k = d ↔ b ^ k % cut (f * b - 1) d = 1 % cut (f * b - 1) d := by
  have n5 := h.n5
  have b3 := h.b3
  have f2 := h.f2
  have db := h.db
  have e1 : fw b f d k = d ↔ f ^ k % cut (f * b - 1) d = 1 % cut (f * b - 1) d := by
    rw [mod_one_iff (pow_pos1 (by omega) _), ← cut_iff (by omega)]
    have pp := pow_pos1 (show 1 ≤ f by omega) k
    have ml : d ≤ d * f ^ k := Nat.le_mul_of_pos_right d pp
    have e2 : d * (f ^ k - 1) = d * f ^ k - d := by rw [Nat.mul_sub, Nat.mul_one]
    rw [e2]
    constructor
    · intro e
      have : d * f ^ k % (f * b - 1) = d % (f * b - 1) := by
        rw [Nat.mod_eq_of_lt (show d < f * b - 1 by omega)]
        exact e
      exact Nat.dvd_of_mod_eq_zero (Nat.sub_mod_eq_zero_of_mod_eq this)
    · rintro ⟨c, hc⟩
      have e3 : d * f ^ k = d + (f * b - 1) * c := by omega
      unfold fw
      rw [e3, Nat.add_mul_mod_self_left, Nat.mod_eq_of_lt (by omega)]
  rw [e1]
  have iv := one_pow_mod k (inv_mod h)
  rw [Nat.mul_pow] at iv
  constructor
  · intro e
    have := mod_mul e (rfl : b ^ k % cut (f * b - 1) d = b ^ k % cut (f * b - 1) d)
    rw [iv, Nat.one_mul] at this
    exact this.symm
  · intro e
    have := mod_mul (rfl : f ^ k % cut (f * b - 1) d = f ^ k % cut (f * b - 1) d) e
    rw [iv, Nat.mul_one] at this
    exact this.symm
/-- the figure ahead of the last turn: the first one of the number -/
theorem fw_last {b f d k : Nat} (h : Bfd b f d) (hk : fw b f d (k + 1) = d) : 0 < fw b f d k % b ↔ f ≤ d := by
  have n5 := h.n5
  have b3 := h.b3
  have f2 := h.f2
  have db := h.db
  have d1 := h.d1
  have st := fw_step h k
  rw [hk] at st
  have w2 := fw_lt h k
  generalize fw b f d k = x at *
  have dm := Nat.div_add_mod x b
  have ml := Nat.mod_lt x (show 0 < b by omega)
  generalize x % b = u at *
  generalize x / b = v at *
  constructor
  · intro hu
    have : f * 1 ≤ f * u := Nat.mul_le_mul_left f hu
    omega
  · intro hd
    rcases Nat.eq_zero_or_pos u with z | z
    · rw [z, Nat.mul_zero, Nat.zero_add] at st
      have : b * f ≤ b * v := Nat.mul_le_mul_left b (by omega)
      rw [Nat.mul_comm b f] at this
      omega
    · exact z
/-! ### behind: the rest has to be whole and short enough -/
def bTest (b f d m : Nat) : Bool := decide (d * (f * b ^ (m - 1) - 1) % (b - f) = 0) && (decide (d * (f * b ^ (m - 1) - 1) / (b - f) < b ^ (m - 1)) && decide (1 < m))
theorem whole_iff {b f d m : Nat} (h : Bfd b f d) (hm : 1 ≤ m) : (b - f) ∣ d * (f * b ^ (m - 1) - 1) ↔ f ^ m % cut (b - f) d = 1 % cut (b - f) d := by
  have b3 := h.b3
  have f2 := h.f2
  have fb := h.fb
  have pb := pow_pos1 (show 1 ≤ b by omega) (m - 1)
  have pf := pow_pos1 (show 1 ≤ f by omega) m
  have fp : 1 ≤ f * b ^ (m - 1) := Nat.mul_pos (by omega) pb
  rw [cut_iff (by omega), ← mod_one_iff fp]
  have e : b % cut (b - f) d = f % cut (b - f) d := by
    obtain ⟨c, hc⟩ := cut_dvd (b - f) d
    have : b = f + cut (b - f) d * c := by omega
    conv => lhs; lhs; rw [this]
    rw [Nat.add_mul_mod_self_left]
  have e2 : f * b ^ (m - 1) % cut (b - f) d = f ^ m % cut (b - f) d := by
    rw [mod_mul (rfl : f % _ = f % _) (mod_pow (m - 1) e)]
    congr 1
    obtain ⟨j, rfl⟩ : ∃ j, m = j + 1 := ⟨m - 1, by omega⟩
    rw [Nat.add_sub_cancel, Nat.pow_succ, Nat.mul_comm]
  rw [e2]
theorem short_iff {b f d m : Nat} (h : Bfd b f d) (hm : 2 ≤ m) : d * (f * b ^ (m - 1) - 1) / (b - f) < b ^ (m - 1) ↔ (d + 1) * f ≤ b := by
  have b3 := h.b3
  have f2 := h.f2
  have fb := h.fb
  have d1 := h.d1
  have db := h.db
  have pb : b ≤ b ^ (m - 1) := by
    obtain ⟨j, hj⟩ : ∃ j, m - 1 = j + 1 := ⟨m - 2, by omega⟩
    rw [hj, Nat.pow_succ]
    exact Nat.le_mul_of_pos_left b (pow_pos1 (by omega) j)
  generalize b ^ (m - 1) = g at *
  rw [Nat.div_lt_iff_lt_mul (by omega)]
  have e1 : d * (f * g - 1) = d * f * g - d := by rw [Nat.mul_sub, Nat.mul_one, Nat.mul_assoc]
  have e2 : g * (b - f) = (b - f) * g := Nat.mul_comm _ _
  have e3 : (d + 1) * f = d * f + f := by rw [Nat.add_mul, Nat.one_mul]
  rw [e1, e2, e3]
  constructor
  · intro hlt
    rcases Nat.lt_or_ge b (d * f + f) with z | z
    · have z1 : (b - f) + 1 ≤ d * f := by omega
      have z2 := Nat.mul_le_mul_right g z1
      rw [Nat.add_mul, Nat.one_mul] at z2
      omega
    · exact z
  · intro hle
    have z1 : d * f ≤ b - f := by omega
    have z2 := Nat.mul_le_mul_right g z1
    have z3 : 0 < d * f * g := Nat.mul_pos (Nat.mul_pos d1 (by omega)) (by omega)
    omega
theorem ord_two {b f d k : Nat} (h : Bfd b f d) (c : (d + 1) * f ≤ b) (o : IsOrd f (cut (b - f) d) k) : 2 ≤ k := by
  rcases Nat.lt_or_ge k 2 with z | z
  · have e : k = 1 := by
      have := o.pos
      omega
    subst e
    have b3 := h.b3
    have f2 := h.f2
    have fb := h.fb
    have d1 := h.d1
    have one := o.one
    rw [mod_one_iff (pow_pos1 (by omega) _), Nat.pow_one, ← cut_iff (by omega)] at one
    have z1 : 0 < d * (f - 1) := Nat.mul_pos d1 (by omega)
    have z2 := Nat.le_of_dvd z1 one
    have z3 : d * (f - 1) = d * f - d := by rw [Nat.mul_sub, Nat.mul_one]
    have z4 : (d + 1) * f = d * f + f := by rw [Nat.add_mul, Nat.one_mul]
    omega
  · exact z
theorem bTest_iff {b f d m : Nat} (h : Bfd b f d) (hm : 1 ≤ m) : bTest b f d m = true ↔ 2 ≤ m ∧ (d + 1) * f ≤ b ∧ f ^ m % cut (b - f) d = 1 % cut (b - f) d := by
  unfold bTest
  rw [Bool.and_eq_true, Bool.and_eq_true, decide_eq_true_eq, decide_eq_true_eq, decide_eq_true_eq]
  constructor
  · rintro ⟨h1, h2, h3⟩
    have w := Nat.dvd_of_mod_eq_zero h1
    exact ⟨h3, (short_iff h h3).mp h2, (whole_iff h hm).mp w⟩
  · rintro ⟨h1, h2, h3⟩
    have w := (whole_iff h hm).mpr h3
    exact ⟨Nat.mod_eq_zero_of_dvd w, (short_iff h h1).mpr h2, h1⟩
theorem bTest_some {b f d k : Nat} (h : Bfd b f d) (e : lenOf b f false d = some k) : 2 ≤ k ∧ k < 2 * b ∧ bTest b f d k = true ∧ ∀ j, 1 ≤ j → j < k → bTest b f d j = false := by
  obtain ⟨c, o⟩ := len_behind h e
  have k2 := ord_two h c o
  have kl := o.le
  have cl := cut_le (b - f) d
  have b3 := h.b3
  refine ⟨k2, by omega, (bTest_iff h (by omega)).mpr ⟨k2, c, o.one⟩, fun j h1 h2 => ?_⟩
  cases q : bTest b f d j with
  | false => rfl
  | true => exact absurd ((bTest_iff h h1).mp q).2.2 (o.least j h1 h2)
theorem bTest_none {b f d : Nat} (h : Bfd b f d) (e : lenOf b f false d = none) (j : Nat) (hj : 1 ≤ j) : bTest b f d j = false := by
  cases q : bTest b f d j with
  | false => rfl
  | true => exact absurd ((bTest_iff h hj).mp q).2 (len_behind_none h e j hj)
end Tf

namespace Tf
open PySem PySem.Spec PyProof.Rows L2 Evl
/-! ### a def of the module, by its promise -/
structure Has (P : Program) (w : World) (K : PySem.W.Frag) (mg : Str → Option Value) (base : Heap) (x : Str) (ps : List Str) (k : Nat) (sp : Sp) : Prop where
  ex : ∃ (f : Addr) (fd : FuncData), mg x = some (.ref f) ∧ PySem.W.keepIn K (.ref f) = true ∧ Binds K fd ps [] ∧ FnOk P w K mg base CX0 k f fd ps sp
theorem pe_fn {X : Cx} {x : Str} {ps : List Str} {j k : Nat} {sp : Sp} {p pos : Pos} {e : Expr} {es : List Expr} {t : TA} (h : Has X.prog X.w X.K X.mg X.base x ps k sp) (hr : Room j X.A) (hg : Gl X x) (ha : PA X (e :: es) t)
    (hk : k ≤ j := by decide) (hdb : (x == ("__debug__" : Str)) = false := by decide) (he : starEach (e :: es) X.env = (false, eval e X.env) :: starEach es X.env := by rfl) (hpl : (backTo pos (starEach es X.env)).any (·.1) = false := by rfl) :
    PE X (.Call (.Name x p) (e :: es) [] pos) (tCall sp [] E0 t) := by
  obtain ⟨f, fd, g, kp, b, F⟩ := h.ex
  exact pe_call F (hr.mono hk) hg g kp b .nil pass0 ha hdb he hpl
theorem pe_fn0 {X : Cx} {x : Str} {ps : List Str} {j k : Nat} {sp : Sp} {p pos : Pos} (h : Has X.prog X.w X.K X.mg X.base x ps k sp) (hr : Room j X.A) (hg : Gl X x)
    (hk : k ≤ j := by decide) (hdb : (x == ("__debug__" : Str)) = false := by decide) : PE X (.Call (.Name x p) [] [] pos) (tCall sp [] E0 tNil) := by
  obtain ⟨f, fd, g, kp, b, F⟩ := h.ex
  exact pe_call0 F (hr.mono hk) hg g kp b .nil pass0 hdb
/-! ### promises: a value told, a new list told -/
def spV (R : List V → Hp → V → Prop) : Sp := fun vs H Q _ => ∃ v, R vs H v ∧ RetV v H Q
def spL (R : List V → Hp → List V → Prop) : Sp := fun vs H Q _ => ∃ xs, R vs H xs ∧ RetL xs H Q
abbrev vi (n : Nat) : V := .int (n : Int)
abbrev vl (ns : List Nat) : List V := ns.map vi
theorem vl_app (xs ys : List Nat) : vl (xs ++ ys) = vl xs ++ vl ys := List.map_append
theorem vl_drop (ds : List Nat) (k : Nat) : vl (ds.drop k) = (vl ds).drop k := List.map_drop
theorem vl_take (ds : List Nat) (k : Nat) : vl (ds.take k) = (vl ds).take k := List.map_take
theorem vl_rev (ds : List Nat) : vl ds.reverse = (vl ds).reverse := List.map_reverse
theorem vl_len (ds : List Nat) : (vl ds).length = ds.length := List.length_map _
theorem cutV_to (xs : List V) (k : Nat) : cutV xs none (some (k : Int)) = xs.take k := by
  unfold cutV
  rw [HT.sIx_none, HT.sIx_nat, List.drop_zero, Nat.sub_zero]
  by_cases h : k ≤ xs.length
  · rw [Nat.min_eq_left h]
  · rw [Nat.min_eq_right (by omega), List.take_length, List.take_of_length_le (by omega)]
/-! ### lists met: new or old -/
section
variable {K : PySem.W.Frag} {σ : L2.St} {H H' : Hp} {ta tb tc te : TE} {x y z v : V} {xs ys : List V}
def EvS (te : TE) (σ : L2.St) (H : Hp) (xs : List V) : Prop := ∀ H1, Ex H H1 → ∀ Q : VK, (∀ p H2, Ex H1 H2 → H2 p = some (.lst xs) → Q (.ref p) H2) → te σ H1 Q
def EvQ (K : PySem.W.Frag) (te : TE) (σ : L2.St) (H : Hp) (xs : List V) : Prop := ∀ H1, Ex H H1 → ∀ Q : VK, (∀ p H2, Ex H1 H2 → SqL K H2 p xs → Q (.ref p) H2) → te σ H1 Q
theorem es_new (h : EvL te σ H xs) : EvS te σ H xs := fun H1 e Q q => h H1 e Q fun p H2 _ e2 hp => q p H2 e2 hp
theorem es_old {a : Addr} (h : Ev te σ H (.ref a)) (hx : H a = some (.lst xs)) : EvS te σ H xs := fun H1 e Q q => h H1 e Q fun H2 e2 => q a H2 e2 (e2 _ _ (e _ _ hx))
theorem eq_of (h : EvS te σ H xs) : EvQ K te σ H xs := fun H1 e Q q => h H1 e Q fun p H2 e2 hp => q p H2 e2 (sq_of hp)
theorem eq_new (h : EvL te σ H xs) : EvQ K te σ H xs := eq_of (es_new h)
theorem eq_old {a : Addr} (h : Ev te σ H (.ref a)) (hx : SqL K H a xs) : EvQ K te σ H xs := fun H1 e Q q => h H1 e Q fun H2 e2 => q a H2 e2 (ex_l e2 (ex_l e hx))
theorem EvS.mono (e : Ex H H') (h : EvS te σ H xs) : EvS te σ H' xs := fun H1 a Q q => h H1 (e.trans a) Q q
theorem EvQ.mono (e : Ex H H') (h : EvQ K te σ H xs) : EvQ K te σ H' xs := fun H1 a Q q => h H1 (e.trans a) Q q
theorem EvU.mono (e : Ex H H') (h : EvU te σ H xs) : EvU te σ H' xs := fun H1 a Q q => h H1 (e.trans a) Q q
theorem el_cat (ha : EvS ta σ H xs) (hb : EvS tb σ H ys) (hz : xs.length + ys.length ≤ 1000000) : EvL (tOp rCat ta tb) σ H (xs ++ ys) := fun H1 e Q q =>
  ha H1 e _ fun p H2 e2 hp => hb H2 (e.trans e2) _ fun p' H3 e3 hp' =>
    ⟨p, p', xs, ys, rfl, rfl, e3 _ _ hp, hp', Nat.le_trans hz (by decide), fun l hl => q l _ (fresh_back (e2.trans e3) hl) ((e2.trans e3).trans (Ex.new hl)) upd_same⟩
theorem el_rep {k : Nat} (ha : EvS ta σ H xs) (hb : Ev tb σ H (vi k)) (hk : k < 2 ^ 62) (hz : xs.length * k ≤ 1000000) : EvL (tOp rRep ta tb) σ H (List.replicate k xs).flatten := fun H1 e Q q =>
  ha H1 e _ fun p H2 e2 hp => hb H2 (e.trans e2) _ fun H3 e3 =>
    ⟨p, (k : Int), xs, rfl, rfl, e3 _ _ hp, by omega, by omega, Nat.le_trans hz (by decide), fun l hl => q l _ (fresh_back (e2.trans e3) hl) ((e2.trans e3).trans (Ex.new hl)) upd_same⟩
theorem el_cut {tl th : TO} {lo hi : Option Int} (h : EvQ K te σ H xs) (h1 : EvO tl σ H lo) (h2 : EvO th σ H hi) : EvL (tSl (rSlL K) te tl th) σ H (cutV xs lo hi) := fun H1 e _ q =>
  h H1 e _ fun a H2 e2 hx => h1 H2 (e.trans e2) _ fun H3 e3 => h2 H3 ((e.trans e2).trans e3) _ fun H4 e4 =>
    ⟨a, xs, rfl, ex_l (e3.trans e4) hx, fun p hp => q p _ (fresh_back ((e2.trans e3).trans e4) hp) (((e2.trans e3).trans e4).trans (Ex.new hp)) upd_same⟩
theorem el_rev (h : EvQ K te σ H xs) : EvL (tRevL K te) σ H xs.reverse := fun H1 e _ q =>
  h H1 e _ fun a H2 e2 hx => ⟨a, xs, rfl, hx, fun p hp => q p _ (fresh_back e2 hp) (e2.trans (Ex.new hp)) upd_same⟩
theorem ev_ix {i : Int} (ha : EvQ K ta σ H xs) (hb : Ev tb σ H (.int i)) (hv : atI xs i = some v) : Ev (tOp (rIxL K) ta tb) σ H v := fun H1 e _ q =>
  ha H1 e _ fun a H2 e2 hx => hb H2 (e.trans e2) _ fun H3 e3 => ⟨a, xs, i, v, rfl, rfl, ex_l e3 hx, hv, q H3 (e2.trans e3)⟩
theorem ev_ixU {i : Int} (ha : EvU ta σ H xs) (hb : Ev tb σ H (.int i)) (hv : atI xs i = some v) : Ev (tOp (rIxT K) ta tb) σ H v := fun H1 e _ q =>
  ha H1 e _ fun a H2 _ e2 hx => hb H2 (e.trans e2) _ fun H3 e3 => ⟨a, xs, i, v, rfl, rfl, ex_t e3 (st_of hx), hv, q H3 (e2.trans e3)⟩
theorem ev_len (ha : EvQ K ta σ H xs) : Ev (tCB (fun zs H Q => ∃ p ys, zs = [.ref p] ∧ (SqL K H p ys ∨ SqT K H p ys) ∧ Q (.int ys.length) H) (tCons ta tNil)) σ H (vi xs.length) := fun H1 e _ q =>
  ha H1 e _ fun a H2 e2 hx => ⟨a, xs, rfl, .inl hx, q H2 e2⟩
theorem ev_lenU (ha : EvU ta σ H xs) : Ev (tCB (fun zs H Q => ∃ p ys, zs = [.ref p] ∧ (SqL K H p ys ∨ SqT K H p ys) ∧ Q (.int ys.length) H) (tCons ta tNil)) σ H (vi xs.length) := fun H1 e _ q =>
  ha H1 e _ fun a H2 _ e2 hx => ⟨a, xs, rfl, .inr (st_of hx), q H2 e2⟩
theorem el_list (ha : EvQ K ta σ H xs) : EvL (tCB (fun zs H Q => ∃ p ys, zs = [.ref p] ∧ (SqL K H p ys ∨ SqT K H p ys) ∧ ∀ l, H l = none → Q (.ref l) (upd H l (.lst ys))) (tCons ta tNil)) σ H xs := fun H1 e _ q =>
  ha H1 e _ fun a H2 e2 hx => ⟨a, xs, rfl, .inl hx, fun p hp => q p _ (fresh_back e2 hp) (e2.trans (Ex.new hp)) upd_same⟩
theorem ev_any {bs : List Bool} (ha : EvQ K ta σ H (bs.map V.bl)) : Ev (tCB (rAny K) (tCons ta tNil)) σ H (.bl (bs.any id)) := fun H1 e _ q => ha H1 e _ fun a H2 e2 hx => ⟨a, bs, rfl, hx, q H2 e2⟩
theorem ev_all {bs : List Bool} (ha : EvQ K ta σ H (bs.map V.bl)) : Ev (tCB (rAll K) (tCons ta tNil)) σ H (.bl (bs.all id)) := fun H1 e _ q => ha H1 e _ fun a H2 e2 hx => ⟨a, bs, rfl, hx, q H2 e2⟩
theorem ev_sum {ns : List Int} (ha : EvQ K ta σ H (ns.map V.int)) : Ev (tCB (rSum K) (tCons ta tNil)) σ H (.int ns.sum) := fun H1 e _ q => ha H1 e _ fun a H2 e2 hx => ⟨a, ns, rfl, hx, q H2 e2⟩
theorem ev_abs {i : Int} (ha : Ev ta σ H (.int i)) : Ev (tCB (fun xs H Q => ∃ i, xs = [.int i] ∧ Q (.int (if i < 0 then -i else i)) H) (tCons ta tNil)) σ H (vi i.natAbs) := fun H1 e Q q =>
  ha H1 e _ fun H2 e2 => ⟨i, rfl, by
    have g := q H2 e2
    have w : (if i < 0 then -i else i) = (i.natAbs : Int) := by split <;> omega
    rw [w]
    exact g⟩
theorem el_if {t : TT} {b : Bool} (h : EvT t σ H b) (h1 : b = true → EvL ta σ H xs) (h2 : b = false → EvL tb σ H xs) : EvL (tIf t ta tb) σ H xs := fun H1 e Q q => h H1 e _ fun H2 e2 => by
  cases b with
  | true => exact iteT (h1 rfl H2 (e.trans e2) _ fun p H3 hp e3 h3 => q p H3 (fresh_back e2 hp) (e2.trans e3) h3)
  | false => exact iteF (h2 rfl H2 (e.trans e2) _ fun p H3 hp e3 h3 => q p H3 (fresh_back e2 hp) (e2.trans e3) h3)
theorem el_is {ys : List V} (h : EvL te σ H xs) (e : xs = ys) : EvL te σ H ys := by
  rw [← e]
  exact h
/-! isinstance -/
theorem ev_isi {t c : String} {b : Bool} (ha : Ev ta σ H x) (ht : ∀ H1, Ex H H1 → TyX K H1 x (.type t)) (hb : kitB t c = some b) : Ev (tCB (rIsi K) (tCons ta (tCons (tC (.ty c)) tNil))) σ H (.bl b) := fun H1 e _ q =>
  ha H1 e _ fun H2 e2 => ⟨x, .ty c, _, _, b, rfl, .ty c, ht H2 (e.trans e2), kit_ty hb, q H2 e2⟩
theorem ev_isiI {i : Int} {c : String} {b : Bool} (ha : Ev ta σ H (.int i)) (hb : kitB "int" c = some b) : Ev (tCB (rIsi K) (tCons ta (tCons (tC (.ty c)) tNil))) σ H (.bl b) := ev_isi ha (fun _ _ => .base (.int i)) hb
theorem ev_isiS {c : String} {b : Bool} (ha : EvS ta σ H xs) (hb : kitB "list" c = some b) : Ev (tCB (rIsi K) (tCons ta (tCons (tC (.ty c)) tNil))) σ H (.bl b) := fun H1 e _ q =>
  ha H1 e _ fun p H2 e2 hp => ⟨.ref p, .ty c, _, _, b, rfl, .ty c, .base (.lst hp), kit_ty hb, q H2 e2⟩
theorem rv_isN : RV (fun x y H Q => y = .non ∧ Q (.bl (decide (x = .non))) H) x .non H (.bl (decide (x = .non))) := fun H1 _ _ q => ⟨rfl, q H1 (Ex.refl H1)⟩
theorem rv_notN : RV (fun x y H Q => y = .non ∧ Q (.bl (!decide (x = .non))) H) x .non H (.bl (!decide (x = .non))) := fun H1 _ _ q => ⟨rfl, q H1 (Ex.refl H1)⟩
/-- the script's sum -/
theorem ev_whole {a : Addr} {ns : List Int} (hS : SqL K H a (ns.map V.int)) (hv : σ[0]? = some (some (.ref a))) :
    Ev (tOp (rI (fun _ j => 0 < j) fun i j => .int (i % j)) (tCB (fun xs H Q => ∃ i, xs = [.int i] ∧ Q (.int (if i < 0 then -i else i)) H) (tCons (tCB (rSum K) (tCons (tSl (rSlL K) (tVar 0) tNoPart (tPart (tC (.int 63)))) tNil)) tNil)) (tOp (rI CPow fun i j => .int (i ^ j.toNat)) (tC (.int 10)) (tC (.int 60)))) σ H (vi ((ns.take 63).sum.natAbs % 10 ^ 60)) := by
  refine ev_is (ev_op (ev_abs (ev_sum (ns := ns.take 63) (eq_new (el_is (el_cut (eq_old (ev_var hv) hS) eo_none (eo_some ev_c)) ?_)))) (ev_op ev_c ev_c (rv_I ⟨by decide, by decide, by decide⟩)) (rv_I (by decide +kernel))) ?_
  · rw [show (63 : Int) = ((63 : Nat) : Int) from rfl, cutV_to, List.map_take]
  · rfl
/-- the first cells, and some more -/
theorem eq_cells {a : Addr} {ns ms : List Int} {k : Nat} {tb : TE} (hS : SqL K H a (ns.map V.int)) (hl : ns.length ≤ 63) (hv : σ[0]? = some (some (.ref a))) (hb : EvL tb σ H (ms.map V.int)) (hm : ms.length ≤ 10) :
    EvQ K (tOp rCat (tSl (rSlL K) (tVar 0) tNoPart (tPart (tC (.int (k : Int))))) tb) σ H ((ns.take k ++ ms).map V.int) := by
  refine eq_new (el_is (el_cat (es_new (el_cut (eq_old (ev_var hv) hS) eo_none (eo_some ev_c))) (es_new hb) ?_) ?_)
  · have q1 := cutV_length (ns.map V.int) none (some (k : Int))
    rw [List.length_map] at q1
    rw [List.length_map]
    omega
  · rw [cutV_to, ← List.map_take, ← List.map_append]
theorem get_ints {L : List Int} {i : Nat} {x : V} (h : (L.map V.int)[i]? = some x) : ∃ c, L[i]? = some c ∧ x = .int c := by
  rw [List.getElem?_map] at h
  cases e : L[i]? with
  | none =>
    rw [e] at h
    cases h
  | some d =>
    rw [e] at h
    exact ⟨d, rfl, (Option.some.inj h).symm⟩
theorem cells_len {ns ms : List Int} {k i : Nat} {c : Int} (h : (ns.take k ++ ms)[i]? = some c) : i < k + ms.length := by
  have := (List.getElem?_eq_some_iff.mp h).1
  rw [List.length_append, List.length_take] at this
  omega
/-! chains -/
theorem ev_chain {r r' : R2} {a b : Bool} (ha : Ev ta σ H x) (hb : Ev tb σ H y) (hr : RV r x y H (.bl a)) (hc : Ev tc σ H z) (hr' : RV r' y z H (.bl b)) : Ev (tChain r r' ta tb tc) σ H (.bl (a && b)) := fun H1 e Q q =>
  ha H1 e _ fun H2 e2 => hb H2 (e.trans e2) _ fun H3 e3 => hr H3 ((e.trans e2).trans e3) _ fun H4 e4 => ⟨a, rfl, by
    have e14 := (e2.trans e3).trans e4
    cases a with
    | true =>
      refine iteT (hc H4 (e.trans e14) _ fun H5 e5 => hr' H5 ((e.trans e14).trans e5) _ fun H6 e6 => ?_)
      exact q H6 ((e14.trans e5).trans e6)
    | false => exact iteF (q H4 e14)⟩
/-! equality of lists of ints -/
def dI (ns : List Int) : List PyData := ns.map PyData.int
theorem dp_ints {H : Hp} : ∀ ns : List Int, DpAll K H (ns.map V.int) (dI ns)
  | [] => .nil
  | n :: ns => .cons (.int n) (dp_ints ns)
theorem lay_ints : ∀ ns : List Int, PyData.canLayAll0 (dI ns) = true
  | [] => by simp [dI, PyData.canLayAll0]
  | n :: ns => by
    show PyData.canLayAll0 (.int n :: dI ns) = true
    rw [PyData.canLayAll0, lay_ints ns]
    simp [PyData.canLay0]
theorem depth_ints : ∀ ns : List Int, PyData.depthAll (dI ns) = 0
  | [] => by simp [dI, PyData.depthAll]
  | n :: ns => by
    show PyData.depthAll (.int n :: dI ns) = 0
    rw [PyData.depthAll, depth_ints ns]
    simp [PyData.depth]
theorem shaped_ints (ns : List Int) : SeqAt.shaped (.list (dI ns)) = true := by
  unfold SeqAt.shaped
  rw [PyData.canLay0, lay_ints, PyData.depth, depth_ints]
  decide
theorem eqv_ints : ∀ ns ms : List Int, PyData.eqvAll (dI ns) (dI ms) = decide (ns = ms)
  | [], [] => by simp [dI, PyData.eqvAll]
  | [], m :: ms => by simp [dI, PyData.eqvAll]
  | n :: ns, [] => by simp [dI, PyData.eqvAll]
  | n :: ns, m :: ms => by
    show PyData.eqvAll (.int n :: dI ns) (.int m :: dI ms) = _
    rw [PyData.eqvAll, eqv_ints ns ms, PyData.eqv]
    by_cases h : n = m
    · subst h
      simp
    · simp [h]
theorem ev_eqL {ns ms : List Int} (ha : EvQ K ta σ H (ns.map V.int)) (hb : EvQ K tb σ H (ms.map V.int)) : Ev (tOp (rEqD K) ta tb) σ H (.bl (decide (ns = ms))) := fun H1 e Q q =>
  ha H1 e _ fun p H2 e2 hp => hb H2 (e.trans e2) _ fun p' H3 e3 hp' => ⟨.list (dI ns), .list (dI ms), .lst (ex_l e3 hp) (dp_ints ns), .lst hp' (dp_ints ms), shaped_ints ns, shaped_ints ms, by
    rw [PyData.eqv, eqv_ints]
    exact q H3 (e2.trans e3)⟩
theorem ev_neL {ns ms : List Int} (ha : EvQ K ta σ H (ns.map V.int)) (hb : EvQ K tb σ H (ms.map V.int)) : Ev (tOp (rNeD K) ta tb) σ H (.bl (!decide (ns = ms))) := fun H1 e Q q =>
  ha H1 e _ fun p H2 e2 hp => hb H2 (e.trans e2) _ fun p' H3 e3 hp' => ⟨.list (dI ns), .list (dI ms), .lst (ex_l e3 hp) (dp_ints ns), .lst hp' (dp_ints ms), shaped_ints ns, shaped_ints ms, by
    rw [PyData.eqv, eqv_ints]
    exact q H3 (e2.trans e3)⟩
theorem vl_ints (ns : List Nat) : vl ns = (ns.map fun n : Nat => (n : Int)).map V.int := by
  rw [List.map_map]
  rfl
theorem cast_inj : ∀ {ns ms : List Nat}, ns.map (fun n : Nat => (n : Int)) = ms.map (fun n : Nat => (n : Int)) → ns = ms
  | [], [], _ => rfl
  | [], _ :: _, h => by simp at h
  | _ :: _, [], h => by simp at h
  | n :: ns, m :: ms, h => by
    rw [List.map_cons, List.map_cons] at h
    injection h with h1 h2
    rw [cast_inj h2, Int.ofNat.inj h1]
theorem dec_cast (ns ms : List Nat) : decide (ns.map (fun n : Nat => (n : Int)) = ms.map (fun n : Nat => (n : Int))) = decide (ns = ms) := by
  by_cases h : ns = ms
  · rw [decide_eq_true h, h, decide_eq_true rfl]
  · rw [decide_eq_false h, decide_eq_false fun e => h (cast_inj e)]
theorem ev_eqN {ns ms : List Nat} (ha : EvQ K ta σ H (vl ns)) (hb : EvQ K tb σ H (vl ms)) : Ev (tOp (rEqD K) ta tb) σ H (.bl (decide (ns = ms))) := by
  rw [vl_ints] at ha hb
  exact ev_is (ev_eqL ha hb) (by rw [dec_cast])
theorem ev_neN {ns ms : List Nat} (ha : EvQ K ta σ H (vl ns)) (hb : EvQ K tb σ H (vl ms)) : Ev (tOp (rNeD K) ta tb) σ H (.bl (!decide (ns = ms))) := by
  rw [vl_ints] at ha hb
  exact ev_is (ev_neL ha hb) (by rw [dec_cast])
/-! calls by promises -/
theorem ev_fn {R : List V → Hp → V → Prop} {vs : List V} {t : TA} (h : EvA t σ H vs) (hR : ∀ H1, Ex H H1 → R vs H1 v) : Ev (tCall (spV R) [] E0 t) σ H v := fun H1 e Q q =>
  h H1 e _ fun H2 e2 => ⟨v, by rw [List.append_nil]; exact hR H2 (e.trans e2), fun H3 e3 => q H3 (e2.trans e3)⟩
theorem el_fn {R : List V → Hp → List V → Prop} {vs : List V} {t : TA} (h : EvA t σ H vs) (hR : ∀ H1, Ex H H1 → R vs H1 xs) : EvL (tCall (spL R) [] E0 t) σ H xs := fun H1 e Q q =>
  h H1 e _ fun H2 e2 => ⟨xs, by rw [List.append_nil]; exact hR H2 (e.trans e2), fun p H3 hp e3 h3 => q p H3 (fresh_back e2 hp) (e2.trans e3) h3⟩
/-- an argument that is a new list, the last one -/
theorem ev_fnL {R : List V → Hp → V → Prop} (h : Ev ta σ H x) (hl : EvS tb σ H xs) (hR : ∀ p H1, Ex H H1 → H1 p = some (.lst xs) → R [x, .ref p] H1 v) : Ev (tCall (spV R) [] E0 (tCons ta (tCons tb tNil))) σ H v := fun H1 e Q q =>
  h H1 e _ fun H2 e2 => hl H2 (e.trans e2) _ fun p H3 e3 hp => ⟨v, hR p H3 ((e.trans e2).trans e3) hp, fun H4 e4 => q H4 ((e2.trans e3).trans e4)⟩
end
/-! ### loops -/
section
variable {K : PySem.W.Frag} {σ : L2.St} {H H' : Hp} {te : TE} {D : Ends} {tu tz : TS} {xs : List V}
/-- for i, x in enumerate(..) -/
theorem q_forE {j l : Nat} (h : EvQ K te σ H xs) (Pv : Addr → Nat → L2.St → Hp → Prop) (h0 : ∀ p H1, Ex H H1 → SqL K H1 p xs → Pv p 0 σ H1) (hl : ∀ p i σ' H', i ≤ xs.length → Pv p i σ' H' → SqL K H' p xs)
    (hs : ∀ p i x σ' H', xs[i]? = some x → Pv p i σ' H' → ∀ H2, Ex H' H2 → tu { D with nx := Pv p (i + 1), ct := Pv p (i + 1), bk := tz D } ((σ'.set j (some (vi i))).set l (some x)) H2) (hd : ∀ p σ' H', Pv p xs.length σ' H' → tz D σ' H') :
    tSeq (tFor (iEnum K (tCons te tNil)) (gTup K 2 (gCons (gName j) (gCons (gName l) gNil))) tu) tz D σ H :=
  h H (Ex.refl H) _ fun a H1 e ha => ⟨a, xs, rfl, ha, fun i m σ' H' => m = xs.length - i ∧ i ≤ xs.length ∧ Pv a i σ' H', ⟨xs.length, by simp, Nat.zero_le _, h0 a H1 e ha⟩, by
    rintro i m σ' H' ⟨rfl, hi, p⟩
    have q := hl a i σ' H' hi p
    by_cases hlt : i < xs.length
    · refine .inr ⟨⟨xs, xs[i], q, by simp [hlt]⟩, Pv a (i + 1), fun σ2 H2 p' => ⟨xs.length - (i + 1), by omega, rfl, hlt, p'⟩, fun x H2 y => ?_⟩
      obtain ⟨T, x', rfl, nT, rfl, f⟩ := y
      exact ⟨T, [vi i, x'], rfl, st_of upd_same, rfl, vi i, [x'], rfl, x', [], rfl, rfl, hs a i x' σ' H' (f xs q) p _ (Ex.new nT)⟩
    · have e' : i = xs.length := by omega
      subst e'
      exact .inl ⟨⟨xs, q, Nat.le_refl _⟩, hd a σ' H' p⟩⟩
/-- a, b = x, y -/
theorem s_par {i j : Nat} {ta : TA} {x y : V} (h : EvA ta σ H [x, y]) (k : ∀ H1, Ex H H1 → D.nx ((σ.set i (some x)).set j (some y)) H1) : tPar i j ta D σ H := h H (Ex.refl H) _ fun H1 e => ⟨x, y, rfl, k H1 e⟩
theorem q_par {i j : Nat} {ta : TA} {x y : V} (h : EvA ta σ H [x, y]) (k : ∀ H1, Ex H H1 → tz D ((σ.set i (some x)).set j (some y)) H1) : tSeq (tPar i j ta) tz D σ H := s_par (D := { D with nx := tz D }) h k
theorem q_par3 {i j l : Nat} {ta : TA} {x y z : V} (h : EvA ta σ H [x, y, z]) (k : ∀ H1, Ex H H1 → tz D (((σ.set i (some x)).set j (some y)).set l (some z)) H1) : tSeq (tPar3 i j l ta) tz D σ H := h H (Ex.refl H) _ fun H1 e => ⟨x, y, z, rfl, k H1 e⟩
/-- a word between: what follows is shown once -/
theorem q_mid {M : L2.St → Hp → Prop} (h : tu { D with nx := M } σ H) (k : ∀ σ' H', M σ' H' → tz D σ' H') : tCut tu tz D σ H := ⟨M, h, k⟩
/-- comprehensions over range(a, b) -/
theorem el_lcR2 {ta : TA} {t : TT} {j : Nat} {vs : List Nat} {lo hi : Int} {n : Nat} (f : Nat → Bool) (v : Nat → V) (h : EvA ta σ H [.int lo, .int hi]) (hn : 0 ≤ lo ∧ lo ≤ 100000 ∧ -100000 ≤ hi ∧ hi ≤ 100000) (hz : (hi - lo).toNat = n) (hc : n ≤ 40000) (hw : ∀ x, wipe ((wipe σ vs).set j (some x)) vs = wipe σ vs)
    (ht : ∀ (i : Nat) H1, Ex H H1 → i < n → EvT t ((wipe σ vs).set j (some (.int (lo + (i : Int))))) H1 (f i)) (he : ∀ (i : Nat) H1, Ex H H1 → i < n → f i = true → Ev te ((wipe σ vs).set j (some (.int (lo + (i : Int))))) H1 (v i)) :
    EvL (tLc (iRng2 ta) (gName j) t te vs) σ H (given n f v) := fun H0 e Q q => h H0 e _ fun H1 e1 => ⟨lo, hi, rfl, ⟨by omega, by omega, by omega, by omega⟩, fun Dl hD => by
  rw [hz]
  exact lc_range (lo := lo) (n := n) (Cw H1 f v Dl) ⟨hD, Ex.new hD, upd_same⟩ (fun i H' hi p => ⟨hw _, cw_turn p (by omega) (ht i H1 (e.trans e1) hi) (fun hf => he i H1 (e.trans e1) hi hf)⟩) (fun H' p => q Dl H' (fresh_back e1 p.1) (e1.trans p.2.1) p.2.2)⟩
/-! lists of tuples -/
def Tups (H : Hp) : List V → List (List V) → Prop := Paired fun r t => ∃ a, r = V.ref a ∧ H a = some (.tup t)
theorem Tups.mono {H H' : Hp} (e : Ex H H') : ∀ {rs : List V} {ts : List (List V)}, Tups H rs ts → Tups H' rs ts
  | _, _, .nil => .nil
  | _, _, .cons ⟨a, h1, h2⟩ t => .cons ⟨a, h1, e _ _ h2⟩ (Tups.mono e t)
theorem Tups.app {H : Hp} : ∀ {rs qs : List V} {ts us : List (List V)}, Tups H rs ts → Tups H qs us → Tups H (rs ++ qs) (ts ++ us)
  | _, _, _, _, .nil, s => s
  | _, _, _, _, .cons r t, s => .cons r (Tups.app t s)
theorem Tups.len {H : Hp} : ∀ {rs : List V} {ts : List (List V)}, Tups H rs ts → rs.length = ts.length
  | _, _, .nil => rfl
  | _, _, .cons _ t => by rw [List.length_cons, List.length_cons, Tups.len t]
theorem Tups.get {H : Hp} : ∀ {rs : List V} {ts : List (List V)} {i : Nat} {r : V}, Tups H rs ts → rs[i]? = some r → ∃ a t, r = V.ref a ∧ ts[i]? = some t ∧ H a = some (.tup t)
  | _, _, _, _, .nil, h => by simp at h
  | _, _, 0, r, .cons ⟨a, h1, h2⟩ _, h => ⟨a, _, (Option.some.inj h).symm.trans h1, rfl, h2⟩
  | _, _, i + 1, r, .cons _ t, h => Tups.get (i := i) t h
def EvLT (te : TE) (σ : L2.St) (H : Hp) (ts : List (List V)) : Prop := ∀ H1, Ex H H1 → ∀ Q : VK, (∀ p rs H2, H1 p = none → Ex H1 H2 → H2 p = some (.lst rs) → Tups H2 rs ts → Q (.ref p) H2) → te σ H1 Q
def EvAT (ta : TA) (σ : L2.St) (H : Hp) (ts : List (List V)) : Prop := ∀ H1, Ex H H1 → ∀ Q : List V → Hp → Prop, (∀ rs H2, Ex H1 H2 → Tups H2 rs ts → Q rs H2) → ta σ H1 Q
theorem eat_nil : EvAT tNil σ H [] := fun H1 _ _ q => q [] H1 (Ex.refl H1) .nil
theorem eat_cons {tr : TA} {t : List V} {ts : List (List V)} (h : EvU te σ H t) (hr : EvAT tr σ H ts) : EvAT (tCons te tr) σ H (t :: ts) := fun H1 e _ q =>
  h H1 e _ fun p H2 _ e2 hp => hr H2 (e.trans e2) _ fun rs H3 e3 hs => q _ H3 (e2.trans e3) (.cons ⟨p, rfl, e3 _ _ hp⟩ hs)
theorem elt_lst {ta : TA} {ts : List (List V)} (h : EvAT ta σ H ts) (hz : ts.length ≤ 100000) : EvLT (tLst ta) σ H ts := fun H1 e _ q =>
  h H1 e _ fun rs H2 e2 hs => ⟨sz_of (by rw [hs.len]; exact hz), fun p hp => q p rs _ (fresh_back e2 hp) (e2.trans (Ex.new hp)) upd_same (hs.mono (Ex.new hp))⟩
theorem elt_cat {ta tb : TE} {a : Addr} {rs : List V} {ts us : List (List V)} (ha : Ev ta σ H (.ref a)) (h1 : H a = some (.lst rs)) (h2 : Tups H rs ts) (hb : EvLT tb σ H us) (hz : ts.length + us.length ≤ 100000) : EvLT (tOp rCat ta tb) σ H (ts ++ us) := fun H1 e Q q =>
  ha H1 e _ fun H2 e2 => hb H2 (e.trans e2) _ fun p qs H3 _ e3 hp hq => by
    have e03 := (e.trans e2).trans e3
    refine ⟨a, p, rs, qs, rfl, rfl, e03 _ _ h1, hp, sz_of (by rw [h2.len, hq.len]; exact hz), fun l hl => ?_⟩
    exact q l (rs ++ qs) _ (fresh_back (e2.trans e3) hl) ((e2.trans e3).trans (Ex.new hl)) upd_same (((h2.mono e03).app hq).mono (Ex.new hl))
theorem s_asgLT {i : Nat} {ts : List (List V)} (h : EvLT te σ H ts) (k : ∀ p rs H1, H p = none → Ex H H1 → H1 p = some (.lst rs) → Tups H1 rs ts → D.nx (σ.set i (some (.ref p))) H1) : tAsg te (gName i) D σ H := h H (Ex.refl H) _ fun p rs H1 hp e h1 h2 => k p rs H1 hp e h1 h2
theorem q_asgLT {i : Nat} {ts : List (List V)} (h : EvLT te σ H ts) (k : ∀ p rs H1, H p = none → Ex H H1 → H1 p = some (.lst rs) → Tups H1 rs ts → tz D (σ.set i (some (.ref p))) H1) : tSeq (tAsg te (gName i)) tz D σ H := s_asgLT (D := { D with nx := tz D }) h k
/-- for a, b, .. in a list of tuples: H0 is the heap at the first turn -/
theorem s_forTT {ts : List (List V)} {n : Nat} {gs : TGs} (h : EvLT te σ H ts) (hn : ∀ t ∈ ts, t.length = n) (Pv : Hp → Nat → L2.St → Hp → Prop) (h0 : ∀ H0, Ex H H0 → Pv H0 0 σ H0) (hl : ∀ H0 i σ' H', Pv H0 i σ' H' → Ex H0 H')
    (hs : ∀ H0 i t σ' H', Ex H H0 → ts[i]? = some t → Pv H0 i σ' H' → gs t σ' H' fun σ2 H2 => tu { D with nx := Pv H0 (i + 1), ct := Pv H0 (i + 1), bk := D.nx } σ2 H2) (hd : ∀ H0 σ' H', Ex H H0 → Pv H0 ts.length σ' H' → D.nx σ' H') :
    tFor (iList K te) (gTup K n gs) tu D σ H := h H (Ex.refl H) _ fun p rs H1 _ e h1 h2 => ⟨p, rfl, ⟨rs, sq_of h1⟩, for_list (xs := rs) (Pv H1) (h0 H1 e) (fun i σ' H' _ hp => sq_of (hl H1 i σ' H' hp _ _ h1)) (fun i x σ' H' hx hp => by
      obtain ⟨a, t, rfl, ht, ha⟩ := h2.get hx
      exact ⟨a, t, rfl, st_of (hl H1 i σ' H' hp _ _ ha), hn t (List.mem_of_getElem? ht), hs H1 i t σ' H' e ht hp⟩) (fun σ' H' hp => by
      rw [h2.len] at hp
      exact hd H1 σ' H' e hp)⟩
theorem q_forTT {ts : List (List V)} {n : Nat} {gs : TGs} (h : EvLT te σ H ts) (hn : ∀ t ∈ ts, t.length = n) (Pv : Hp → Nat → L2.St → Hp → Prop) (h0 : ∀ H0, Ex H H0 → Pv H0 0 σ H0) (hl : ∀ H0 i σ' H', Pv H0 i σ' H' → Ex H0 H')
    (hs : ∀ H0 i t σ' H', Ex H H0 → ts[i]? = some t → Pv H0 i σ' H' → gs t σ' H' fun σ2 H2 => tu { D with nx := Pv H0 (i + 1), ct := Pv H0 (i + 1), bk := tz D } σ2 H2) (hd : ∀ H0 σ' H', Ex H H0 → Pv H0 ts.length σ' H' → tz D σ' H') :
    tSeq (tFor (iList K te) (gTup K n gs) tu) tz D σ H := s_forTT (D := { D with nx := tz D }) h hn Pv h0 hl hs hd
theorem elt_old {a : Addr} {rs : List V} {ts : List (List V)} (ha : Ev te σ H (.ref a)) (h1 : H a = some (.lst rs)) (h2 : Tups H rs ts) : ∀ H1, Ex H H1 → ∀ Q : VK, (∀ p rs H2, Ex H1 H2 → H2 p = some (.lst rs) → Tups H2 rs ts → Q (.ref p) H2) → te σ H1 Q := fun H1 e Q q =>
  ha H1 e _ fun H2 e2 => q a rs H2 e2 (e2 _ _ (e _ _ h1)) (h2.mono (e.trans e2))
theorem et_yes : EvT tYes σ H true := fun H1 _ _ q => q H1 (Ex.refl H1)
theorem given_all (n : Nat) (v : Nat → V) : given n (fun _ => true) v = (List.range n).map v := by
  unfold given
  rw [List.filter_eq_self.mpr (fun _ _ => rfl)]
end
end Tf

namespace Tf
open PySem PySem.Spec PyProof.Rows L2 Evl
def topS (i : Nat) : Stmt := PySem.Challenge.pw_turnfigures_k02_whole_lengths.main.body.getD i (.Pass ⟨0, 0, 0, 0⟩)
/-- names that are still the built-in ones -/
structure Nm (mg : Str → Option Value) : Prop where
  n_isinstance : mg "isinstance" = none
  n_int : mg "int" = none
  n_bool : mg "bool" = none
  n_str : mg "str" = none
  n_list : mg "list" = none
  n_all : mg "all" = none
  n_any : mg "any" = none
  n_abs : mg "abs" = none
  n_sum : mg "sum" = none
  n_range : mg "range" = none
  n_enumerate : mg "enumerate" = none
  n_len : mg "len" = none
end Tf

namespace Tf
open PySem PySem.Spec PyProof.Rows L2 Evl
/-! ### texts of sides -/
def sd (fr : Bool) : Str := if fr then "front" else "behind"
abbrev vs' (fr : Bool) : V := .str (sd fr)
theorem sd_eq (fr : Bool) : decide (V.str (sd fr) = V.str "front") = fr := by
  cases fr <;> decide +kernel
theorem tyx_mono {K : PySem.W.Frag} {H H' : Hp} {x : V} {t : Value} (e : Ex H H') (h : TyX K H x t) : TyX K H' x t := by
  cases h with
  | base h =>
    cases h with
    | non => exact .base .non
    | bl x => exact .base (.bl x)
    | int i => exact .base (.int i)
    | str x => exact .base (.str x)
    | flt x => exact .base (.flt x)
    | lst h => exact .base (.lst (e _ _ h))
    | frz h => exact .base (.frz (e _ _ h))
    | tup h => exact .base (.tup (e _ _ h))
    | dK h => exact .base (.dK (e _ _ h))
    | dT h => exact .base (.dT (e _ _ h))
    | ins h a b c d f => exact .base (.ins (e _ _ h) a b c d f)
  | byt b => exact .byt b
  | set h => exact .set (e _ _ h)
  | kList h c => exact .kList h c
  | kTuple h c => exact .kTuple h c
  | kDict h c => exact .kDict h c
  | fTuple h => exact .fTuple (e _ _ h)
  | fDict h => exact .fDict (e _ _ h)
section
variable {P : Program} {w : World} {K : PySem.W.Frag} {mg : Str → Option Value} {base : Heap}
def R_is_whole (K : PySem.W.Frag) : List V → Hp → V → Prop := fun vs H v => ∃ (x : V) (t : String) (b c : Bool), vs = [x] ∧ TyX K H x (.type t) ∧ kitB t "int" = some b ∧ kitB t "bool" = some c ∧ v = .bl (b && !c)
theorem r_whole {K : PySem.W.Frag} {H : Hp} (i : Int) : R_is_whole K [.int i] H (.bl true) := ⟨.int i, "int", true, false, rfl, .base (.int i), by decide +kernel, by decide +kernel, rfl⟩
abbrev s_is_whole : Stmt := topS 8
abbrev N_is_whole : List Str := ["thing"]
abbrev P_is_whole : List Str := ["thing"]
theorem sc_is_whole : FnScope N_is_whole P_is_whole (defScope s_is_whole) := ⟨rfl, rfl, rfl, by decide +kernel, rfl, by decide +kernel, by decide +kernel⟩

theorem ok_is_whole {f : Addr} {fd : FuncData} (T : Nm mg) (F : Fun K "is_whole" "is_whole" s_is_whole f fd) : FnOk P w K mg base CX0 1 f fd P_is_whole (spV (R_is_whole K)) := by
  refine F.ok sc_is_whole (fun vs H Q E h => ?_) (fun cdv A outer s H vs Q E hr h => ?_)
  · obtain ⟨v, ⟨x, t, b, c, rfl, _⟩, _⟩ := h
    rfl
  · obtain ⟨v, ⟨x, t, b, c, rfl, hx, hb, hc, rfl⟩, k⟩ := h
    refine ⟨_, (pss_one (ps_ret (pe_and (pe_callB call_isi (by rfl) T.n_isinstance (by decide +kernel) (pa_cons (pv 0) (pa_cons (pe_bltn (v := .ty "int") (by rfl) T.n_int (by decide +kernel) rfl) pa_nil))) (pe_one (pe_not (pe_callB call_isi (by rfl) T.n_isinstance (by decide +kernel) (pa_cons (pv 0) (pa_cons (pe_bltn (v := .ty "bool") (by rfl) T.n_bool (by decide +kernel) rfl) pa_nil)))))))), ?_⟩
    refine s_ret (ev_andV (ev_isi (ev_var rfl) (fun H1 e => tyx_mono e hx) hb) fun _ => ev_notV (ev_isi (ev_var rfl) (fun H1 e => tyx_mono e hx) hc)) k
def R_asked_base : List V → Hp → V → Prop := fun vs _ v => ∃ b : Nat, vs = [vi b] ∧ 3 ≤ b ∧ b ≤ 36 ∧ v = .non
abbrev s_asked_base : Stmt := topS 9
abbrev N_asked_base : List Str := ["base"]
abbrev P_asked_base : List Str := ["base"]
theorem sc_asked_base : FnScope N_asked_base P_asked_base (defScope s_asked_base) := ⟨rfl, rfl, rfl, by decide +kernel, rfl, by decide +kernel, by decide +kernel⟩

theorem ok_asked_base {f : Addr} {fd : FuncData} (F : Fun K "asked_base" "asked_base" s_asked_base f fd) (h_is_whole : Has P w K mg base "is_whole" P_is_whole 1 (spV (R_is_whole K))) : FnOk P w K mg base CX0 2 f fd P_asked_base (spV R_asked_base) := by
  refine F.ok sc_asked_base (fun vs H Q E h => ?_) (fun cdv A outer s H vs Q E hr h => ?_)
  · obtain ⟨v, ⟨b, rfl, _⟩, _⟩ := h
    rfl
  · obtain ⟨v, ⟨b, rfl, h1, h2, rfl⟩, k⟩ := h
    refine ⟨_, (pss_one (ps_if (PW.pt (pw_or (pt_not (pt_val (pe_fn h_is_whole hr (by rfl) (pa_cons (pv 0) pa_nil)))) (pw_or1 (pt_not (pt_chain op_le op_le pe_int (pv 0) pe_int))))) (pss_one ps_never) pss_nil)), ?_⟩
    refine s_when (b := false) (et_is (et_or (et_not (et_B (ev_fn (ea_cons (ev_var rfl) ea_nil) fun _ _ => r_whole _))) fun _ => et_not (et_test (ev_chain ev_c (ev_var rfl) rv_I0 ev_c rv_I0))) ?_) (fun z => nomatch z) (fun _ H1 e1 => k H1 e1)
    have a1 : decide ((3 : Int) ≤ (b : Int)) = true := decide_eq_true (by omega)
    have a2 : decide ((b : Int) ≤ (36 : Int)) = true := decide_eq_true (by omega)
    rw [a1, a2]
    rfl
def R_asked_number : List V → Hp → V → Prop := fun vs _ v => ∃ n : Nat, vs = [vi n] ∧ 1 ≤ n ∧ v = .non
def R_asked_side : List V → Hp → V → Prop := fun vs _ v => ∃ fr : Bool, vs = [vs' fr] ∧ v = .non
/-- the module's SIDES -/
structure Sides (K : PySem.W.Frag) (mg : Str → Option Value) (a : Addr) : Prop where
  g : mg "SIDES" = some (.ref a)
  t : ∀ H : Hp, SqT K H a [.str "front", .str "behind"]
theorem in_sides (fr : Bool) : inV (.str (sd fr)) [.str "front", .str "behind"] = true := by
  cases fr <;> decide +kernel
abbrev s_asked_side : Stmt := topS 10
abbrev N_asked_side : List Str := ["side"]
abbrev P_asked_side : List Str := ["side"]
theorem sc_asked_side : FnScope N_asked_side P_asked_side (defScope s_asked_side) := ⟨rfl, rfl, rfl, by decide +kernel, rfl, by decide +kernel, by decide +kernel⟩

theorem ok_asked_side {f aS : Addr} {fd : FuncData} (T : Nm mg) (S : Sides K mg aS) (F : Fun K "asked_side" "asked_side" s_asked_side f fd) : FnOk P w K mg base CX0 1 f fd P_asked_side (spV R_asked_side) := by
  refine F.ok sc_asked_side (fun vs H Q E h => ?_) (fun cdv A outer s H vs Q E hr h => ?_)
  · obtain ⟨v, ⟨b, rfl, _⟩, _⟩ := h
    rfl
  · obtain ⟨v, ⟨fr, rfl, rfl⟩, k⟩ := h
    refine ⟨_, (pss_one (ps_if (PW.pt (pw_or (pt_not (pt_val (pe_callB call_isi (by rfl) T.n_isinstance (by decide +kernel) (pa_cons (pv 0) (pa_cons (pe_bltn (v := .ty "str") (by rfl) T.n_str (by decide +kernel) rfl) pa_nil))))) (pw_or1 (pt_cmpR op_notIn_seq (pv 0) (pe_glob (v := .ref aS) rfl S.g rfl) (by rfl))))) (pss_one ps_never) pss_nil)), ?_⟩
    refine s_when (b := false) (et_is (et_or (et_not (et_B (ev_isi (b := true) (ev_var rfl) (fun H1 e => .base (.str _)) (by decide +kernel)))) fun _ => et_test (ev_op (ev_var rfl) ev_c (rv_niT (S.t _) rfl rfl))) ?_) (fun z => nomatch z) (fun _ H1 e1 => k H1 e1)
    rw [in_sides]
    rfl
def R_figs : List V → Hp → List V → Prop := fun vs _ xs => ∃ b n : Nat, vs = [vi b, vi n] ∧ 2 ≤ b ∧ b ≤ 36 ∧ n < 2 ^ 50000 ∧ xs = vl (figs b n)
def R_figures : List V → Hp → List V → Prop := fun vs _ xs => ∃ b n : Nat, vs = [vi b, vi n] ∧ 3 ≤ b ∧ b ≤ 36 ∧ 1 ≤ n ∧ n < 2 ^ 50000 ∧ xs = vl (figs b n)
def R_worth (K : PySem.W.Frag) : List V → Hp → V → Prop := fun vs H v => ∃ (b : Nat) (a : Addr) (ds : List Nat), vs = [vi b, .ref a] ∧ b ≤ 36 ∧ SqL K H a (vl ds) ∧ v = vi (wr b ds)
theorem get_vl {ds : List Nat} {i : Nat} {x : V} (h : (vl ds)[i]? = some x) : ∃ d, ds[i]? = some d ∧ x = vi d := by
  rw [List.getElem?_map] at h
  cases e : ds[i]? with
  | none =>
    rw [e] at h
    cases h
  | some d =>
    rw [e] at h
    exact ⟨d, rfl, (Option.some.inj h).symm⟩
def R_number_of (K : PySem.W.Frag) : List V → Hp → V → Prop := fun vs H v => ∃ (b : Nat) (a : Addr) (ds : List Nat), vs = [vi b, .ref a] ∧ 3 ≤ b ∧ b ≤ 36 ∧ H a = some (.lst (vl ds)) ∧ ds.length ≤ 20000 ∧ (∀ d ∈ ds, d < b) ∧ (∃ d, ds[0]? = some d ∧ 0 < d) ∧ v = vi (wr b ds)
/-! slices of rows -/
theorem cut_last (ds : List Nat) : cutV (vl ds) (some (-1)) none = vl (ds.drop (ds.length - 1)) := by
  unfold cutV
  rw [HT.sIx_none, List.length_map]
  have e : HT.sIx ds.length 0 (some (-1)) = ds.length - 1 := by
    show (if (-1 : Int) < 0 then (-1 + (ds.length : Int)).toNat else min (-1 : Int).toNat ds.length) = _
    rw [if_pos (by decide)]
    omega
  rw [e, List.take_of_length_le (by rw [List.length_drop, List.length_map]; omega), vl_drop]
theorem cut_init (ds : List Nat) : cutV (vl ds) none (some (-1)) = vl (ds.take (ds.length - 1)) := by
  unfold cutV
  rw [HT.sIx_none, List.length_map, List.drop_zero]
  have e : HT.sIx ds.length ds.length (some (-1)) = ds.length - 1 := by
    show (if (-1 : Int) < 0 then (-1 + (ds.length : Int)).toNat else min (-1 : Int).toNat ds.length) = _
    rw [if_pos (by decide)]
    omega
  rw [e, vl_take, Nat.sub_zero]
theorem cut_from (ds : List Nat) (k : Nat) : cutV (vl ds) (some (k : Int)) none = vl (ds.drop k) := by
  unfold cutV
  rw [HT.sIx_none, HT.sIx_nat, List.length_map, List.take_of_length_le (by rw [List.length_drop, List.length_map]; omega), vl_drop]
  by_cases h : k ≤ ds.length
  · rw [Nat.min_eq_left h]
  · rw [Nat.min_eq_right (by omega), List.drop_of_length_le (by simp), List.drop_of_length_le (by simp; omega)]
theorem cut_to (ds : List Nat) (k : Nat) : cutV (vl ds) none (some (k : Int)) = vl (ds.take k) := by
  unfold cutV
  rw [HT.sIx_none, HT.sIx_nat, List.length_map, List.drop_zero, Nat.sub_zero, vl_take]
  by_cases h : k ≤ ds.length
  · rw [Nat.min_eq_left h]
  · rw [Nat.min_eq_right (by omega), List.take_of_length_le (by simp), List.take_of_length_le (by simp; omega)]
def R_moved_of : List V → Hp → V → Prop := fun vs _ v => ∃ (b n : Nat) (fr : Bool), vs = [vi b, vi n, vs' fr] ∧ 2 ≤ b ∧ b ≤ 36 ∧ n < 2 ^ 50000 ∧ v = vi (mv b n fr)
def R_moved : List V → Hp → V → Prop := fun vs _ v => ∃ (b n : Nat) (fr : Bool), vs = [vi b, vi n, vs' fr] ∧ 3 ≤ b ∧ b ≤ 36 ∧ 1 ≤ n ∧ n < 2 ^ 50000 ∧ v = vi (mv b n fr)
end
end Tf

namespace Tf
open PySem PySem.Spec PyProof.Rows L2 Evl
/-! ### answers.py, turning.py: lengths -/
def optV : Option Nat → V
  | none => .non
  | some k => vi k
theorem optV_eq (x y : Option Nat) : decide (optV x = optV y) = decide (x = y) := by
  cases x with
  | none =>
    cases y with
    | none => rfl
    | some k => rfl
  | some k =>
    cases y with
    | none => rfl
    | some l =>
      by_cases h : k = l
      · subst h
        rw [decide_eq_true rfl, decide_eq_true rfl]
      · rw [decide_eq_false, decide_eq_false]
        · intro e
          exact h (Option.some.inj e)
        · intro e
          have := V.int.inj e
          omega
theorem scal_opt (x y : Option Nat) : scal (optV x) (optV y) = true := by
  cases x <;> cases y <;> rfl
theorem vi_inj {a b : Nat} (h : vi a = vi b) : a = b := by
  have := V.int.inj h
  omega
section
variable {P : Program} {w : World} {K : PySem.W.Frag} {mg : Str → Option Value} {base : Heap}
def R_common : List V → Hp → V → Prop := fun vs _ v => ∃ a b : Nat, vs = [vi a, vi b] ∧ v = vi (Nat.gcd a b)
abbrev s_common : Stmt := topS 12
abbrev N_common : List Str := ["one", "other"]
abbrev P_common : List Str := ["one", "other"]
theorem sc_common : FnScope N_common P_common (defScope s_common) := ⟨rfl, rfl, rfl, by decide +kernel, rfl, by decide +kernel, by decide +kernel⟩

theorem ok_common {f : Addr} {fd : FuncData} (F : Fun K "common" "common" s_common f fd) : FnOk P w K mg base CX0 1 f fd P_common (spV R_common) := by
  refine F.ok sc_common (fun vs H Q E h => ?_) (fun cdv A outer s H vs Q E hr h => ?_)
  · obtain ⟨v, ⟨a, b, rfl, _⟩, _⟩ := h
    rfl
  · obtain ⟨v, ⟨a, b, rfl, rfl⟩, k⟩ := h
    refine ⟨_, (pss_cons (ps_while PassesOwn.never (pt_cmpR op_gt (pv 1) pe_int (nomark _)) (pss_one (ps_par (i := 0) (j := 1) (by rfl) sc_common.nd rfl rfl (by decide) rfl rfl (pa_cons (pv 1) (pa_cons (pe_op op_mod (pv 0) (pv 1)) pa_nil)) (by rfl))))
      (pss_one (ps_ret (pv 0)))), ?_⟩
    refine q_while (fun m σ H' => ∃ x : Nat, σ = [some (vi x), some (vi m)] ∧ Ex H H' ∧ Nat.gcd x m = Nat.gcd a b) b ⟨a, rfl, Ex.refl _, rfl⟩ ?_
    rintro m σ' H' ⟨x, rfl, e1, hg⟩
    refine ⟨_, et_test (ev_op (ev_var rfl) ev_c rv_I0), fun hm H3 e3 => ⟨_, fun σ2 H2 z => z, ?_⟩, fun hm H3 e3 => ?_⟩
    · have hm' : 0 < m := by
        have := of_decide_eq_true hm
        omega
      refine s_par (ea_cons (ev_var rfl) (ea_cons (ev_op (ev_var rfl) (ev_var rfl) (rv_I (show (0 : Int) < (m : Int) by omega))) ea_nil)) fun H4 e4 => ⟨x % m, Nat.mod_lt _ hm', m, rfl, (e1.trans e3).trans e4, ?_⟩
      rw [Nat.gcd_comm, ← Nat.gcd_rec, Nat.gcd_comm]
      exact hg
    · have hm' : m = 0 := by
        have := of_decide_eq_false hm
        omega
      subst hm'
      rw [Nat.gcd_zero_right] at hg
      subst hg
      exact s_ret (ev_var rfl) fun H4 e4 => k H4 ((e1.trans e3).trans e4)
def R_often_back : List V → Hp → V → Prop := fun vs _ v => ∃ g n : Nat, vs = [vi g, vi n] ∧ 1 ≤ g ∧ g ≤ 36 ∧ 1 ≤ n ∧ n ≤ 2000 ∧ v = optV (backOf g n)
abbrev s_often_back : Stmt := topS 13
abbrev N_often_back : List Str := ["number", "rest", "found", "here"]
abbrev P_often_back : List Str := ["number", "rest"]
theorem sc_often_back : FnScope N_often_back P_often_back (defScope s_often_back) := ⟨rfl, rfl, rfl, by decide +kernel, rfl, by decide +kernel, by decide +kernel⟩

theorem ok_often_back {f : Addr} {fd : FuncData} (F : Fun K "often_back" "often_back" s_often_back f fd) (h_common : Has P w K mg base "common" P_common 1 (spV R_common)) : FnOk P w K mg base CX0 2 f fd P_often_back (spV R_often_back) := by
  refine F.ok sc_often_back (fun vs H Q E h => ?_) (fun cdv A outer s H vs Q E hr h => ?_)
  · obtain ⟨v, ⟨a, b, rfl, _⟩, _⟩ := h
    rfl
  · obtain ⟨v, ⟨g, n, rfl, g1, g2, n1, n2, rfl⟩, k⟩ := h
    refine ⟨_, (pss_cons (ps_if (pt_cmpR op_gt (pe_fn h_common hr (by rfl) (pa_cons (pv 0) (pa_cons (pv 1) pa_nil))) pe_int (nomark _)) (pss_one (ps_ret pe_non)) pss_nil)
      (pss_cons (ps_par (i := 2) (j := 3) (by rfl) sc_often_back.nd rfl rfl (by decide) rfl rfl (pa_cons pe_int (pa_cons (pe_op op_mod (pv 0) (pv 1)) pa_nil)) (by rfl))
      (pss_cons (ps_while PassesOwn.never (pt_cmpR op_ne (pv 3) (pe_op op_mod pe_int (pv 1)) (nomark _)) (pss_cons (ps_set (i := 3) sc_often_back.nd rfl (.inl rfl) (pe_op op_mod (pe_op op_mul (pv 3) (pv 0)) (pv 1)))
      (pss_one (ps_set (i := 2) sc_often_back.nd rfl (.inl rfl) (pe_op op_add (pv 2) pe_int)))))
      (pss_one (ps_ret (pv 2)))))), ?_⟩
    unfold backOf at k
    refine q_when (et_test (ev_op (ev_fn (ea_cons (ev_var rfl) (ea_cons (ev_var rfl) ea_nil)) fun _ _ => ⟨g, n, rfl, rfl⟩) ev_c rv_I0)) (fun hb H1 e1 => ?_) (fun hb H1 e1 => ?_)
    · refine s_ret ev_c fun H2 e2 => ?_
      have hg : Nat.gcd g n > 1 := by
        have := of_decide_eq_true hb
        omega
      rw [if_pos hg] at k
      exact k H2 (e1.trans e2)
    · have hg : ¬ Nat.gcd g n > 1 := by
        have := of_decide_eq_false hb
        omega
      rw [if_neg hg] at k
      have hg1 : Nat.gcd g n = 1 := by
        have := Nat.gcd_pos_of_pos_left n g1
        omega
      have o := ordN_is g1 n1 hg1
      generalize ordN g n = N at *
      refine q_par (ea_cons ev_c (ea_cons (ev_op (ev_var rfl) (ev_var rfl) (rv_I (show (0 : Int) < (n : Int) by omega))) ea_nil)) fun H2 e2 => ?_
      refine q_while (fun m σ H' => ∃ t : Nat, σ = [some (vi g), some (vi n), some (vi t), some (vi (g ^ t % n))] ∧ Ex H H' ∧ 1 ≤ t ∧ t + m = N) (N - 1) ⟨1, ?_, e1.trans e2, Nat.le_refl _, ?_⟩ ?_
      · rw [Nat.pow_one]
        rfl
      · have := o.pos
        omega
      rintro m σ' H' ⟨t, rfl, e3, t1, tm⟩
      refine ⟨_, et_test (ev_op (ev_var rfl) (ev_op ev_c (ev_var rfl) (rv_I (show (0 : Int) < (n : Int) by omega))) (rv_ne rfl)), fun hm H3 e4 => ⟨_, fun σ2 H2 z => z, ?_⟩, fun hm H3 e4 => ?_⟩
      · have hm' : m ≠ 0 := fun z => by
          have z2 : t = N := by omega
          rw [z2, o.one] at hm
          have z3 : decide (vi (1 % n) = V.int (1 % (n : Int))) = true := decide_eq_true rfl
          rw [z3] at hm
          cases hm
        have hlt := Nat.mod_lt (g ^ t) n1
        refine q_asg (v := vi (g ^ (t + 1) % n)) (ev_is (ev_op (ev_op (ev_var rfl) (ev_var rfl) (rv_I (.inl ⟨?_, ?_⟩))) (ev_var rfl) (rv_I (show (0 : Int) < (n : Int) by omega))) ?_) fun H5 e5 => ?_
        · show (-(2 ^ 64) : Int) < ((g ^ t % n : Nat) : Int)
          omega
        · show ((g ^ t % n : Nat) : Int) < 2 ^ 64
          omega
        · have z : g ^ (t + 1) % n = g ^ t % n * g % n := by
            rw [Nat.pow_succ]
            exact mod_mul (Nat.mod_mod _ _).symm rfl
          rw [z]
          rfl
        · exact s_asg (ev_op (ev_var rfl) ev_c rv_I0) fun H6 e6 => ⟨m - 1, by omega, t + 1, rfl, (((e3.trans e4).trans e5).trans e6), by omega, by omega⟩
      · have hm' : t = N := by
          have z1 : vi (g ^ t % n) = V.int (1 % (n : Int)) := by
            cases q : decide (vi (g ^ t % n) = V.int (1 % (n : Int))) with
            | true => exact of_decide_eq_true q
            | false =>
              rw [q] at hm
              cases hm
          have z2 : g ^ t % n = 1 % n := vi_inj (z1.trans rfl)
          rcases Nat.lt_or_ge t N with z | z
          · exact absurd z2 (o.least t t1 z)
          · omega
        subst hm'
        exact s_ret (ev_var rfl) fun H4 e5 => k H4 ((e3.trans e4).trans e5)
def R_length_of : List V → Hp → V → Prop := fun vs _ v => ∃ (b f : Nat) (fr : Bool) (d : Nat), vs = [vi b, vi f, vs' fr, vi d] ∧ Bfd b f d ∧ v = optV (lenOf b f fr d)
theorem cast_pred {n : Nat} (h : 1 ≤ n) : (n : Int) - 1 = ((n - 1 : Nat) : Int) := by omega
theorem cast_mul_pred {a b : Nat} (h : 1 ≤ a * b) : (a : Int) * (b : Int) - 1 = ((a * b - 1 : Nat) : Int) := cast_pred (n := a * b) h
theorem cast_sub {a b : Nat} (h : b ≤ a) : (a : Int) - (b : Int) = ((a - b : Nat) : Int) := by omega
abbrev s_length_of : Stmt := topS 14
abbrev N_length_of : List Str := ["base", "factor", "side", "figure", "whole"]
abbrev P_length_of : List Str := ["base", "factor", "side", "figure"]
theorem sc_length_of : FnScope N_length_of P_length_of (defScope s_length_of) := ⟨rfl, rfl, rfl, by decide +kernel, rfl, by decide +kernel, by decide +kernel⟩

theorem ok_length_of {f : Addr} {fd : FuncData} (F : Fun K "length_of" "length_of" s_length_of f fd) (h_common : Has P w K mg base "common" P_common 1 (spV R_common)) (h_often_back : Has P w K mg base "often_back" P_often_back 2 (spV R_often_back)) : FnOk P w K mg base CX0 3 f fd P_length_of (spV R_length_of) := by
  refine F.ok sc_length_of (fun vs H Q E h => ?_) (fun cdv A outer s H vs Q E hr h => ?_)
  · obtain ⟨v, ⟨b, f, fr, d, rfl, _⟩, _⟩ := h
    rfl
  · obtain ⟨v, ⟨b, f, fr, d, rfl, B, rfl⟩, k⟩ := h
    refine ⟨_, (pss_cons (ps_if (pt_cmpR op_eq (pv 2) pe_str (nomark _)) (pss_cons (ps_set (i := 4) sc_length_of.nd rfl (.inl rfl) (pe_op op_sub (pe_op op_mul (pv 1) (pv 0)) pe_int))
      (pss_one (ps_ret (pe_ifExp (pt_cmpR op_ge (pv 3) (pv 1) (nomark _)) (pe_fn h_often_back hr (by rfl) (pa_cons (pv 0) (pa_cons (pe_op op_fdiv (pv 4) (pe_fn h_common hr (by rfl) (pa_cons (pv 4) (pa_cons (pv 3) pa_nil)))) pa_nil))) pe_non)))) pss_nil)
      (pss_cons (ps_set (i := 4) sc_length_of.nd rfl (.inl rfl) (pe_op op_sub (pv 0) (pv 1)))
      (pss_one (ps_ret (pe_ifExp (pt_cmpR op_le (pe_op op_mul (pe_op op_add (pv 3) pe_int) (pv 1)) (pv 0) (nomark _)) (pe_fn h_often_back hr (by rfl) (pa_cons (pv 1) (pa_cons (pe_op op_fdiv (pv 4) (pe_fn h_common hr (by rfl) (pa_cons (pv 4) (pa_cons (pv 3) pa_nil)))) pa_nil))) pe_non))))), ?_⟩
    have n5 := B.n5
    have nle := B.nle
    obtain ⟨b3, b36, f2, fb, d1, db⟩ := id B
    refine q_when (b := fr) (et_is (et_test (ev_op (ev_var rfl) ev_c (rv_eq rfl))) (sd_eq fr)) (fun hb H1 e1 => ?_) (fun hb H1 e1 => ?_)
    · subst hb
      refine q_asg (v := vi (f * b - 1)) (ev_is (ev_op (ev_op (ev_var rfl) (ev_var rfl) (rv_I (.inl ⟨show (-(2 ^ 64) : Int) < (f : Int) by omega, show (f : Int) < 2 ^ 64 by omega⟩))) ev_c rv_I0) ?_) fun H2 e2 => ?_
      · exact congrArg V.int (cast_mul_pred (by omega))
      have gp := Nat.gcd_pos_of_pos_left d (show 0 < f * b - 1 by omega)
      have gl : Nat.gcd (f * b - 1) d ≤ d := Nat.gcd_le_right _ (by omega)
      have cp := cut_pos (n := f * b - 1) (d := d) (by omega)
      have cl := cut_le (f * b - 1) d
      refine s_ret (v := optV (lenOf b f true d)) (ev_if (b := decide (f ≤ d)) (et_is (et_test (ev_op (ev_var rfl) (ev_var rfl) rv_I0)) ?_) (fun hd => ?_) (fun hd => ?_)) fun H3 e3 => k H3 ((e1.trans e2).trans e3)
      · by_cases z : f ≤ d
        · rw [decide_eq_true z, decide_eq_true (show (f : Int) ≤ (d : Int) by omega)]
        · rw [decide_eq_false z, decide_eq_false (show ¬ (f : Int) ≤ (d : Int) by omega)]
      · refine ev_fn (ea_cons (ev_var rfl) (ea_cons (ev_op (ev_var rfl) (ev_fn (ea_cons (ev_var rfl) (ea_cons (ev_var rfl) ea_nil)) fun _ _ => ⟨f * b - 1, d, rfl, rfl⟩) (rv_I ⟨show (0 : Int) < ((Nat.gcd (f * b - 1) d : Nat) : Int) by omega, show ((Nat.gcd (f * b - 1) d : Nat) : Int) < 1073741824 by omega⟩)) ea_nil)) fun _ _ => ⟨b, cut (f * b - 1) d, rfl, by omega, b36, cp, by omega, ?_⟩
        show optV (if f ≤ d then backOf b (cut (f * b - 1) d) else none) = _
        rw [if_pos (of_decide_eq_true hd)]
      · refine ev_is ev_c ?_
        show _ = optV (if f ≤ d then backOf b (cut (f * b - 1) d) else none)
        rw [if_neg (of_decide_eq_false hd)]
        rfl
    · subst hb
      refine q_asg (v := vi (b - f)) (ev_is (ev_op (ev_var rfl) (ev_var rfl) rv_I0) ?_) fun H2 e2 => ?_
      · exact congrArg V.int (cast_sub (by omega))
      have gp := Nat.gcd_pos_of_pos_left d (show 0 < b - f by omega)
      have gl : Nat.gcd (b - f) d ≤ d := Nat.gcd_le_right _ (by omega)
      have cp := cut_pos (n := b - f) (d := d) (by omega)
      have cl := cut_le (b - f) d
      refine s_ret (v := optV (lenOf b f false d)) (ev_if (b := decide ((d + 1) * f ≤ b)) (et_is (et_test (ev_op (ev_op (ev_op (ev_var rfl) ev_c rv_I0) (ev_var rfl) (rv_I (.inr ⟨show (-(2 ^ 64) : Int) < (f : Int) by omega, show (f : Int) < 2 ^ 64 by omega⟩))) (ev_var rfl) rv_I0)) ?_) (fun hd => ?_) (fun hd => ?_)) fun H3 e3 => k H3 ((e1.trans e2).trans e3)
      · have e : ((d : Int) + 1) * (f : Int) = (((d + 1) * f : Nat) : Int) := rfl
        rw [e]
        by_cases z : (d + 1) * f ≤ b
        · rw [decide_eq_true z, decide_eq_true (Int.ofNat_le.mpr z)]
        · rw [decide_eq_false z, decide_eq_false (fun q => z (Int.ofNat_le.mp q))]
      · refine ev_fn (ea_cons (ev_var rfl) (ea_cons (ev_op (ev_var rfl) (ev_fn (ea_cons (ev_var rfl) (ea_cons (ev_var rfl) ea_nil)) fun _ _ => ⟨b - f, d, rfl, rfl⟩) (rv_I ⟨show (0 : Int) < ((Nat.gcd (b - f) d : Nat) : Int) by omega, show ((Nat.gcd (b - f) d : Nat) : Int) < 1073741824 by omega⟩)) ea_nil)) fun _ _ => ⟨f, cut (b - f) d, rfl, by omega, by omega, cp, by omega, ?_⟩
        show optV (if (d + 1) * f ≤ b then backOf f (cut (b - f) d) else none) = _
        rw [if_pos (of_decide_eq_true hd)]
      · refine ev_is ev_c ?_
        show _ = optV (if (d + 1) * f ≤ b then backOf f (cut (b - f) d) else none)
        rw [if_neg (of_decide_eq_false hd)]
        rfl
def R_asked_factor : List V → Hp → V → Prop := fun vs _ v => ∃ b f : Nat, vs = [vi b, vi f] ∧ 2 ≤ f ∧ f < b ∧ v = .non
abbrev s_asked_factor : Stmt := topS 16
abbrev N_asked_factor : List Str := ["base", "factor"]
abbrev P_asked_factor : List Str := ["base", "factor"]
theorem sc_asked_factor : FnScope N_asked_factor P_asked_factor (defScope s_asked_factor) := ⟨rfl, rfl, rfl, by decide +kernel, rfl, by decide +kernel, by decide +kernel⟩

theorem ok_asked_factor {f : Addr} {fd : FuncData} (F : Fun K "asked_factor" "asked_factor" s_asked_factor f fd) (h_is_whole : Has P w K mg base "is_whole" P_is_whole 1 (spV (R_is_whole K))) : FnOk P w K mg base CX0 2 f fd P_asked_factor (spV R_asked_factor) := by
  refine F.ok sc_asked_factor (fun vs H Q E h => ?_) (fun cdv A outer s H vs Q E hr h => ?_)
  · obtain ⟨v, ⟨b, f, rfl, _⟩, _⟩ := h
    rfl
  · obtain ⟨v, ⟨b, f, rfl, h1, h2, rfl⟩, k⟩ := h
    refine ⟨_, (pss_one (ps_if (PW.pt (pw_or (pt_not (pt_val (pe_fn h_is_whole hr (by rfl) (pa_cons (pv 1) pa_nil)))) (pw_or1 (pt_not (pt_chain op_le op_lt pe_int (pv 1) (pv 0)))))) (pss_one ps_never) pss_nil)), ?_⟩
    refine s_when (b := false) (et_is (et_or (et_not (et_B (ev_fn (ea_cons (ev_var rfl) ea_nil) fun _ _ => r_whole _))) fun _ => et_not (et_test (ev_chain ev_c (ev_var rfl) rv_I0 (ev_var rfl) rv_I0))) ?_) (fun z => nomatch z) (fun _ H1 e1 => k H1 e1)
    rw [decide_eq_true (show (2 : Int) ≤ (f : Int) by omega), decide_eq_true (show (f : Int) < (b : Int) by omega)]
    rfl
def R_asked_figure : List V → Hp → V → Prop := fun vs _ v => ∃ b d : Nat, vs = [vi b, vi d] ∧ 1 ≤ d ∧ d < b ∧ v = .non
abbrev s_asked_figure : Stmt := topS 17
abbrev N_asked_figure : List Str := ["base", "figure"]
abbrev P_asked_figure : List Str := ["base", "figure"]
theorem sc_asked_figure : FnScope N_asked_figure P_asked_figure (defScope s_asked_figure) := ⟨rfl, rfl, rfl, by decide +kernel, rfl, by decide +kernel, by decide +kernel⟩

theorem ok_asked_figure {f : Addr} {fd : FuncData} (F : Fun K "asked_figure" "asked_figure" s_asked_figure f fd) (h_is_whole : Has P w K mg base "is_whole" P_is_whole 1 (spV (R_is_whole K))) : FnOk P w K mg base CX0 2 f fd P_asked_figure (spV R_asked_figure) := by
  refine F.ok sc_asked_figure (fun vs H Q E h => ?_) (fun cdv A outer s H vs Q E hr h => ?_)
  · obtain ⟨v, ⟨b, f, rfl, _⟩, _⟩ := h
    rfl
  · obtain ⟨v, ⟨b, d, rfl, h1, h2, rfl⟩, k⟩ := h
    refine ⟨_, (pss_one (ps_if (PW.pt (pw_or (pt_not (pt_val (pe_fn h_is_whole hr (by rfl) (pa_cons (pv 1) pa_nil)))) (pw_or1 (pt_not (pt_chain op_le op_lt pe_int (pv 1) (pv 0)))))) (pss_one ps_never) pss_nil)), ?_⟩
    refine s_when (b := false) (et_is (et_or (et_not (et_B (ev_fn (ea_cons (ev_var rfl) ea_nil) fun _ _ => r_whole _))) fun _ => et_not (et_test (ev_chain ev_c (ev_var rfl) rv_I0 (ev_var rfl) rv_I0))) ?_) (fun z => nomatch z) (fun _ H1 e1 => k H1 e1)
    rw [decide_eq_true (show (1 : Int) ≤ (d : Int) by omega), decide_eq_true (show (d : Int) < (b : Int) by omega)]
    rfl
abbrev s_least_many : Stmt := topS 18
abbrev N_least_many : List Str := ["base", "factor", "side", "figure"]
abbrev P_least_many : List Str := ["base", "factor", "side", "figure"]
theorem sc_least_many : FnScope N_least_many P_least_many (defScope s_least_many) := ⟨rfl, rfl, rfl, by decide +kernel, rfl, by decide +kernel, by decide +kernel⟩

theorem ok_least_many {f : Addr} {fd : FuncData} (F : Fun K "least_many" "least_many" s_least_many f fd) (h_asked_base : Has P w K mg base "asked_base" P_asked_base 2 (spV R_asked_base)) (h_asked_factor : Has P w K mg base "asked_factor" P_asked_factor 2 (spV R_asked_factor))
    (h_asked_side : Has P w K mg base "asked_side" P_asked_side 1 (spV R_asked_side)) (h_asked_figure : Has P w K mg base "asked_figure" P_asked_figure 2 (spV R_asked_figure)) (h_length_of : Has P w K mg base "length_of" P_length_of 3 (spV R_length_of)) : FnOk P w K mg base CX0 4 f fd P_least_many (spV R_length_of) := by
  refine F.ok sc_least_many (fun vs H Q E h => ?_) (fun cdv A outer s H vs Q E hr h => ?_)
  · obtain ⟨v, ⟨b, f, fr, d, rfl, _⟩, _⟩ := h
    rfl
  · obtain ⟨v, ⟨b, f, fr, d, rfl, B, rfl⟩, k⟩ := h
    refine ⟨_, (pss_cons (ps_expr (pe_fn h_asked_base hr (by rfl) (pa_cons (pv 0) pa_nil)))
      (pss_cons (ps_expr (pe_fn h_asked_factor hr (by rfl) (pa_cons (pv 0) (pa_cons (pv 1) pa_nil))))
      (pss_cons (ps_expr (pe_fn h_asked_side hr (by rfl) (pa_cons (pv 2) pa_nil)))
      (pss_cons (ps_expr (pe_fn h_asked_figure hr (by rfl) (pa_cons (pv 0) (pa_cons (pv 3) pa_nil))))
      (pss_one (ps_ret (pe_fn h_length_of hr (by rfl) (pa_cons (pv 0) (pa_cons (pv 1) (pa_cons (pv 2) (pa_cons (pv 3) pa_nil))))))))))), ?_⟩
    refine q_drop (ev_fn (v := .non) (ea_cons (ev_var rfl) ea_nil) fun _ _ => ⟨b, rfl, B.b3, B.b36, rfl⟩) fun H1 e1 => ?_
    refine q_drop (ev_fn (v := .non) (ea_cons (ev_var rfl) (ea_cons (ev_var rfl) ea_nil)) fun _ _ => ⟨b, f, rfl, B.f2, B.fb, rfl⟩) fun H2 e2 => ?_
    refine q_drop (ev_fn (v := .non) (ea_cons (ev_var rfl) ea_nil) fun _ _ => ⟨fr, rfl, rfl⟩) fun H3 e3 => ?_
    refine q_drop (ev_fn (v := .non) (ea_cons (ev_var rfl) (ea_cons (ev_var rfl) ea_nil)) fun _ _ => ⟨b, d, rfl, B.d1, B.db, rfl⟩) fun H4 e4 => ?_
    exact s_ret (ev_fn (ea_cons (ev_var rfl) (ea_cons (ev_var rfl) (ea_cons (ev_var rfl) (ea_cons (ev_var rfl) ea_nil)))) fun _ _ => ⟨b, f, fr, d, rfl, B, rfl⟩) fun H5 e5 => k H5 ((((e1.trans e2).trans e3).trans e4).trans e5)
end
end Tf

namespace Tf
open PySem PySem.Spec PyProof.Rows L2 Evl
/-! ### the law's own helpers -/
def lnum (c a wh : Int) : Int :=
  let c' := if (10 : Int) ^ 60 ≤ (c.natAbs : Int) then c % 10 ^ 18 else c
  if (10 : Int) ^ 18 ≤ c' then c' / (1 + a % 7)
  else
    let bl := ((c' + 977 * a) * 48271 + wh) % 2147483647
    bl * (c' + 31 * a + 7) * (bl + c' + 5) * (bl * bl + 11) / (1009 + a)
theorem div_abs_le {x y : Int} (hy : 0 < y) : (x / y).natAbs ≤ x.natAbs := by
  have h1 := Int.ediv_mul_le x (Int.ne_of_gt hy)
  have h2 := Int.lt_ediv_add_one_mul_self x hy
  by_cases hx : 0 ≤ x
  · have a := Int.ediv_nonneg hx (Int.le_of_lt hy)
    have b := Int.ediv_le_self y hx
    omega
  · have a : x / y < 0 := Int.ediv_neg_of_neg_of_pos (by omega) hy
    have b : x ≤ x / y := by
      have c : x / y * y ≤ x / y * 1 := Int.mul_le_mul_of_nonpos_left (by omega) (by omega)
      have d := Int.emod_lt_of_pos x hy
      have f := Int.mul_ediv_add_emod x y
      rw [Int.mul_comm] at f
      by_cases g : x / y = -1
      · omega
      · have y1 : (x / y + 1) * y ≤ (x / y + 1) * 1 := Int.mul_le_mul_of_nonpos_left (by omega) (by omega)
        omega
    omega
section
variable {P : Program} {w : World} {K : PySem.W.Frag} {mg : Str → Option Value} {base : Heap}
def R_lnum : List V → Hp → V → Prop := fun vs _ v => ∃ c a wh : Int, vs = [.int c, .int a, .int wh] ∧ 0 ≤ a ∧ a ≤ 1000 ∧ v = .int (lnum c a wh) 
abbrev s__law_number : Stmt := topS 20
abbrev N__law_number : List Str := ["_law_cell", "_law_at", "_law_whole", "_law_blend", "_law_more"]
abbrev P__law_number : List Str := ["_law_cell", "_law_at", "_law_whole"]
theorem sc__law_number : FnScope N__law_number P__law_number (defScope s__law_number) := ⟨rfl, rfl, rfl, by decide +kernel, rfl, by decide +kernel, by decide +kernel⟩

theorem ok__law_number {f : Addr} {fd : FuncData} (T : Nm mg) (F : Fun K "_law_number" "_law_number" s__law_number f fd) : FnOk P w K mg base CX0 1 f fd P__law_number (spV R_lnum) := by
  refine F.ok sc__law_number (fun vs H Q E h => ?_) (fun cdv A outer s H vs Q E hr h => ?_)
  · obtain ⟨v, ⟨c, a, wh, rfl, _⟩, _⟩ := h
    rfl
  · obtain ⟨v, ⟨c, a, wh, rfl, h1, h2, rfl⟩, k⟩ := h
    refine ⟨_, (pss_cut (ps_if (pt_cmpR op_ge (pe_callB call_abs (by rfl) T.n_abs (by decide +kernel) (pa_cons (pv 0) pa_nil)) (pe_op op_pow pe_int pe_int) (nomark _)) (pss_one (ps_set (i := 0) sc__law_number.nd rfl (.inl rfl) (pe_op op_mod (pv 0) (pe_op op_pow pe_int pe_int)))) pss_nil)
      (pss_cons (ps_if (pt_cmpR op_ge (pv 0) (pe_op op_pow pe_int pe_int) (nomark _)) (pss_one (ps_ret (pe_op op_fdiv (pv 0) (pe_op op_add pe_int (pe_op op_mod (pv 1) pe_int))))) pss_nil)
      (pss_cons (ps_set (i := 3) sc__law_number.nd rfl (.inl rfl) (pe_op op_mod (pe_op op_add (pe_op op_mul (pe_op op_add (pv 0) (pe_op op_mul pe_int (pv 1))) pe_int) (pv 2)) pe_int))
      (pss_cons (ps_set (i := 4) sc__law_number.nd rfl (.inl rfl) (pe_op op_mul (pv 3) (pe_op op_add (pe_op op_add (pv 0) (pe_op op_mul pe_int (pv 1))) pe_int)))
      (pss_one (ps_ret (pe_op op_fdiv (pe_op op_mul (pe_op op_mulW (pv 4) (pe_op op_add (pe_op op_add (pv 3) (pv 0)) pe_int)) (pe_op op_add (pe_op op_mul (pv 3) (pv 3)) pe_int)) (pe_op op_add pe_int (pv 1))))))))), ?_⟩
    refine q_mid (M := fun σ' H' => σ' = [some (.int (if (10 : Int) ^ 60 ≤ (c.natAbs : Int) then c % 10 ^ 18 else c)), some (.int a), some (.int wh), none, none] ∧ Ex H H') ?_ ?_
    · refine s_when (et_test (ev_op (ev_abs (ev_var rfl)) (ev_op ev_c ev_c (rv_I ⟨by decide, by decide, by decide⟩)) rv_I0)) (fun hb H1 e1 => ?_) (fun hb H1 e1 => ?_)
      · refine s_asg (ev_op (ev_var rfl) (ev_op ev_c ev_c (rv_I ⟨by decide, by decide, by decide⟩)) (rv_I (by decide +kernel))) fun H2 e2 => ⟨?_, e1.trans e2⟩
        rw [if_pos (show (10 : Int) ^ 60 ≤ (c.natAbs : Int) from of_decide_eq_true hb)]
        rfl
      · refine ⟨?_, e1⟩
        rw [if_neg (show ¬ (10 : Int) ^ 60 ≤ (c.natAbs : Int) from of_decide_eq_false hb)]
        rfl
    · rintro σ' H' ⟨rfl, e1⟩
      unfold lnum at k
      have hc : ∀ d : Int, d = (if (10 : Int) ^ 60 ≤ (c.natAbs : Int) then c % 10 ^ 18 else c) → d.natAbs < 10 ^ 60 := by
        rintro d rfl
        split
        · have a1 := Int.emod_nonneg c (show (10 : Int) ^ 18 ≠ 0 by decide)
          have a2 := Int.emod_lt_of_pos c (show (0 : Int) < 10 ^ 18 by decide)
          omega
        · omega
      generalize hd : (if (10 : Int) ^ 60 ≤ (c.natAbs : Int) then c % 10 ^ 18 else c) = d at *
      have hd2 := hc d rfl
      refine q_when (et_test (ev_op (ev_var rfl) (ev_op ev_c ev_c (rv_I ⟨by decide, by decide, by decide⟩)) rv_I0)) (fun hb H2 e2 => ?_) (fun hb H2 e2 => ?_)
      · have m1 := Int.emod_nonneg a (show (7 : Int) ≠ 0 by decide)
        have m2 := Int.emod_lt_of_pos a (show (0 : Int) < 7 by decide)
        refine s_ret (ev_op (ev_var rfl) (ev_op ev_c (ev_op (ev_var rfl) ev_c (rv_I (by decide))) rv_I0) (rv_I ⟨by omega, by omega⟩)) fun H3 e3 => ?_
        have g := k H3 ((e1.trans e2).trans e3)
        rw [if_pos (show (10 : Int) ^ 18 ≤ d from of_decide_eq_true hb)] at g
        exact g
      · have g := fun H3 (e3 : Ex H H3) => k H3 e3
        simp only [if_neg (show ¬ (10 : Int) ^ 18 ≤ d from of_decide_eq_false hb)] at g
        refine q_asg (ev_op (ev_op (ev_op (ev_op (ev_var rfl) (ev_op ev_c (ev_var rfl) (rv_I (.inl ⟨by decide, by decide⟩))) rv_I0) ev_c (rv_I (.inr ⟨by decide, by decide⟩))) (ev_var rfl) rv_I0) ev_c (rv_I (by decide))) fun H3 e3 => ?_
        have n1 := Int.emod_nonneg ((d + 977 * a) * 48271 + wh) (show (2147483647 : Int) ≠ 0 by decide)
        have n2 := Int.emod_lt_of_pos ((d + 977 * a) * 48271 + wh) (show (0 : Int) < 2147483647 by decide)
        generalize ((d + 977 * a) * 48271 + wh) % 2147483647 = bl at *
        have nb : bl * bl ≤ 2147483647 * 2147483647 := Int.mul_le_mul (by omega) (by omega) n1 (by omega)
        have nb0 : 0 ≤ bl * bl := Int.mul_nonneg n1 n1
        refine q_asg (ev_op (ev_var rfl) (ev_op (ev_op (ev_var rfl) (ev_op ev_c (ev_var rfl) (rv_I (.inl ⟨by decide, by decide⟩))) rv_I0) ev_c rv_I0) (rv_I (.inl ⟨by omega, by omega⟩))) fun H4 e4 => ?_
        have w1 : (bl * (d + 31 * a + 7)).natAbs < 2 ^ (31 + 201) := wide_lt (by omega) (by omega)
        refine s_ret (ev_op (ev_op (ev_op (ev_var rfl) (ev_op (ev_op (ev_var rfl) (ev_var rfl) rv_I0) ev_c rv_I0) (rv_I (wide_mul (a := 31 + 201) (b := 201) w1 (by omega) (by decide) (by decide) (by decide)))) (ev_op (ev_op (ev_var rfl) (ev_var rfl) (rv_I (.inl ⟨by omega, by omega⟩))) ev_c rv_I0) (rv_I (.inr ⟨by omega, by omega⟩))) (ev_op ev_c (ev_var rfl) rv_I0) (rv_I ⟨by omega, by omega⟩)) fun H5 e5 => ?_
        exact g H5 ((((e1.trans e2).trans e3).trans e4).trans e5)
def R_lmoved : List V → Hp → V → Prop := fun vs _ v => ∃ (b n : Nat) (fr : Bool), vs = [vi b, vi n, vs' fr] ∧ 2 ≤ b ∧ b ≤ 36 ∧ 1 ≤ n ∧ n < 2 ^ 50000 ∧ v = vi (mv b n fr)
theorem drop_last {ds : List Nat} {d : Nat} (h : ds[ds.length - 1]? = some d) : ds.drop (ds.length - 1) = [d] := by
  have l := (List.getElem?_eq_some_iff.mp h).1
  rw [List.drop_eq_getElem_cons l, List.drop_of_length_le (by omega)]
  rw [List.getElem?_eq_getElem l] at h
  rw [Option.some.inj h]
theorem take_first {ds : List Nat} {d : Nat} (h : ds[0]? = some d) : ds.take 1 = [d] := by
  cases ds with
  | nil => cases h
  | cons x r => rw [← Option.some.inj h]; rfl
theorem atI_lastN {ds : List Nat} {d : Nat} (h : ds[ds.length - 1]? = some d) : atI (vl ds) (-1) = some (vi d) := by
  have t := List.take_append_drop (ds.length - 1) ds
  rw [drop_last h] at t
  rw [← t, vl_app]
  exact atI_last _ _
theorem atI_natN {ds : List Nat} {i d : Nat} (h : ds[i]? = some d) : atI (vl ds) (i : Int) = some (vi d) := atI_nat (by rw [List.getElem?_map, h]; rfl)
end
end Tf

namespace Tf
open PySem PySem.Spec PyProof.Rows L2 Evl
/-! ### the law's own lengths -/
theorem dec_cast_lt (a b : Nat) : decide ((a : Int) < (b : Int)) = decide (a < b) := by
  by_cases h : a < b
  · rw [decide_eq_true h, decide_eq_true (Int.ofNat_lt.mpr h)]
  · rw [decide_eq_false h, decide_eq_false fun q => h (Int.ofNat_lt.mp q)]
theorem dec_cast_le (a b : Nat) : decide ((a : Int) ≤ (b : Int)) = decide (a ≤ b) := by
  by_cases h : a ≤ b
  · rw [decide_eq_true h, decide_eq_true (Int.ofNat_le.mpr h)]
  · rw [decide_eq_false h, decide_eq_false fun q => h (Int.ofNat_le.mp q)]
theorem dec_vi (a b : Nat) : decide (vi a = vi b) = decide (a = b) := by
  by_cases h : a = b
  · subst h
    rw [decide_eq_true rfl, decide_eq_true rfl]
  · rw [decide_eq_false h, decide_eq_false fun q => h (vi_inj q)]
section
variable {P : Program} {w : World} {K : PySem.W.Frag} {mg : Str → Option Value} {base : Heap}
def R_lfront : List V → Hp → V → Prop := fun vs _ v => ∃ (b f d : Nat), vs = [vi b, vi f, vi d] ∧ Bfd b f d ∧ v = optV (lenOf b f true d)
abbrev s__law_front : Stmt := topS 21
abbrev N__law_front : List Str := ["_law_base", "_law_factor", "_law_figure", "_law_here", "_law_over", "_law_many", "_law_total", "_law_last"]
abbrev P__law_front : List Str := ["_law_base", "_law_factor", "_law_figure"]
theorem sc__law_front : FnScope N__law_front P__law_front (defScope s__law_front) := ⟨rfl, rfl, rfl, by decide +kernel, rfl, by decide +kernel, by decide +kernel⟩

theorem ok__law_front {f : Addr} {fd : FuncData} (F : Fun K "_law_front" "_law_front" s__law_front f fd) : FnOk P w K mg base CX0 1 f fd P__law_front (spV R_lfront) := by
  refine F.ok sc__law_front (fun vs H Q E h => ?_) (fun cdv A outer s H vs Q E hr h => ?_)
  · obtain ⟨v, ⟨b, f, d, rfl, _⟩, _⟩ := h
    rfl
  · obtain ⟨v, ⟨b, f, d, rfl, B, rfl⟩, k⟩ := h
    refine ⟨_, (pss_cons (ps_par3 (i := 3) (j := 4) (l := 5) (by rfl) sc__law_front.nd rfl rfl rfl (by decide) (by decide) (by decide) rfl rfl rfl (pa_cons (pv 2) (pa_cons pe_int (pa_cons pe_int pa_nil))) (by rfl))
      (pss_one (ps_while PassesOwn.never (pt_val pe_bl) (pss_cons (ps_set (i := 6) sc__law_front.nd rfl (.inl rfl) (pe_op op_add (pe_op op_mul (pv 1) (pv 3)) (pv 4)))
      (pss_cons (ps_par (i := 7) (j := 5) (by rfl) sc__law_front.nd rfl rfl (by decide) rfl rfl (pa_cons (pv 3) (pa_cons (pe_op op_add (pv 5) pe_int) pa_nil)) (by rfl))
      (pss_cons (ps_par (i := 3) (j := 4) (by rfl) sc__law_front.nd rfl rfl (by decide) rfl rfl (pa_cons (pe_op op_mod (pv 6) (pv 0)) (pa_cons (pe_op op_fdiv (pv 6) (pv 0)) pa_nil)) (by rfl))
      (pss_one (ps_if (PW.pt (pw_and (pt_cmpR op_eq (pv 3) (pv 2) (nomark _)) (pw_and1 (pt_cmpR op_eq (pv 4) pe_int (nomark _))))) (pss_one (ps_ret (pe_ifExp (pt_cmpR op_gt (pv 7) pe_int (nomark _)) (pv 5) pe_non))) pss_nil)))))))), ?_⟩
    have n5 := B.n5
    have nle := B.nle
    obtain ⟨b3, b36, f2, fb, d1, db⟩ := id B
    have o := ordN_is (show 1 ≤ b by omega) (cut_pos (n := f * b - 1) (d := d) (by omega)) (co_front B)
    obtain ⟨N, hN⟩ : ∃ N, ordN b (cut (f * b - 1) d) = N := ⟨_, rfl⟩
    rw [hN] at o
    refine q_par3 (ea_cons (ev_var rfl) (ea_cons ev_c (ea_cons ev_c ea_nil))) fun H1 e1 => ?_
    refine s_while (fun m σ H' => ∃ (t : Nat) (x6 x7 : Option V), σ = [some (vi b), some (vi f), some (vi d), some (vi (fw b f d t % b)), some (vi (fw b f d t / b)), some (vi t), x6, x7] ∧ Ex H H' ∧ t + m = N ∧ 1 ≤ m) N ⟨0, none, none, ?_, e1, by omega, o.pos⟩ ?_
    · rw [fw_zero B, Nat.mod_eq_of_lt db, Nat.div_eq_of_lt db]
      rfl
    rintro m σ' H' ⟨t, x6, x7, rfl, e2, tm, m1⟩
    refine ⟨true, et_B ev_c, fun _ H3 e3 => ⟨_, fun σ2 H2 z => z, ?_⟩, fun z => nomatch z⟩
    have w2 := fw_lt B t
    have u1 := Nat.mod_lt (fw b f d t) (show 0 < b by omega)
    refine q_asg (v := vi (fw b f d (t + 1))) (ev_is (ev_op (ev_op (ev_var rfl) (ev_var rfl) (rv_I (.inl ⟨show (-(2 ^ 64) : Int) < (f : Int) by omega, show (f : Int) < 2 ^ 64 by omega⟩))) (ev_var rfl) rv_I0) ?_) fun H4 e4 => ?_
    · rw [← fw_step B t]
      rfl
    refine q_par (ea_cons (ev_var rfl) (ea_cons (ev_op (ev_var rfl) ev_c rv_I0) ea_nil)) fun H5 e5 => ?_
    refine q_par (ea_cons (ev_op (ev_var rfl) (ev_var rfl) (rv_I (show (0 : Int) < (b : Int) by omega))) (ea_cons (ev_op (ev_var rfl) (ev_var rfl) (rv_I ⟨show (0 : Int) < (b : Int) by omega, show (b : Int) < 1073741824 by omega⟩)) ea_nil)) fun H6 e6 => ?_
    have ex6 := (((e2.trans e3).trans e4).trans e5).trans e6
    have back : (fw b f d (t + 1) % b = d ∧ fw b f d (t + 1) / b = 0) ↔ fw b f d (t + 1) = d := by
      constructor
      · rintro ⟨h1, h2⟩
        have := Nat.div_add_mod (fw b f d (t + 1)) b
        rw [h1, h2] at this
        omega
      · intro h
        rw [h]
        exact ⟨Nat.mod_eq_of_lt db, Nat.div_eq_of_lt db⟩
    refine s_when (b := decide (fw b f d (t + 1) = d)) (et_is (et_and (et_test (ev_op (ev_var rfl) (ev_var rfl) (rv_eq rfl))) fun _ => et_test (ev_op (ev_var rfl) ev_c (rv_eq rfl))) ?_) (fun hb H7 e7 => ?_) (fun hb H7 e7 => ?_)
    · show (decide (vi (fw b f d (t + 1) % b) = vi d) && decide (vi (fw b f d (t + 1) / b) = vi 0)) = _
      rw [dec_vi, dec_vi]
      by_cases z : fw b f d (t + 1) = d
      · rw [decide_eq_true z, decide_eq_true (back.mpr z).1, decide_eq_true (back.mpr z).2]
        rfl
      · rw [decide_eq_false z]
        cases q : (decide (fw b f d (t + 1) % b = d) && decide (fw b f d (t + 1) / b = 0)) with
        | false => rfl
        | true =>
          rw [Bool.and_eq_true, decide_eq_true_eq, decide_eq_true_eq] at q
          exact absurd (back.mp q) z
    · have hd := of_decide_eq_true hb
      have dv := (o.dvd (t + 1)).mp ((fw_back B (t + 1)).mp hd)
      have hle := Nat.le_of_dvd (by omega) dv
      have ht : t + 1 = N := by omega
      have la := fw_last B hd
      refine s_ret (v := optV (lenOf b f true d)) (ev_if (b := decide (f ≤ d)) (et_is (et_test (ev_op (ev_var rfl) ev_c rv_I0)) ?_) (fun hf => ?_) (fun hf => ?_)) fun H8 e8 => k H8 ((ex6.trans e7).trans e8)
      · show decide (((0 : Nat) : Int) < ((fw b f d t % b : Nat) : Int)) = _
        rw [dec_cast_lt]
        by_cases z : f ≤ d
        · rw [decide_eq_true z, decide_eq_true (la.mpr z)]
        · rw [decide_eq_false z, decide_eq_false fun q => z (la.mp q)]
      · obtain ⟨k', hk, ok⟩ := len_front B (of_decide_eq_true hf)
        rw [hk, ok.uniq o, ← ht]
        exact ev_var rfl
      · rw [len_front_none (of_decide_eq_false hf)]
        exact ev_c
    · have hd := of_decide_eq_false hb
      have hne : t + 1 ≠ N := fun z => hd ((fw_back B (t + 1)).mpr (by rw [z]; exact o.one))
      exact ⟨m - 1, by omega, t + 1, _, _, rfl, ex6.trans e7, by omega, by omega⟩
def R_lbehind : List V → Hp → V → Prop := fun vs _ v => ∃ (b f d : Nat), vs = [vi b, vi f, vi d] ∧ Bfd b f d ∧ v = optV (lenOf b f false d)
abbrev s__law_behind : Stmt := topS 22
abbrev N__law_behind : List Str := ["_law_base", "_law_factor", "_law_figure", "_law_great", "_law_many", "_law_top"]
abbrev P__law_behind : List Str := ["_law_base", "_law_factor", "_law_figure"]
theorem sc__law_behind : FnScope N__law_behind P__law_behind (defScope s__law_behind) := ⟨rfl, rfl, rfl, by decide +kernel, rfl, by decide +kernel, by decide +kernel⟩

theorem ok__law_behind {f : Addr} {fd : FuncData} (T : Nm mg) (F : Fun K "_law_behind" "_law_behind" s__law_behind f fd) : FnOk P w K mg base CX0 1 f fd P__law_behind (spV R_lbehind) := by
  refine F.ok sc__law_behind (fun vs H Q E h => ?_) (fun cdv A outer s H vs Q E hr h => ?_)
  · obtain ⟨v, ⟨b, f, d, rfl, _⟩, _⟩ := h
    rfl
  · obtain ⟨v, ⟨b, f, d, rfl, B, rfl⟩, k⟩ := h
    refine ⟨_, (pss_cons (ps_set (i := 3) sc__law_behind.nd rfl (.inl rfl) pe_int)
      (pss_cons (ps_for PassesOwn.never rfl (pi_range2 (by rfl) T.n_range (pa_cons pe_int (pa_cons (pe_op op_mul pe_int (pv 0)) pa_nil))) (pg_name (i := 4) sc__law_behind.nd rfl (.inl rfl)) (pss_cons (ps_set (i := 5) sc__law_behind.nd rfl (.inl rfl) (pe_op op_mul (pv 2) (pe_op op_sub (pe_op op_mul (pv 1) (pv 3)) pe_int)))
      (pss_cons (ps_if (PW.pt (pw_and (pt_cmpR op_eq (pe_op op_mod (pv 5) (pe_op op_sub (pv 0) (pv 1))) pe_int (nomark _)) (pw_and (pt_cmpR op_lt (pe_op op_fdiv (pv 5) (pe_op op_sub (pv 0) (pv 1))) (pv 3) (nomark _)) (pw_and1 (pt_cmpR op_gt (pv 4) pe_int (nomark _)))))) (pss_one (ps_ret (pv 4))) pss_nil)
      (pss_one (ps_set (i := 3) sc__law_behind.nd rfl (.inl rfl) (pe_op op_mul (pv 3) (pv 0)))))))
      (pss_one (ps_ret pe_non)))), ?_⟩
    obtain ⟨b3, b36, f2, fb, d1, db⟩ := id B
    refine q_asg ev_c fun H1 e1 => ?_
    refine q_forR2 (lo := 1) (n := 2 * (b : Int)) (ea_cons ev_c (ea_cons (ev_op ev_c (ev_var rfl) (rv_I (.inl ⟨by decide, by decide⟩))) ea_nil)) ⟨by omega, by omega, by omega, by omega⟩
      (fun i σ H' => ∃ x4 x5, σ = [some (vi b), some (vi f), some (vi d), some (vi (b ^ i)), x4, x5] ∧ Ex H H' ∧ ∀ j, 1 ≤ j → j ≤ i → bTest b f d j = false)
      (fun H2 e2 => ⟨none, none, rfl, e1.trans e2, fun j a b => by omega⟩) ?_ ?_
    · rintro i σ' H2 hi ⟨x4, x5, rfl, e2, hj⟩
      have pb := pow_pos1 (show 1 ≤ b by omega) i
      have fp : 1 ≤ f * b ^ i := Nat.mul_pos (by omega) pb
      refine q_asg (v := vi (d * (f * b ^ i - 1))) (ev_is (ev_op (ev_var rfl) (ev_op (ev_op (ev_var rfl) (ev_var rfl) (rv_I (.inl ⟨show (-(2 ^ 64) : Int) < (f : Int) by omega, show (f : Int) < 2 ^ 64 by omega⟩))) ev_c rv_I0) (rv_I (.inl ⟨show (-(2 ^ 64) : Int) < (d : Int) by omega, show (d : Int) < 2 ^ 64 by omega⟩))) ?_) fun H3 e3 => ?_
      · show V.int ((d : Int) * ((f : Int) * ((b ^ i : Nat) : Int) - 1)) = V.int ((d * (f * b ^ i - 1) : Nat) : Int)
        rw [cast_mul_pred fp]
        rfl
      have sub : V.int ((b : Int) - (f : Int)) = vi (b - f) := congrArg V.int (cast_sub (by omega))
      have hz : (0 : Int) < ((b - f : Nat) : Int) := by omega
      have hz2 : ((b - f : Nat) : Int) < 1073741824 := by omega
      refine q_when (b := bTest b f d (i + 1)) (et_is (et_and (et_test (ev_op (ev_op (ev_var rfl) (ev_is (ev_op (ev_var rfl) (ev_var rfl) rv_I0) sub) (rv_I hz)) ev_c (rv_eq rfl))) fun _ => et_and (et_test (ev_op (ev_op (ev_var rfl) (ev_is (ev_op (ev_var rfl) (ev_var rfl) rv_I0) sub) (rv_I ⟨hz, hz2⟩)) (ev_var rfl) rv_I0)) fun _ => et_test (ev_op (ev_var rfl) ev_c rv_I0)) ?_) (fun hb H4 e4 => ?_) (fun hb H4 e4 => ?_)
      · show (decide (vi (d * (f * b ^ i - 1) % (b - f)) = vi 0) && (decide (((d * (f * b ^ i - 1) / (b - f) : Nat) : Int) < ((b ^ i : Nat) : Int)) && decide ((1 : Int) < 1 + (i : Int)))) = bTest b f d (i + 1)
        rw [dec_vi, dec_cast_lt]
        unfold bTest
        rw [Nat.add_sub_cancel]
        congr 2
        by_cases z : 1 < i + 1
        · rw [decide_eq_true z, decide_eq_true (by omega)]
        · rw [decide_eq_false z, decide_eq_false (by omega)]
      · refine s_ret (v := optV (lenOf b f false d)) (ev_is (ev_var rfl) ?_) fun H5 e5 => k H5 (((e2.trans e3).trans e4).trans e5)
        cases q : lenOf b f false d with
        | none =>
          rw [bTest_none B q (i + 1) (by omega)] at hb
          cases hb
        | some n =>
          obtain ⟨_, _, t1, t2⟩ := bTest_some B q
          have e : n = i + 1 := by
            rcases Nat.lt_trichotomy n (i + 1) with z | z | z
            · rw [hj n (by omega) (by omega)] at t1
              cases t1
            · exact z
            · rw [t2 (i + 1) (by omega) z] at hb
              cases hb
          subst e
          show V.int (1 + (i : Int)) = V.int ((i + 1 : Nat) : Int)
          congr 1
          omega
      · refine s_asg (v := vi (b ^ (i + 1))) (ev_is (ev_op (ev_var rfl) (ev_var rfl) (rv_I (.inr ⟨show (-(2 ^ 64) : Int) < (b : Int) by omega, show (b : Int) < 2 ^ 64 by omega⟩))) ?_) fun H5 e5 => ⟨_, _, rfl, ((e2.trans e3).trans e4).trans e5, fun j h1 h2 => ?_⟩
        · rw [Nat.pow_succ]
          rfl
        · by_cases z : j = i + 1
          · rw [z]
            exact hb
          · exact hj j h1 (by omega)
    · rintro σ' H2 ⟨x4, x5, rfl, e2, hj⟩
      refine s_ret (v := optV (lenOf b f false d)) (ev_is ev_c ?_) fun H5 e5 => k H5 (e2.trans e5)
      cases q : lenOf b f false d with
      | none => rfl
      | some n =>
        obtain ⟨n2, n3, t1, t2⟩ := bTest_some B q
        rw [hj n (by omega) (by omega)] at t1
        cases t1
abbrev s__law_length : Stmt := topS 23
abbrev N__law_length : List Str := ["_law_base", "_law_factor", "_law_side", "_law_figure"]
abbrev P__law_length : List Str := ["_law_base", "_law_factor", "_law_side", "_law_figure"]
theorem sc__law_length : FnScope N__law_length P__law_length (defScope s__law_length) := ⟨rfl, rfl, rfl, by decide +kernel, rfl, by decide +kernel, by decide +kernel⟩

theorem ok__law_length {f : Addr} {fd : FuncData} (F : Fun K "_law_length" "_law_length" s__law_length f fd) (h__law_front : Has P w K mg base "_law_front" P__law_front 1 (spV R_lfront)) (h__law_behind : Has P w K mg base "_law_behind" P__law_behind 1 (spV R_lbehind)) : FnOk P w K mg base CX0 2 f fd P__law_length (spV R_length_of) := by
  refine F.ok sc__law_length (fun vs H Q E h => ?_) (fun cdv A outer s H vs Q E hr h => ?_)
  · obtain ⟨v, ⟨b, f, fr, d, rfl, _⟩, _⟩ := h
    rfl
  · obtain ⟨v, ⟨b, f, fr, d, rfl, B, rfl⟩, k⟩ := h
    refine ⟨_, (pss_one (ps_ret (pe_ifExp (pt_cmpR op_eq (pv 2) pe_str (nomark _)) (pe_fn h__law_front hr (by rfl) (pa_cons (pv 0) (pa_cons (pv 1) (pa_cons (pv 3) pa_nil)))) (pe_fn h__law_behind hr (by rfl) (pa_cons (pv 0) (pa_cons (pv 1) (pa_cons (pv 3) pa_nil))))))), ?_⟩
    refine s_ret (ev_if (b := fr) (et_is (et_test (ev_op (ev_var rfl) ev_c (rv_eq rfl))) (sd_eq fr)) (fun hb => ?_) (fun hb => ?_)) k
    · subst hb
      exact ev_fn (ea_cons (ev_var rfl) (ea_cons (ev_var rfl) (ea_cons (ev_var rfl) ea_nil))) fun _ _ => ⟨b, f, d, rfl, B, rfl⟩
    · subst hb
      exact ev_fn (ea_cons (ev_var rfl) (ea_cons (ev_var rfl) (ea_cons (ev_var rfl) ea_nil))) fun _ _ => ⟨b, f, d, rfl, B, rfl⟩
end
end Tf

namespace Tf
open PySem PySem.Spec PyProof.Rows L2 Evl
/-! ### the law -/
def spLaw (K : PySem.W.Frag) : Sp := fun vs H Q _ => ∃ (a : Addr) (ns : List Int), vs = [.ref a] ∧ SqL K H a (ns.map V.int) ∧ ns.length ≤ 63 ∧ ∀ H', Q (.bl true) H'
theorem ev_isiO {K : PySem.W.Frag} {σ : L2.St} {H : Hp} {ta : TE} {x : Option Nat} (ha : Ev ta σ H (optV x)) : Ev (tCB (rIsi K) (tCons ta (tCons (tC (.ty "bool")) tNil))) σ H (.bl false) := by
  cases x with
  | none => exact ev_isi (t := "NoneType") ha (fun _ _ => .base .non) (by decide +kernel)
  | some k => exact ev_isiI ha (by decide +kernel)
/-- base, factor and figure by a number -/
theorem bfd_of (n : Nat) (b : Nat) (h3 : 3 ≤ b) (h36 : b ≤ 36) : Bfd b (2 + n / 34 % (b - 2)) (1 + n / 1200 % (b - 1)) := by
  have h1 := Nat.mod_lt (n / 34) (show 0 < b - 2 by omega)
  have h2 := Nat.mod_lt (n / 1200) (show 0 < b - 1 by omega)
  exact ⟨h3, h36, by omega, by omega, by omega, by omega⟩
section
variable {P : Program} {w : World} {K : PySem.W.Frag} {mg : Str → Option Value} {base : Heap}
abbrev s_law : Stmt := topS 24
abbrev N_law : List Str := ["_law_script", "_law_whole", "_law_small", "_law_factor", "_law_figure", "_law_side", "_law_found", "_law_at", "_law_cell", "_law_number_here", "_law_base"]
abbrev P_law : List Str := ["_law_script"]
theorem sc_law : FnScope N_law P_law (defScope s_law) := ⟨rfl, rfl, rfl, by decide +kernel, rfl, by decide +kernel, by decide +kernel⟩

theorem ok_law {f : Addr} {fd : FuncData} (T : Nm mg) (F : Fun K "law" "law" s_law f fd) (h__law_number : Has P w K mg base "_law_number" P__law_number 1 (spV R_lnum)) (h__law_length : Has P w K mg base "_law_length" P__law_length 2 (spV R_length_of))
    (h_least_many : Has P w K mg base "least_many" P_least_many 4 (spV R_length_of)) : FnOk P w K mg base CX0 5 f fd P_law (spLaw K) := by
  refine F.ok sc_law (fun vs H Q E h => ?_) (fun cdv A outer s H vs Q E hr h => ?_)
  · obtain ⟨a, ns, rfl, _⟩ := h
    rfl
  · obtain ⟨a, ns, rfl, hS, hlen, k⟩ := h
    refine ⟨_, (pss_cons (ps_set (i := 1) sc_law.nd rfl (.inl rfl) (pe_op op_mod (pe_callB call_abs (by rfl) T.n_abs (by decide +kernel) (pa_cons (pe_callB (cr_sum rfl) (by rfl) T.n_sum (by decide +kernel) (pa_cons (pe_slice sl_list (pv 0) po_none (po_some pe_int)) pa_nil)) pa_nil)) (pe_op op_pow pe_int pe_int)))
      (pss_cons (ps_set (i := 2) sc_law.nd rfl (.inl rfl) (pe_op op_add pe_int (pe_op op_mod (pv 1) pe_int)))
      (pss_cons (ps_for PassesOwn.never rfl (pi_range2 (by rfl) T.n_range (pa_cons pe_int (pa_cons (pv 2) pa_nil))) (pg_name (i := 3) sc_law.nd rfl (.inl rfl)) (pss_one (ps_for PassesOwn.never rfl (pi_range2 (by rfl) T.n_range (pa_cons pe_int (pa_cons (pv 2) pa_nil))) (pg_name (i := 4) sc_law.nd rfl (.inl rfl)) (pss_one (ps_for PassesOwn.never rfl (pi_list (pe_lst (pa_cons pe_str (pa_cons pe_str pa_nil)))) (pg_name (i := 5) sc_law.nd rfl (.inl rfl)) (pss_cons (ps_set (i := 6) sc_law.nd rfl (.inl rfl) (pe_fn h_least_many hr (by rfl) (pa_cons (pv 2) (pa_cons (pv 3) (pa_cons (pv 5) (pa_cons (pv 4) pa_nil))))))
      (pss_one (ps_if (PW.pt (pw_or (pt_val (pe_callB call_isi (by rfl) T.n_isinstance (by decide +kernel) (pa_cons (pv 6) (pa_cons (pe_bltn (v := .ty "bool") (by rfl) T.n_bool (by decide +kernel) rfl) pa_nil)))) (pw_or1 (pt_cmpR op_ne (pv 6) (pe_fn h__law_length hr (by rfl) (pa_cons (pv 2) (pa_cons (pv 3) (pa_cons (pv 5) (pa_cons (pv 4) pa_nil))))) (nomark _))))) (pss_one (ps_ret pe_bl)) pss_nil))))))))
      (pss_cons (ps_for PassesOwn.never rfl (pi_enum (by rfl) T.n_enumerate (pa_cons (pe_op op_cat (pe_slice sl_list (pv 0) po_none (po_some pe_int)) (pe_lst (pa_cons pe_int pa_nil))) pa_nil)) (pg_tup rfl (pgs_cons (pg_name (i := 7) sc_law.nd rfl (.inl rfl)) (pgs_cons (pg_name (i := 8) sc_law.nd rfl (.inl rfl)) pgs_nil))) (pss_cons (ps_set (i := 9) sc_law.nd rfl (.inl rfl) (pe_callB call_abs (by rfl) T.n_abs (by decide +kernel) (pa_cons (pe_fn h__law_number hr (by rfl) (pa_cons (pv 8) (pa_cons (pe_op op_add (pv 7) pe_int) (pa_cons (pv 1) pa_nil)))) pa_nil)))
      (pss_cons (ps_set (i := 10) sc_law.nd rfl (.inl rfl) (pe_op op_add pe_int (pe_op op_mod (pv 9) pe_int)))
      (pss_cons (ps_set (i := 3) sc_law.nd rfl (.inl rfl) (pe_op op_add pe_int (pe_op op_mod (pe_op op_fdiv (pv 9) pe_int) (pe_op op_sub (pv 10) pe_int))))
      (pss_cons (ps_set (i := 4) sc_law.nd rfl (.inl rfl) (pe_op op_add pe_int (pe_op op_mod (pe_op op_fdiv (pv 9) pe_int) (pe_op op_sub (pv 10) pe_int))))
      (pss_one (ps_for PassesOwn.never rfl (pi_list (pe_lst (pa_cons pe_str (pa_cons pe_str pa_nil)))) (pg_name (i := 5) sc_law.nd rfl (.inl rfl)) (pss_one (ps_if (pt_cmpR op_ne (pe_fn h_least_many hr (by rfl) (pa_cons (pv 10) (pa_cons (pv 3) (pa_cons (pv 5) (pa_cons (pv 4) pa_nil))))) (pe_fn h__law_length hr (by rfl) (pa_cons (pv 10) (pa_cons (pv 3) (pa_cons (pv 5) (pa_cons (pv 4) pa_nil))))) (nomark _)) (pss_one (ps_ret pe_bl)) pss_nil)))))))))
      (pss_cons (ps_if (PW.pt (pw_or (pt_cmpR op_ne (pe_fn h_least_many hr (by rfl) (pa_cons pe_int (pa_cons pe_int (pa_cons pe_str (pa_cons pe_int pa_nil))))) pe_int (nomark _)) (pw_or1 (pt_cmpR op_ne (pe_fn h_least_many hr (by rfl) (pa_cons pe_int (pa_cons pe_int (pa_cons pe_str (pa_cons pe_int pa_nil))))) pe_int (nomark _))))) (pss_one (ps_ret pe_bl)) pss_nil)
      (pss_cons (ps_if (PW.pt (pw_or (pt_cmpR op_notN (pe_fn h_least_many hr (by rfl) (pa_cons pe_int (pa_cons pe_int (pa_cons pe_str (pa_cons pe_int pa_nil))))) pe_non (nomark _)) (pw_or1 (pt_cmpR op_notN (pe_fn h_least_many hr (by rfl) (pa_cons pe_int (pa_cons pe_int (pa_cons pe_str (pa_cons pe_int pa_nil))))) pe_non (nomark _))))) (pss_one (ps_ret pe_bl)) pss_nil)
      (pss_one (ps_ret (pe_cmpR op_eq (pe_fn h_least_many hr (by rfl) (pa_cons pe_int (pa_cons pe_int (pa_cons pe_str (pa_cons pe_int pa_nil))))) pe_int (nomark _)))))))))), ?_⟩
    refine q_asg (ev_whole hS rfl) fun H1 e1 => ?_
    generalize (ns.take 63).sum.natAbs % 10 ^ 60 = wh
    refine q_asg (v := vi (3 + wh % 9)) (ev_is (ev_op ev_c (ev_op (ev_var rfl) ev_c (rv_I (by decide))) rv_I0) rfl) fun H2 e2 => ?_
    have hsm : 3 ≤ 3 + wh % 9 ∧ 3 + wh % 9 ≤ 11 := by omega
    generalize 3 + wh % 9 = sm at *
    have e12 := e1.trans e2
    refine q_forR2 (lo := 2) (n := (sm : Int)) (ea_cons ev_c (ea_cons (ev_var rfl) ea_nil)) ⟨by omega, by omega, by omega, by omega⟩
      (fun i σ' H' => ∃ r3 r4 r5 r6 r7 r8 r9 r10, σ' = [some (.ref a), some (vi wh), some (vi sm), r3, r4, r5, r6, r7, r8, r9, r10] ∧ Ex H H') (fun H3 e3 => ⟨none, none, none, none, none, none, none, none, rfl, e12.trans e3⟩) ?_ ?_
    · rintro i σ' H3 hi ⟨r3, r4, r5, r6, r7, r8, r9, r10, rfl, e3⟩
      refine s_forR2 (lo := 1) (n := (sm : Int)) (ea_cons ev_c (ea_cons (ev_var rfl) ea_nil)) ⟨by omega, by omega, by omega, by omega⟩
        (fun j σ' H' => ∃ r4 r5 r6 r7 r8 r9 r10, σ' = [some (.ref a), some (vi wh), some (vi sm), some (vi (2 + i)), r4, r5, r6, r7, r8, r9, r10] ∧ Ex H H') (fun H4 e4 => ⟨r4, r5, r6, r7, r8, r9, r10, rfl, e3.trans e4⟩) ?_ ?_
      · rintro j σ' H4 hj ⟨r4, r5, r6, r7, r8, r9, r10, rfl, e4⟩
        have B : Bfd sm (2 + i) (1 + j) := ⟨by omega, by omega, by omega, by omega, by omega, by omega⟩
        refine s_forNL (xs := [vs' true, vs' false]) (el_lst (ea_cons ev_c (ea_cons ev_c ea_nil)) (show 2 ≤ 100000 by decide))
          (fun p m σ' H' => ∃ r5 r6 r7 r8 r9 r10, σ' = [some (.ref a), some (vi wh), some (vi sm), some (vi (2 + i)), some (vi (1 + j)), r5, r6, r7, r8, r9, r10] ∧ Ex H H' ∧ H' p = some (.lst [vs' true, vs' false]))
          (fun p H5 np e5 hp => ⟨r5, r6, r7, r8, r9, r10, rfl, e4.trans e5, hp⟩) (fun p m σ' H' _ ⟨_, _, _, _, _, _, _, _, z⟩ => sq_of z) ?_ ?_
        · rintro p m x σ' H5 hx ⟨r5, r6, r7, r8, r9, r10, rfl, e5, hp⟩
          obtain ⟨fr, rfl⟩ : ∃ fr : Bool, x = vs' fr := by
            match m, hx with
            | 0, hx => exact ⟨true, (Option.some.inj hx).symm⟩
            | 1, hx => exact ⟨false, (Option.some.inj hx).symm⟩
          refine q_asg (ev_fn (ea_cons (ev_var rfl) (ea_cons (ev_var rfl) (ea_cons (ev_var rfl) (ea_cons (ev_var rfl) ea_nil)))) fun _ _ => ⟨sm, 2 + i, fr, 1 + j, rfl, B, rfl⟩) fun H6 e6 => ?_
          refine s_when (b := false) (et_is (et_or (et_B (ev_isiO (ev_var rfl))) fun _ => et_test (ev_op (ev_var rfl) (ev_fn (ea_cons (ev_var rfl) (ea_cons (ev_var rfl) (ea_cons (ev_var rfl) (ea_cons (ev_var rfl) ea_nil)))) fun _ _ => ⟨sm, 2 + i, fr, 1 + j, rfl, B, rfl⟩) (rv_ne (scal_opt _ _)))) ?_) (fun z => nomatch z) fun _ H7 e7 => ⟨_, _, _, _, _, _, rfl, (e5.trans e6).trans e7, e7 _ _ (e6 _ _ hp)⟩
          rw [decide_eq_true rfl]
          rfl
        · rintro p σ' H5 ⟨r5, r6, r7, r8, r9, r10, rfl, e5, hp⟩
          exact ⟨_, _, _, _, _, _, _, rfl, e5⟩
      · rintro σ' H4 ⟨r4, r5, r6, r7, r8, r9, r10, rfl, e4⟩
        exact ⟨_, _, _, _, _, _, _, _, rfl, e4⟩
    · rintro σ' H3 ⟨r3, r4, r5, r6, r7, r8, r9, r10, rfl, e3⟩
      have hS3 := ex_l e3 hS
      obtain ⟨L, hL⟩ : ∃ L : List Int, L = ns.take 4 ++ [2] := ⟨_, rfl⟩
      refine q_forE (xs := L.map V.int) (by rw [hL]; exact eq_cells (k := 4) (ms := [2]) hS3 hlen rfl (el_lst (ea_cons ev_c ea_nil) (show 1 ≤ 100000 by decide)) (by decide))
        (fun p i σ' H' => ∃ r3 r4 r5 r6 r7 r8 r9 r10, σ' = [some (.ref a), some (vi wh), some (vi sm), r3, r4, r5, r6, r7, r8, r9, r10] ∧ SqL K H' p (L.map V.int))
        (fun p H4 e4 hp => ⟨_, _, _, _, _, _, _, _, rfl, hp⟩) (fun p i σ' H' _ ⟨_, _, _, _, _, _, _, _, _, z⟩ => z) ?_ ?_
      · rintro p i x σ' H4 hx ⟨r3, r4, r5, r6, r7, r8, r9, r10, rfl, hp⟩ H5 e5
        obtain ⟨c, hc, rfl⟩ := get_ints hx
        rw [hL] at hc
        have hi : i < 5 := cells_len hc
        replace hp := ex_l e5 hp
        refine q_asg (ev_abs (ev_fn (ea_cons (ev_var rfl) (ea_cons (ev_op (ev_var rfl) ev_c rv_I0) (ea_cons (ev_var rfl) ea_nil))) fun _ _ => ⟨c, (i : Int) + 2, wh, rfl, by omega, by omega, rfl⟩)) fun H6 e6 => ?_
        generalize (lnum c ((i : Int) + 2) wh).natAbs = n
        refine q_asg (v := vi (3 + n % 34)) (ev_is (ev_op ev_c (ev_op (ev_var rfl) ev_c (rv_I (by decide))) rv_I0) rfl) fun H7 e7 => ?_
        have hb : 3 ≤ 3 + n % 34 ∧ 3 + n % 34 ≤ 36 := by omega
        generalize 3 + n % 34 = b at *
        have B := bfd_of n b hb.1 hb.2
        refine q_asg (v := vi (2 + n / 34 % (b - 2))) (ev_is (ev_op ev_c (ev_op (ev_op (ev_var rfl) ev_c (rv_I ⟨by decide, by decide⟩)) (ev_is (ev_op (ev_var rfl) ev_c rv_I0) (congrArg V.int (cast_sub (a := b) (b := 2) (by omega)))) (rv_I (show (0 : Int) < ((b - 2 : Nat) : Int) by omega))) rv_I0) rfl) fun H8 e8 => ?_
        refine q_asg (v := vi (1 + n / 1200 % (b - 1))) (ev_is (ev_op ev_c (ev_op (ev_op (ev_var rfl) ev_c (rv_I ⟨by decide, by decide⟩)) (ev_is (ev_op (ev_var rfl) ev_c rv_I0) (congrArg V.int (cast_sub (a := b) (b := 1) (by omega)))) (rv_I (show (0 : Int) < ((b - 1 : Nat) : Int) by omega))) rv_I0) rfl) fun H9 e9 => ?_
        generalize 2 + n / 34 % (b - 2) = fc at *
        generalize 1 + n / 1200 % (b - 1) = d at *
        replace hp := ex_l (((e6.trans e7).trans e8).trans e9) hp
        refine s_forNL (xs := [vs' true, vs' false]) (el_lst (ea_cons ev_c (ea_cons ev_c ea_nil)) (show 2 ≤ 100000 by decide))
          (fun q m σ' H' => ∃ r5, σ' = [some (.ref a), some (vi wh), some (vi sm), some (vi fc), some (vi d), r5, r6, some (vi i), some (.int c), some (vi n), some (vi b)] ∧ SqL K H' p (L.map V.int) ∧ H' q = some (.lst [vs' true, vs' false]))
          (fun q H10 np e10 hq => ⟨_, rfl, ex_l e10 hp, hq⟩) (fun p m σ' H' _ ⟨_, _, _, z⟩ => sq_of z) ?_ ?_
        · rintro q m x σ' H10 hx ⟨r5, rfl, hp, hq⟩
          obtain ⟨fr, rfl⟩ : ∃ fr : Bool, x = vs' fr := by
            match m, hx with
            | 0, hx => exact ⟨true, (Option.some.inj hx).symm⟩
            | 1, hx => exact ⟨false, (Option.some.inj hx).symm⟩
          refine s_when (b := false) (et_is (et_test (ev_op (ev_fn (ea_cons (ev_var rfl) (ea_cons (ev_var rfl) (ea_cons (ev_var rfl) (ea_cons (ev_var rfl) ea_nil)))) fun _ _ => ⟨b, fc, fr, d, rfl, B, rfl⟩) (ev_fn (ea_cons (ev_var rfl) (ea_cons (ev_var rfl) (ea_cons (ev_var rfl) (ea_cons (ev_var rfl) ea_nil)))) fun _ _ => ⟨b, fc, fr, d, rfl, B, rfl⟩) (rv_ne (scal_opt _ _)))) ?_) (fun z => nomatch z) fun _ H11 e11 => ⟨_, rfl, ex_l e11 hp, e11 _ _ hq⟩
          rw [decide_eq_true rfl]
          rfl
        · rintro q σ' H10 ⟨r5, rfl, hp, hq⟩
          exact ⟨_, _, _, _, _, _, _, _, rfl, hp⟩
      · rintro p σ' H4 ⟨r3, r4, r5, r6, r7, r8, r9, r10, rfl, hp⟩
        refine q_when (b := false) (et_is (et_or (a := false) (b := false) (et_is (et_test (ev_op (ev_fn (v := vi 6) (ea_cons ev_c (ea_cons ev_c (ea_cons ev_c (ea_cons ev_c ea_nil)))) fun _ _ => ⟨10, 4, true, 4, rfl, ⟨by decide, by decide, by decide, by decide, by decide, by decide⟩, ?_⟩) ev_c (rv_ne rfl))) ?_) fun _ => et_is (et_test (ev_op (ev_fn (v := vi 18) (ea_cons ev_c (ea_cons ev_c (ea_cons ev_c (ea_cons ev_c ea_nil)))) fun _ _ => ⟨10, 2, true, 2, rfl, ⟨by decide, by decide, by decide, by decide, by decide, by decide⟩, ?_⟩) ev_c (rv_ne rfl))) ?_) rfl) (fun z => nomatch z) fun _ H5 e5 => ?_
        · decide +kernel
        · decide +kernel
        · decide +kernel
        · decide +kernel
        refine q_when (b := false) (et_is (et_or (a := false) (b := false) (et_is (et_test (ev_op (ev_fn (v := .non) (ea_cons ev_c (ea_cons ev_c (ea_cons ev_c (ea_cons ev_c ea_nil)))) fun _ _ => ⟨10, 4, true, 3, rfl, ⟨by decide, by decide, by decide, by decide, by decide, by decide⟩, ?_⟩) ev_c rv_notN)) ?_) fun _ => et_is (et_test (ev_op (ev_fn (v := .non) (ea_cons ev_c (ea_cons ev_c (ea_cons ev_c (ea_cons ev_c ea_nil)))) fun _ _ => ⟨10, 2, false, 1, rfl, ⟨by decide, by decide, by decide, by decide, by decide, by decide⟩, ?_⟩) ev_c rv_notN)) ?_) rfl) (fun z => nomatch z) fun _ H6 e6 => ?_
        · decide +kernel
        · decide +kernel
        · decide +kernel
        · decide +kernel
        refine s_ret (v := .bl true) (ev_is (ev_op (ev_fn (v := vi 6) (ea_cons ev_c (ea_cons ev_c (ea_cons ev_c (ea_cons ev_c ea_nil)))) fun _ _ => ⟨10, 3, false, 1, rfl, ⟨by decide, by decide, by decide, by decide, by decide, by decide⟩, ?_⟩) ev_c (rv_eq rfl)) ?_) fun H7 e7 => k H7
        · decide +kernel
        · decide +kernel
end
end Tf

namespace Tf
open PySem PySem.Spec PyProof.Rows L2 Evl
theorem all_mk {l : PySem.W.OpenLaw} {w : World} {K : PySem.W.Frag} {h : Heap} {mg : Str → Option Value} {fa f0 f1 f2 f3 f4 f5 f6 f7 f8 f9 f10 f11 f12 f13 : Addr} (X : K.In h) (G : h.Ns mainGlobals mg) (hfa : mg "law" = some (.ref fa))
    {aS : Addr} {tS1 tS2 : Tok} {nS : Nat} {odS : Option Addr} {slS : Array (Option Value)}
    {od0 an0 : Option Addr} {sl0 : Array (Option Value)} {oc0 kV0 dc0 pm0 cd0 ct0 : Value}
    (a0 : PySem.W.nsIn K mainGlobals "is_whole" = some (some (.ref f0)))
    (l0 : K.lookup f0 = some ⟨oc0, od0, .func (PySem.W.fnOf "is_whole" "is_whole" (defArgs s_is_whole) (defBody s_is_whole) (defScope s_is_whole) .none kV0 dc0 pm0 an0 cd0 ct0), sl0⟩) (c0 : PySem.W.codeIn K cd0 "is_whole" = true) (k0 : PySem.W.keepIn K (.ref f0) = true)
    {od1 an1 : Option Addr} {sl1 : Array (Option Value)} {oc1 kV1 dc1 pm1 cd1 ct1 : Value}
    (a1 : PySem.W.nsIn K mainGlobals "asked_base" = some (some (.ref f1)))
    (l1 : K.lookup f1 = some ⟨oc1, od1, .func (PySem.W.fnOf "asked_base" "asked_base" (defArgs s_asked_base) (defBody s_asked_base) (defScope s_asked_base) .none kV1 dc1 pm1 an1 cd1 ct1), sl1⟩) (c1 : PySem.W.codeIn K cd1 "asked_base" = true) (k1 : PySem.W.keepIn K (.ref f1) = true)
    {od2 an2 : Option Addr} {sl2 : Array (Option Value)} {oc2 kV2 dc2 pm2 cd2 ct2 : Value}
    (a2 : PySem.W.nsIn K mainGlobals "asked_side" = some (some (.ref f2)))
    (l2 : K.lookup f2 = some ⟨oc2, od2, .func (PySem.W.fnOf "asked_side" "asked_side" (defArgs s_asked_side) (defBody s_asked_side) (defScope s_asked_side) .none kV2 dc2 pm2 an2 cd2 ct2), sl2⟩) (c2 : PySem.W.codeIn K cd2 "asked_side" = true) (k2 : PySem.W.keepIn K (.ref f2) = true)
    {od3 an3 : Option Addr} {sl3 : Array (Option Value)} {oc3 kV3 dc3 pm3 cd3 ct3 : Value}
    (a3 : PySem.W.nsIn K mainGlobals "common" = some (some (.ref f3)))
    (l3 : K.lookup f3 = some ⟨oc3, od3, .func (PySem.W.fnOf "common" "common" (defArgs s_common) (defBody s_common) (defScope s_common) .none kV3 dc3 pm3 an3 cd3 ct3), sl3⟩) (c3 : PySem.W.codeIn K cd3 "common" = true) (k3 : PySem.W.keepIn K (.ref f3) = true)
    {od4 an4 : Option Addr} {sl4 : Array (Option Value)} {oc4 kV4 dc4 pm4 cd4 ct4 : Value}
    (a4 : PySem.W.nsIn K mainGlobals "often_back" = some (some (.ref f4)))
    (l4 : K.lookup f4 = some ⟨oc4, od4, .func (PySem.W.fnOf "often_back" "often_back" (defArgs s_often_back) (defBody s_often_back) (defScope s_often_back) .none kV4 dc4 pm4 an4 cd4 ct4), sl4⟩) (c4 : PySem.W.codeIn K cd4 "often_back" = true) (k4 : PySem.W.keepIn K (.ref f4) = true)
    {od5 an5 : Option Addr} {sl5 : Array (Option Value)} {oc5 kV5 dc5 pm5 cd5 ct5 : Value}
    (a5 : PySem.W.nsIn K mainGlobals "length_of" = some (some (.ref f5)))
    (l5 : K.lookup f5 = some ⟨oc5, od5, .func (PySem.W.fnOf "length_of" "length_of" (defArgs s_length_of) (defBody s_length_of) (defScope s_length_of) .none kV5 dc5 pm5 an5 cd5 ct5), sl5⟩) (c5 : PySem.W.codeIn K cd5 "length_of" = true) (k5 : PySem.W.keepIn K (.ref f5) = true)
    {od6 an6 : Option Addr} {sl6 : Array (Option Value)} {oc6 kV6 dc6 pm6 cd6 ct6 : Value}
    (a6 : PySem.W.nsIn K mainGlobals "asked_factor" = some (some (.ref f6)))
    (l6 : K.lookup f6 = some ⟨oc6, od6, .func (PySem.W.fnOf "asked_factor" "asked_factor" (defArgs s_asked_factor) (defBody s_asked_factor) (defScope s_asked_factor) .none kV6 dc6 pm6 an6 cd6 ct6), sl6⟩) (c6 : PySem.W.codeIn K cd6 "asked_factor" = true) (k6 : PySem.W.keepIn K (.ref f6) = true)
    {od7 an7 : Option Addr} {sl7 : Array (Option Value)} {oc7 kV7 dc7 pm7 cd7 ct7 : Value}
    (a7 : PySem.W.nsIn K mainGlobals "asked_figure" = some (some (.ref f7)))
    (l7 : K.lookup f7 = some ⟨oc7, od7, .func (PySem.W.fnOf "asked_figure" "asked_figure" (defArgs s_asked_figure) (defBody s_asked_figure) (defScope s_asked_figure) .none kV7 dc7 pm7 an7 cd7 ct7), sl7⟩) (c7 : PySem.W.codeIn K cd7 "asked_figure" = true) (k7 : PySem.W.keepIn K (.ref f7) = true)
    {od8 an8 : Option Addr} {sl8 : Array (Option Value)} {oc8 kV8 dc8 pm8 cd8 ct8 : Value}
    (a8 : PySem.W.nsIn K mainGlobals "least_many" = some (some (.ref f8)))
    (l8 : K.lookup f8 = some ⟨oc8, od8, .func (PySem.W.fnOf "least_many" "least_many" (defArgs s_least_many) (defBody s_least_many) (defScope s_least_many) .none kV8 dc8 pm8 an8 cd8 ct8), sl8⟩) (c8 : PySem.W.codeIn K cd8 "least_many" = true) (k8 : PySem.W.keepIn K (.ref f8) = true)
    {od9 an9 : Option Addr} {sl9 : Array (Option Value)} {oc9 kV9 dc9 pm9 cd9 ct9 : Value}
    (a9 : PySem.W.nsIn K mainGlobals "_law_number" = some (some (.ref f9)))
    (l9 : K.lookup f9 = some ⟨oc9, od9, .func (PySem.W.fnOf "_law_number" "_law_number" (defArgs s__law_number) (defBody s__law_number) (defScope s__law_number) .none kV9 dc9 pm9 an9 cd9 ct9), sl9⟩) (c9 : PySem.W.codeIn K cd9 "_law_number" = true) (k9 : PySem.W.keepIn K (.ref f9) = true)
    {od10 an10 : Option Addr} {sl10 : Array (Option Value)} {oc10 kV10 dc10 pm10 cd10 ct10 : Value}
    (a10 : PySem.W.nsIn K mainGlobals "_law_front" = some (some (.ref f10)))
    (l10 : K.lookup f10 = some ⟨oc10, od10, .func (PySem.W.fnOf "_law_front" "_law_front" (defArgs s__law_front) (defBody s__law_front) (defScope s__law_front) .none kV10 dc10 pm10 an10 cd10 ct10), sl10⟩) (c10 : PySem.W.codeIn K cd10 "_law_front" = true) (k10 : PySem.W.keepIn K (.ref f10) = true)
    {od11 an11 : Option Addr} {sl11 : Array (Option Value)} {oc11 kV11 dc11 pm11 cd11 ct11 : Value}
    (a11 : PySem.W.nsIn K mainGlobals "_law_behind" = some (some (.ref f11)))
    (l11 : K.lookup f11 = some ⟨oc11, od11, .func (PySem.W.fnOf "_law_behind" "_law_behind" (defArgs s__law_behind) (defBody s__law_behind) (defScope s__law_behind) .none kV11 dc11 pm11 an11 cd11 ct11), sl11⟩) (c11 : PySem.W.codeIn K cd11 "_law_behind" = true) (k11 : PySem.W.keepIn K (.ref f11) = true)
    {od12 an12 : Option Addr} {sl12 : Array (Option Value)} {oc12 kV12 dc12 pm12 cd12 ct12 : Value}
    (a12 : PySem.W.nsIn K mainGlobals "_law_length" = some (some (.ref f12)))
    (l12 : K.lookup f12 = some ⟨oc12, od12, .func (PySem.W.fnOf "_law_length" "_law_length" (defArgs s__law_length) (defBody s__law_length) (defScope s__law_length) .none kV12 dc12 pm12 an12 cd12 ct12), sl12⟩) (c12 : PySem.W.codeIn K cd12 "_law_length" = true) (k12 : PySem.W.keepIn K (.ref f12) = true)
    {od13 an13 : Option Addr} {sl13 : Array (Option Value)} {oc13 kV13 dc13 pm13 cd13 ct13 : Value}
    (a13 : PySem.W.nsIn K mainGlobals "law" = some (some (.ref f13)))
    (l13 : K.lookup f13 = some ⟨oc13, od13, .func (PySem.W.fnOf "law" "law" (defArgs s_law) (defBody s_law) (defScope s_law) .none kV13 dc13 pm13 an13 cd13 ct13), sl13⟩) (c13 : PySem.W.codeIn K cd13 "law" = true) (k13 : PySem.W.keepIn K (.ref f13) = true)
    (z0 : PySem.W.nsIn K mainGlobals "isinstance" = some none)
    (z1 : PySem.W.nsIn K mainGlobals "int" = some none)
    (z2 : PySem.W.nsIn K mainGlobals "bool" = some none)
    (z3 : PySem.W.nsIn K mainGlobals "str" = some none)
    (z4 : PySem.W.nsIn K mainGlobals "list" = some none)
    (z5 : PySem.W.nsIn K mainGlobals "all" = some none)
    (z6 : PySem.W.nsIn K mainGlobals "any" = some none)
    (z7 : PySem.W.nsIn K mainGlobals "abs" = some none)
    (z8 : PySem.W.nsIn K mainGlobals "sum" = some none)
    (z9 : PySem.W.nsIn K mainGlobals "range" = some none)
    (z10 : PySem.W.nsIn K mainGlobals "enumerate" = some none)
    (z11 : PySem.W.nsIn K mainGlobals "len" = some none)
    (gS : PySem.W.nsIn K mainGlobals "SIDES" = some (some (.ref aS)))
    (lS : K.lookup aS = some ⟨.type "tuple", odS, .seq #[.str "front" tS1, .str "behind" tS2] nS, slS⟩)
    : ∃ fd : FuncData, (∀ (s : Shared) (v : Value), BindsTo s fd ⟨[v], []⟩ [("_law_script", v)]) ∧ ∀ base : Heap, K.In base → base.Ns mainGlobals mg → FnOk l.prog w K mg base CX0 5 fa fd P_law (spLaw K) := by
  have e := hfa.symm.trans (PySem.W.mg_of X G a13)
  cases e
  have T : Nm mg := ⟨PySem.W.mg_none_of X G z0, PySem.W.mg_none_of X G z1, PySem.W.mg_none_of X G z2, PySem.W.mg_none_of X G z3, PySem.W.mg_none_of X G z4, PySem.W.mg_none_of X G z5, PySem.W.mg_none_of X G z6, PySem.W.mg_none_of X G z7, PySem.W.mg_none_of X G z8, PySem.W.mg_none_of X G z9, PySem.W.mg_none_of X G z10, PySem.W.mg_none_of X G z11⟩
  have S : Sides K mg aS := ⟨PySem.W.mg_of X G gS, fun H => .inr ⟨_, _, _, lS, rfl, rfl, (by show 2 ≤ sizeLine; decide), .cons ⟨_, rfl⟩ (.cons ⟨_, rfl⟩ .nil)⟩⟩
  have F_is_whole := fun_mk (st := s_is_whole) l0 c0 k0
  have b_is_whole := F_is_whole.binds (ps := P_is_whole) fun _ _ _ _ _ _ us hl => match us, hl with | [_], _ => rfl
  have H_is_whole : ∀ base : Heap, Has l.prog w K mg base "is_whole" P_is_whole _ _ := fun base => ⟨⟨_, _, PySem.W.mg_of X G a0, k0, b_is_whole, ok_is_whole T F_is_whole⟩⟩
  have F_asked_base := fun_mk (st := s_asked_base) l1 c1 k1
  have b_asked_base := F_asked_base.binds (ps := P_asked_base) fun _ _ _ _ _ _ us hl => match us, hl with | [_], _ => rfl
  have H_asked_base : ∀ base : Heap, Has l.prog w K mg base "asked_base" P_asked_base _ _ := fun base => ⟨⟨_, _, PySem.W.mg_of X G a1, k1, b_asked_base, ok_asked_base F_asked_base (H_is_whole base)⟩⟩
  have F_asked_side := fun_mk (st := s_asked_side) l2 c2 k2
  have b_asked_side := F_asked_side.binds (ps := P_asked_side) fun _ _ _ _ _ _ us hl => match us, hl with | [_], _ => rfl
  have H_asked_side : ∀ base : Heap, Has l.prog w K mg base "asked_side" P_asked_side _ _ := fun base => ⟨⟨_, _, PySem.W.mg_of X G a2, k2, b_asked_side, ok_asked_side T S F_asked_side⟩⟩
  have F_common := fun_mk (st := s_common) l3 c3 k3
  have b_common := F_common.binds (ps := P_common) fun _ _ _ _ _ _ us hl => match us, hl with | [_, _], _ => rfl
  have H_common : ∀ base : Heap, Has l.prog w K mg base "common" P_common _ _ := fun base => ⟨⟨_, _, PySem.W.mg_of X G a3, k3, b_common, ok_common F_common⟩⟩
  have F_often_back := fun_mk (st := s_often_back) l4 c4 k4
  have b_often_back := F_often_back.binds (ps := P_often_back) fun _ _ _ _ _ _ us hl => match us, hl with | [_, _], _ => rfl
  have H_often_back : ∀ base : Heap, Has l.prog w K mg base "often_back" P_often_back _ _ := fun base => ⟨⟨_, _, PySem.W.mg_of X G a4, k4, b_often_back, ok_often_back F_often_back (H_common base)⟩⟩
  have F_length_of := fun_mk (st := s_length_of) l5 c5 k5
  have b_length_of := F_length_of.binds (ps := P_length_of) fun _ _ _ _ _ _ us hl => match us, hl with | [_, _, _, _], _ => rfl
  have H_length_of : ∀ base : Heap, Has l.prog w K mg base "length_of" P_length_of _ _ := fun base => ⟨⟨_, _, PySem.W.mg_of X G a5, k5, b_length_of, ok_length_of F_length_of (H_common base) (H_often_back base)⟩⟩
  have F_asked_factor := fun_mk (st := s_asked_factor) l6 c6 k6
  have b_asked_factor := F_asked_factor.binds (ps := P_asked_factor) fun _ _ _ _ _ _ us hl => match us, hl with | [_, _], _ => rfl
  have H_asked_factor : ∀ base : Heap, Has l.prog w K mg base "asked_factor" P_asked_factor _ _ := fun base => ⟨⟨_, _, PySem.W.mg_of X G a6, k6, b_asked_factor, ok_asked_factor F_asked_factor (H_is_whole base)⟩⟩
  have F_asked_figure := fun_mk (st := s_asked_figure) l7 c7 k7
  have b_asked_figure := F_asked_figure.binds (ps := P_asked_figure) fun _ _ _ _ _ _ us hl => match us, hl with | [_, _], _ => rfl
  have H_asked_figure : ∀ base : Heap, Has l.prog w K mg base "asked_figure" P_asked_figure _ _ := fun base => ⟨⟨_, _, PySem.W.mg_of X G a7, k7, b_asked_figure, ok_asked_figure F_asked_figure (H_is_whole base)⟩⟩
  have F_least_many := fun_mk (st := s_least_many) l8 c8 k8
  have b_least_many := F_least_many.binds (ps := P_least_many) fun _ _ _ _ _ _ us hl => match us, hl with | [_, _, _, _], _ => rfl
  have H_least_many : ∀ base : Heap, Has l.prog w K mg base "least_many" P_least_many _ _ := fun base => ⟨⟨_, _, PySem.W.mg_of X G a8, k8, b_least_many, ok_least_many F_least_many (H_asked_base base) (H_asked_factor base) (H_asked_side base) (H_asked_figure base) (H_length_of base)⟩⟩
  have F__law_number := fun_mk (st := s__law_number) l9 c9 k9
  have b__law_number := F__law_number.binds (ps := P__law_number) fun _ _ _ _ _ _ us hl => match us, hl with | [_, _, _], _ => rfl
  have H__law_number : ∀ base : Heap, Has l.prog w K mg base "_law_number" P__law_number _ _ := fun base => ⟨⟨_, _, PySem.W.mg_of X G a9, k9, b__law_number, ok__law_number T F__law_number⟩⟩
  have F__law_front := fun_mk (st := s__law_front) l10 c10 k10
  have b__law_front := F__law_front.binds (ps := P__law_front) fun _ _ _ _ _ _ us hl => match us, hl with | [_, _, _], _ => rfl
  have H__law_front : ∀ base : Heap, Has l.prog w K mg base "_law_front" P__law_front _ _ := fun base => ⟨⟨_, _, PySem.W.mg_of X G a10, k10, b__law_front, ok__law_front F__law_front⟩⟩
  have F__law_behind := fun_mk (st := s__law_behind) l11 c11 k11
  have b__law_behind := F__law_behind.binds (ps := P__law_behind) fun _ _ _ _ _ _ us hl => match us, hl with | [_, _, _], _ => rfl
  have H__law_behind : ∀ base : Heap, Has l.prog w K mg base "_law_behind" P__law_behind _ _ := fun base => ⟨⟨_, _, PySem.W.mg_of X G a11, k11, b__law_behind, ok__law_behind T F__law_behind⟩⟩
  have F__law_length := fun_mk (st := s__law_length) l12 c12 k12
  have b__law_length := F__law_length.binds (ps := P__law_length) fun _ _ _ _ _ _ us hl => match us, hl with | [_, _, _, _], _ => rfl
  have H__law_length : ∀ base : Heap, Has l.prog w K mg base "_law_length" P__law_length _ _ := fun base => ⟨⟨_, _, PySem.W.mg_of X G a12, k12, b__law_length, ok__law_length F__law_length (H__law_front base) (H__law_behind base)⟩⟩
  have F_law := fun_mk (st := s_law) l13 c13 k13
  exact ⟨PySem.W.fnOf "law" "law" (defArgs s_law) (defBody s_law) (defScope s_law) .none kV13 dc13 pm13 an13 cd13 ct13, fun s v => .of_eq rfl, fun base _ _ => ok_law T F_law (H__law_number base) (H__law_length base) (H_least_many base)⟩
end Tf
open PySem PySem.W PyProof.Rows
set_option maxRecDepth 100000 in
set_option maxHeartbeats 0 in
theorem PySem.Challenge.cw_turnfigures_k02_whole_lengths_holds : PySem.Challenge.rw_turnfigures_k02_whole_lengths.Holds := by
  w_on; o_law; k_head; (case hw => w_witness2)
  k_fill
  refine L2.walk_of (l := PySem.Challenge.rw_turnfigures_k02_whole_lengths) (n := 63) (k := 5) (x := "_law_script") (CX := fun _ => L2.CX0) (sp := fun w => Tf.spLaw _) rfl (by decide) rfl ⟨rfl, by decide, by decide⟩ (fun w h Y => PySem.W.kIn_of Y) ?F (fun _ _ a ns hl _ hS => ⟨a, ns, rfl, hS, hl, fun _ => rfl⟩) (fun _ _ _ _ _ h => h)
  case F =>
    intro w mg fa h KX G hmg
    refine' Tf.all_mk KX G hmg ?a0 ?l0 ?c0 ?k0 ?a1 ?l1 ?c1 ?k1 ?a2 ?l2 ?c2 ?k2 ?a3 ?l3 ?c3 ?k3 ?a4 ?l4 ?c4 ?k4 ?a5 ?l5 ?c5 ?k5 ?a6 ?l6 ?c6 ?k6 ?a7 ?l7 ?c7 ?k7 ?a8 ?l8 ?c8 ?k8 ?a9 ?l9 ?c9 ?k9 ?a10 ?l10 ?c10 ?k10 ?a11 ?l11 ?c11 ?k11 ?a12 ?l12 ?c12 ?k12 ?a13 ?l13 ?c13 ?k13 ?z0 ?z1 ?z2 ?z3 ?z4 ?z5 ?z6 ?z7 ?z8 ?z9 ?z10 ?z11 ?gS ?lS
    (case a0 => k_is)
    (case l0 => k_is)
    (case c0 => k_is)
    (case k0 => k_is)
    (case a1 => k_is)
    (case l1 => k_is)
    (case c1 => k_is)
    (case k1 => k_is)
    (case a2 => k_is)
    (case l2 => k_is)
    (case c2 => k_is)
    (case k2 => k_is)
    (case a3 => k_is)
    (case l3 => k_is)
    (case c3 => k_is)
    (case k3 => k_is)
    (case a4 => k_is)
    (case l4 => k_is)
    (case c4 => k_is)
    (case k4 => k_is)
    (case a5 => k_is)
    (case l5 => k_is)
    (case c5 => k_is)
    (case k5 => k_is)
    (case a6 => k_is)
    (case l6 => k_is)
    (case c6 => k_is)
    (case k6 => k_is)
    (case a7 => k_is)
    (case l7 => k_is)
    (case c7 => k_is)
    (case k7 => k_is)
    (case a8 => k_is)
    (case l8 => k_is)
    (case c8 => k_is)
    (case k8 => k_is)
    (case a9 => k_is)
    (case l9 => k_is)
    (case c9 => k_is)
    (case k9 => k_is)
    (case a10 => k_is)
    (case l10 => k_is)
    (case c10 => k_is)
    (case k10 => k_is)
    (case a11 => k_is)
    (case l11 => k_is)
    (case c11 => k_is)
    (case k11 => k_is)
    (case a12 => k_is)
    (case l12 => k_is)
    (case c12 => k_is)
    (case k12 => k_is)
    (case a13 => k_is)
    (case l13 => k_is)
    (case c13 => k_is)
    (case k13 => k_is)
    (case z0 => k_is)
    (case z1 => k_is)
    (case z2 => k_is)
    (case z3 => k_is)
    (case z4 => k_is)
    (case z5 => k_is)
    (case z6 => k_is)
    (case z7 => k_is)
    (case z8 => k_is)
    (case z9 => k_is)
    (case z10 => k_is)
    (case z11 => k_is)
    (case gS => k_is)
    (case lS => k_is)
