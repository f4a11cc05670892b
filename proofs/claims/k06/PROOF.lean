import PyProof.Rows.All
import Wide.All
import OpenK.AllK
import Wide.FinOn
import HandS.ForMost
import HandS.Evl
import HandS.Wide
import HandS.Style
import HandS.IsInst
import HandS.SortInts
import HandS.New0
import HandS.CallRecv
import PySem.Challenge.RW_turnfigures_k06_by_hand
set_option Elab.async false
set_option linter.all false
set_option maxRecDepth 100000
set_option maxHeartbeats 4000000

/-! # figures, plain -/
namespace Tf
def lowF (b : Nat) : Nat → Nat → List Nat
  | 0, _ => []
  | f + 1, n => if n = 0 then [] else n % b :: lowF b f (n / b)
/-- the figures, the least place first -/
def low (b n : Nat) : List Nat := lowF b n n
theorem div_lt {b n : Nat} (hb : 2 ≤ b) (hn : 0 < n) : n / b < n := Nat.div_lt_self hn hb
theorem lowF_eq {b : Nat} (hb : 2 ≤ b) : ∀ (f g n : Nat), n ≤ f → n ≤ g → lowF b f n = lowF b g n
  | 0, 0, _, _, _ => rfl
  | 0, g + 1, n, h, _ => by
    have e : n = 0 := by omega
    subst e
    rfl
  | f + 1, 0, n, _, h => by
    have e : n = 0 := by omega
    subst e
    rfl
  | f + 1, g + 1, n, h1, h2 => by
    unfold lowF
    by_cases e : n = 0
    · rw [if_pos e, if_pos e]
    · rw [if_neg e, if_neg e]
      have l := div_lt hb (Nat.pos_of_ne_zero e)
      rw [lowF_eq hb f g (n / b) (by omega) (by omega)]
theorem low_zero (b : Nat) : low b 0 = [] := rfl
theorem low_pos {b n : Nat} (hb : 2 ≤ b) (hn : 0 < n) : low b n = n % b :: low b (n / b) := by
  unfold low
  cases n with
  | zero => omega
  | succ k =>
    show (if k + 1 = 0 then [] else (k + 1) % b :: lowF b k ((k + 1) / b)) = _
    rw [if_neg (by omega)]
    have l := div_lt hb hn
    rw [lowF_eq hb k ((k + 1) / b) ((k + 1) / b) (by omega) (Nat.le_refl _)]
/-- the number of a row of figures -/
def wr (b : Nat) (ds : List Nat) : Nat := ds.foldl (fun a d => a * b + d) 0
theorem wr_fold (b : Nat) : ∀ (ds : List Nat) (a : Nat), ds.foldl (fun a d => a * b + d) a = a * b ^ ds.length + wr b ds
  | [], a => by simp [wr]
  | d :: ds, a => by
    rw [List.foldl_cons, wr_fold b ds (a * b + d)]
    show _ = a * b ^ (ds.length + 1) + (d :: ds).foldl (fun a d => a * b + d) 0
    rw [List.foldl_cons, wr_fold b ds (0 * b + d), Nat.pow_succ]
    have e : (a * b + d) * b ^ ds.length = a * (b ^ ds.length * b) + d * b ^ ds.length := by
      rw [Nat.add_mul, Nat.mul_assoc, Nat.mul_comm b (b ^ ds.length)]
    rw [e, Nat.zero_mul, Nat.zero_add]
    omega
theorem wr_nil (b : Nat) : wr b [] = 0 := rfl
theorem wr_cons (b d : Nat) (ds : List Nat) : wr b (d :: ds) = d * b ^ ds.length + wr b ds := by
  unfold wr
  rw [List.foldl_cons, wr_fold]
  simp [wr]
theorem wr_append (b : Nat) (xs ys : List Nat) : wr b (xs ++ ys) = wr b xs * b ^ ys.length + wr b ys := by
  unfold wr
  rw [List.foldl_append, wr_fold]
  rfl
theorem wr_snoc (b : Nat) (xs : List Nat) (d : Nat) : wr b (xs ++ [d]) = wr b xs * b + d := by
  unfold wr
  rw [List.foldl_append]
  rfl
theorem wr_take {b : Nat} {ds : List Nat} {i d : Nat} (h : ds[i]? = some d) : wr b (ds.take (i + 1)) = wr b (ds.take i) * b + d := by
  rw [List.take_add_one, h]
  exact wr_snoc b _ d
/-- the figures, the greatest place first -/
def figs (b n : Nat) : List Nat := (low b n).reverse
theorem figs_zero (b : Nat) : figs b 0 = [] := rfl
theorem figs_pos {b n : Nat} (hb : 2 ≤ b) (hn : 0 < n) : figs b n = figs b (n / b) ++ [n % b] := by
  unfold figs
  rw [low_pos hb hn, List.reverse_cons]
theorem wr_figs {b : Nat} (hb : 2 ≤ b) (n : Nat) : wr b (figs b n) = n := by
  induction n using Nat.strongRecOn with
  | _ n ih =>
    by_cases e : n = 0
    · subst e
      rfl
    · have hn := Nat.pos_of_ne_zero e
      rw [figs_pos hb hn, wr_snoc, ih _ (div_lt hb hn), Nat.mul_comm]
      exact Nat.div_add_mod n b
theorem figs_lt {b : Nat} (hb : 2 ≤ b) (n : Nat) : ∀ d ∈ figs b n, d < b := by
  induction n using Nat.strongRecOn with
  | _ n ih =>
    by_cases e : n = 0
    · subst e
      intro d hd
      cases hd
    · have hn := Nat.pos_of_ne_zero e
      rw [figs_pos hb hn]
      intro d hd
      rcases List.mem_append.mp hd with h | h
      · exact ih _ (div_lt hb hn) d h
      · have z : d = n % b := by simpa using h
        rw [z]
        exact Nat.mod_lt _ (by omega)
theorem figs_ne {b n : Nat} (hb : 2 ≤ b) (hn : 0 < n) : figs b n ≠ [] := by
  rw [figs_pos hb hn]
  simp
theorem figs_len_pos {b n : Nat} (hb : 2 ≤ b) (hn : 0 < n) : 0 < (figs b n).length := List.length_pos_iff.mpr (figs_ne hb hn)
theorem figs_head {b : Nat} (hb : 2 ≤ b) (n : Nat) : ∀ d, (figs b n)[0]? = some d → 0 < d := by
  induction n using Nat.strongRecOn with
  | _ n ih =>
    by_cases e : n = 0
    · subst e
      intro d hd
      cases hd
    · have hn := Nat.pos_of_ne_zero e
      intro d hd
      rw [figs_pos hb hn] at hd
      by_cases l : n / b = 0
      · rw [l, figs_zero] at hd
        have z : n % b = d := by simpa using hd
        have m := Nat.div_add_mod n b
        rw [l] at m
        omega
      · have lp := figs_len_pos (b := b) hb (Nat.pos_of_ne_zero l)
        rw [List.getElem?_append_left lp] at hd
        exact ih _ (div_lt hb hn) d hd
/-- a row of figures whose first one is above 0 is that of its number -/
theorem figs_wr {b : Nat} (hb : 2 ≤ b) : ∀ (k : Nat) (ds : List Nat), ds.length = k → (∀ d ∈ ds, d < b) → (∀ d, ds[0]? = some d → 0 < d) → figs b (wr b ds) = ds
  | 0, ds, hk, _, _ => by
    rw [List.length_eq_zero_iff.mp hk]
    rfl
  | k + 1, ds, hk, h1, h2 => by
    have hne : ds ≠ [] := fun e => by
      rw [e] at hk
      cases hk
    have hs := List.dropLast_concat_getLast hne
    have hlast : ds.getLast hne < b := h1 _ (List.getLast_mem hne)
    have hl : ds.dropLast.length = k := by
      rw [List.length_dropLast, hk]
      rfl
    have e : wr b ds = wr b ds.dropLast * b + ds.getLast hne := by
      conv => lhs; rw [← hs]
      exact wr_snoc b _ _
    have i1 : ∀ d ∈ ds.dropLast, d < b := fun d hd => h1 d (List.dropLast_subset _ hd)
    have i2 : ∀ d, ds.dropLast[0]? = some d → 0 < d := fun d hd => by
      refine h2 d ?_
      have l0 : 0 < ds.dropLast.length := (List.getElem?_eq_some_iff.mp hd).1
      rw [← hs, List.getElem?_append_left l0]
      exact hd
    have ih := figs_wr hb k ds.dropLast hl i1 i2
    have dv : wr b ds / b = wr b ds.dropLast := by
      rw [e, Nat.mul_comm, Nat.mul_add_div (by omega), Nat.div_eq_of_lt hlast, Nat.add_zero]
    have md : wr b ds % b = ds.getLast hne := by
      rw [e, Nat.mul_comm, Nat.mul_add_mod, Nat.mod_eq_of_lt hlast]
    have pos : 0 < wr b ds := by
      by_cases z : k = 0
      · subst z
        have z2 : ds.dropLast = [] := List.length_eq_zero_iff.mp hl
        rw [z2] at hs e
        have g : ds[0]? = some (ds.getLast hne) := (congrArg (fun l : List Nat => l[0]?) hs).symm
        have : 0 < ds.getLast hne := h2 _ g
        omega
      · have q : 0 < ds.dropLast.length := by omega
        have p0 : 0 < wr b ds.dropLast := by
          by_cases w : wr b ds.dropLast = 0
          · rw [w, figs_zero] at ih
            rw [← ih] at q
            cases q
          · exact Nat.pos_of_ne_zero w
        rw [e]
        have : b ≤ wr b ds.dropLast * b := Nat.le_mul_of_pos_left b p0
        omega
    rw [figs_pos hb pos, dv, md, ih]
    exact hs
theorem wr_lt {b : Nat} (hb : 2 ≤ b) : ∀ ds : List Nat, (∀ d ∈ ds, d < b) → wr b ds < b ^ ds.length
  | [], _ => by simp [wr_nil]
  | d :: ds, h => by
    rw [wr_cons, List.length_cons, Nat.pow_succ]
    have h1 := wr_lt hb ds fun x hx => h x (List.mem_cons_of_mem _ hx)
    have h2 : d + 1 ≤ b := h d List.mem_cons_self
    have h3 : (d + 1) * b ^ ds.length ≤ b * b ^ ds.length := Nat.mul_le_mul_right _ h2
    rw [Nat.add_mul, Nat.one_mul] at h3
    rw [Nat.mul_comm (b ^ ds.length) b]
    omega
/-- how many figures -/
theorem figs_len_le {b : Nat} (hb : 2 ≤ b) : ∀ (k n : Nat), n < b ^ k → (figs b n).length ≤ k
  | 0, n, h => by
    have e : n = 0 := by simpa using h
    subst e
    exact Nat.le_refl _
  | k + 1, n, h => by
    by_cases e : n = 0
    · subst e
      exact Nat.zero_le _
    · rw [figs_pos hb (Nat.pos_of_ne_zero e), List.length_append]
      have : n / b < b ^ k := by
        rw [Nat.div_lt_iff_lt_mul (by omega)]
        rw [Nat.pow_succ] at h
        exact h
      have := figs_len_le hb k (n / b) this
      show _ + 1 ≤ _
      omega
theorem figs_len_ge {b : Nat} (hb : 2 ≤ b) {k n : Nat} (h : b ^ k ≤ n) : k < (figs b n).length := by
  have h1 := wr_lt hb (figs b n) (figs_lt hb n)
  rw [wr_figs hb] at h1
  exact (Nat.pow_lt_pow_iff_right (by omega)).mp (Nat.lt_of_le_of_lt h h1)
theorem figs_len2 {b : Nat} (hb : 2 ≤ b) {k n : Nat} (h : n < 2 ^ k) : (figs b n).length ≤ k :=
  figs_len_le hb k n (Nat.lt_of_lt_of_le h (Nat.pow_le_pow_left hb k))
/-! ### a figure moved -/
def rotF (ds : List Nat) : List Nat := ds.drop (ds.length - 1) ++ ds.take (ds.length - 1)
def rotB (ds : List Nat) : List Nat := ds.drop 1 ++ ds.take 1
def rot (fr : Bool) (ds : List Nat) : List Nat := if fr then rotF ds else rotB ds
theorem rotB_rotF (ds : List Nat) : rotB (rotF ds) = ds := by
  unfold rotB rotF
  by_cases h : ds = []
  · subst h
    rfl
  · have l : 0 < ds.length := List.length_pos_iff.mpr h
    have e : (ds.drop (ds.length - 1)).length = 1 := by
      rw [List.length_drop]
      omega
    obtain ⟨x, hx⟩ := List.length_eq_one_iff.mp e
    have t := List.take_append_drop (ds.length - 1) ds
    rw [hx] at t
    rw [hx]
    exact t
theorem rotF_rotB (ds : List Nat) : rotF (rotB ds) = ds := by
  unfold rotB rotF
  by_cases h : ds = []
  · subst h
    rfl
  · have l : 0 < ds.length := List.length_pos_iff.mpr h
    have e1 : (ds.drop 1).length = ds.length - 1 := by rw [List.length_drop]
    have e2 : (ds.drop 1 ++ ds.take 1).length - 1 = (ds.drop 1).length := by
      rw [List.length_append, List.length_take, e1]
      omega
    rw [e2, List.drop_left, List.take_left]
    exact List.take_append_drop _ _
theorem rot_rot (fr : Bool) (ds : List Nat) : rot (!fr) (rot fr ds) = ds := by
  cases fr with
  | true => exact rotB_rotF ds
  | false => exact rotF_rotB ds
theorem rot_len (fr : Bool) (ds : List Nat) : (rot fr ds).length = ds.length := by
  cases fr with
  | true =>
    show (ds.drop (ds.length - 1) ++ ds.take (ds.length - 1)).length = _
    rw [List.length_append, List.length_drop, List.length_take]
    omega
  | false =>
    show (ds.drop 1 ++ ds.take 1).length = _
    rw [List.length_append, List.length_drop, List.length_take]
    omega
theorem rot_mem (fr : Bool) {ds : List Nat} {d : Nat} (h : d ∈ rot fr ds) : d ∈ ds := by
  cases fr with
  | true =>
    rcases List.mem_append.mp (show d ∈ ds.drop (ds.length - 1) ++ ds.take (ds.length - 1) from h) with h | h
    · exact List.mem_of_mem_drop h
    · exact List.mem_of_mem_take h
  | false =>
    rcases List.mem_append.mp (show d ∈ ds.drop 1 ++ ds.take 1 from h) with h | h
    · exact List.mem_of_mem_drop h
    · exact List.mem_of_mem_take h
/-- the number with a figure moved -/
def mv (b n : Nat) (fr : Bool) : Nat := wr b (rot fr (figs b n))
theorem mv_back {b : Nat} (hb : 2 ≤ b) (n : Nat) (fr : Bool) (h : ∀ d, (rot fr (figs b n))[0]? = some d → 0 < d) : mv b (mv b n fr) (!fr) = n := by
  unfold mv
  rw [figs_wr hb _ _ rfl (fun d hd => figs_lt hb n d (rot_mem fr hd)) h, rot_rot, wr_figs hb]
theorem mv_pos {b : Nat} (hb : 2 ≤ b) (n : Nat) (fr : Bool) (h : ∀ d, (rot fr (figs b n))[0]? = some d → 0 < d) (hn : 0 < n) : 0 < mv b n fr := by
  by_cases z : mv b n fr = 0
  · have e := mv_back hb n fr h
    rw [z] at e
    have : mv b 0 (!fr) = 0 := by cases fr <;> rfl
    omega
  · exact Nat.pos_of_ne_zero z
theorem mv_lt {b : Nat} (hb : 2 ≤ b) (n : Nat) (fr : Bool) : mv b n fr < b ^ (figs b n).length := by
  have h := wr_lt hb (rot fr (figs b n)) fun d hd => figs_lt hb n d (rot_mem fr hd)
  rw [rot_len] at h
  exact h
end Tf

/-! # lengths, plain -/
namespace Tf
/-! ### rests -/
theorem mod_one_iff {n x : Nat} (hx : 1 ≤ x) : x % n = 1 % n ↔ n ∣ x - 1 := by
  constructor
  · intro h
    exact Nat.dvd_of_mod_eq_zero (Nat.sub_mod_eq_zero_of_mod_eq h)
  · rintro ⟨c, hc⟩
    have e : x = 1 + n * c := by omega
    rw [e, Nat.add_mul_mod_self_left]
theorem mod_mul {a a' c c' n : Nat} (h1 : a % n = a' % n) (h2 : c % n = c' % n) : (a * c) % n = (a' * c') % n := by
  rw [Nat.mul_mod, h1, h2, ← Nat.mul_mod]
theorem mod_pow {a a' n : Nat} (k : Nat) (h : a % n = a' % n) : a ^ k % n = a' ^ k % n := by
  rw [Nat.pow_mod, h, ← Nat.pow_mod]
theorem one_pow_mod {a n : Nat} (k : Nat) (h : a % n = 1 % n) : a ^ k % n = 1 % n := by
  rw [mod_pow k h, Nat.one_pow]
theorem pow_pos1 {a : Nat} (ha : 1 ≤ a) (k : Nat) : 1 ≤ a ^ k := Nat.pow_pos ha
/-! ### as many drawers as things, and one thing more -/
theorem drawers : ∀ (n : Nat) (h : Nat → Nat), (∀ i, i ≤ n → h i < n) → ∃ i j, i < j ∧ j ≤ n ∧ h i = h j
  | 0, h, hh => absurd (hh 0 (Nat.le_refl _)) (Nat.not_lt_zero _)
  | n + 1, h, hh => by
    by_cases ex : ∃ i, i ≤ n ∧ h i = h (n + 1)
    · obtain ⟨i, hi, e⟩ := ex
      exact ⟨i, n + 1, by omega, Nat.le_refl _, e⟩
    · have ne : ∀ i, i ≤ n → h i ≠ h (n + 1) := fun i hi e => ex ⟨i, hi, e⟩
      have hv : h (n + 1) < n + 1 := hh (n + 1) (Nat.le_refl _)
      obtain ⟨i, j, hij, hj, e⟩ := drawers n (fun i => if h i = n then h (n + 1) else h i) (fun i hi => by
        have h1 := hh i (by omega)
        have h2 := ne i hi
        show (if h i = n then h (n + 1) else h i) < n
        split <;> omega)
      refine ⟨i, j, hij, by omega, ?_⟩
      have e' : (if h i = n then h (n + 1) else h i) = (if h j = n then h (n + 1) else h j) := e
      have n1 := ne i (by omega)
      have n2 := ne j hj
      split at e' <;> split at e' <;> omega
theorem ord_ex {g n : Nat} (hg : 1 ≤ g) (hn : 1 ≤ n) (hc : Nat.Coprime g n) : ∃ k, 1 ≤ k ∧ k ≤ n ∧ g ^ k % n = 1 % n := by
  obtain ⟨i, j, hij, hj, e⟩ := drawers n (fun i => g ^ i % n) (fun i _ => Nat.mod_lt _ hn)
  refine ⟨j - i, by omega, by omega, ?_⟩
  rw [mod_one_iff (pow_pos1 hg _)]
  have d : n ∣ g ^ j - g ^ i := Nat.dvd_of_mod_eq_zero (Nat.sub_mod_eq_zero_of_mod_eq e.symm)
  have e2 : g ^ j - g ^ i = g ^ i * (g ^ (j - i) - 1) := by
    rw [Nat.mul_sub, ← Nat.pow_add, Nat.mul_one]
    congr 2
    omega
  rw [e2] at d
  exact (Nat.Coprime.pow_left i hc).symm.dvd_of_dvd_mul_left d
/-! ### how often till 1 is left -/
def seek (p : Nat → Bool) : Nat → Nat → Nat
  | 0, k => k
  | f + 1, k => if p k then k else seek p f (k + 1)
theorem seek_spec {p : Nat → Bool} : ∀ (f k m : Nat), k ≤ m → m ≤ k + f → p m = true → p (seek p f k) = true ∧ k ≤ seek p f k ∧ seek p f k ≤ m ∧ ∀ j, k ≤ j → j < seek p f k → p j = false
  | 0, k, m, h1, h2, hm => by
    have e : m = k := by omega
    subst e
    exact ⟨hm, Nat.le_refl _, Nat.le_refl _, fun j a b => by
      have b' : j < m := b
      omega⟩
  | f + 1, k, m, h1, h2, hm => by
    unfold seek
    by_cases hk : p k = true
    · rw [if_pos hk]
      exact ⟨hk, Nat.le_refl _, h1, fun j a b => by omega⟩
    · rw [if_neg hk]
      have hne : k ≠ m := fun e => hk (by rw [e]; exact hm)
      obtain ⟨a, b, c, d⟩ := seek_spec f (k + 1) m (by omega) (by omega) hm
      refine ⟨a, by omega, c, fun j x y => ?_⟩
      by_cases z : j = k
      · subst z
        exact Bool.eq_false_iff.mpr hk
      · exact d j (by omega) y
def ordN (g n : Nat) : Nat := seek (fun k => g ^ k % n == 1 % n) n 1
structure IsOrd (g n k : Nat) : Prop where
  pos : 1 ≤ k
  le : k ≤ n
  one : g ^ k % n = 1 % n
  least : ∀ j, 1 ≤ j → j < k → g ^ j % n ≠ 1 % n
theorem ordN_is {g n : Nat} (hg : 1 ≤ g) (hn : 1 ≤ n) (hc : Nat.Coprime g n) : IsOrd g n (ordN g n) := by
  obtain ⟨k, h1, h2, h3⟩ := ord_ex hg hn hc
  obtain ⟨a, b, c, d⟩ := seek_spec (p := fun k => g ^ k % n == 1 % n) n 1 k h1 (by omega) (by simpa using h3)
  refine ⟨b, Nat.le_trans c h2, by unfold ordN; simpa using a, fun j x y => ?_⟩
  have := d j x y
  simpa using this
theorem IsOrd.dvd {g n k : Nat} (o : IsOrd g n k) (m : Nat) : g ^ m % n = 1 % n ↔ k ∣ m := by
  have key : ∀ q r, g ^ (k * q + r) % n = g ^ r % n := fun q r => by
    rw [Nat.pow_add, Nat.pow_mul]
    have h1 : (g ^ k) ^ q % n = 1 % n := one_pow_mod q o.one
    have := mod_mul h1 (rfl : g ^ r % n = g ^ r % n)
    rw [Nat.one_mul] at this
    exact this
  constructor
  · intro h
    have e := Nat.div_add_mod m k
    rw [← e, key] at h
    by_cases z : m % k = 0
    · exact Nat.dvd_of_mod_eq_zero z
    · exact absurd h (o.least _ (by omega) (Nat.mod_lt _ o.pos))
  · rintro ⟨q, rfl⟩
    have := key q 0
    rw [Nat.add_zero, Nat.pow_zero] at this
    exact this
theorem IsOrd.uniq {g n k l : Nat} (a : IsOrd g n k) (c : IsOrd g n l) : k = l :=
  Nat.dvd_antisymm ((a.dvd l).mp c.one) ((c.dvd k).mp a.one)
/-! ### the rest by the greatest common one -/
def cut (n d : Nat) : Nat := n / Nat.gcd n d
theorem cut_pos {n d : Nat} (hn : 1 ≤ n) : 1 ≤ cut n d := Nat.div_pos (Nat.le_of_dvd hn (Nat.gcd_dvd_left _ _)) (Nat.gcd_pos_of_pos_left _ hn)
theorem cut_le (n d : Nat) : cut n d ≤ n := Nat.div_le_self _ _
theorem cut_dvd (n d : Nat) : cut n d ∣ n := ⟨Nat.gcd n d, (Nat.div_mul_cancel (Nat.gcd_dvd_left n d)).symm⟩
theorem cut_iff {n d : Nat} (hn : 1 ≤ n) (x : Nat) : n ∣ d * x ↔ cut n d ∣ x := by
  have hg : 0 < Nat.gcd n d := Nat.gcd_pos_of_pos_left _ hn
  have e1 : n / Nat.gcd n d * Nat.gcd n d = n := Nat.div_mul_cancel (Nat.gcd_dvd_left n d)
  have e2 : d / Nat.gcd n d * Nat.gcd n d = d := Nat.div_mul_cancel (Nat.gcd_dvd_right n d)
  have co : (n / Nat.gcd n d).Coprime (d / Nat.gcd n d) := Nat.coprime_div_gcd_div_gcd hg
  have e3 : d * x = d / Nat.gcd n d * x * Nat.gcd n d := by
    conv => lhs; rw [← e2]
    rw [Nat.mul_assoc, Nat.mul_assoc, Nat.mul_comm (Nat.gcd n d) x]
  have s : n ∣ d * x ↔ n / Nat.gcd n d ∣ d / Nat.gcd n d * x := by
    rw [e3]
    conv => lhs; lhs; rw [← e1]
    exact Nat.mul_dvd_mul_iff_right hg
  rw [s]
  exact ⟨fun h => co.dvd_of_dvd_mul_left h, fun h => Nat.dvd_mul_left_of_dvd h _⟩
/-! ### the length -/
def backOf (g n : Nat) : Option Nat := if Nat.gcd g n > 1 then none else some (ordN g n)
def lenOf (b f : Nat) (fr : Bool) (d : Nat) : Option Nat :=
  if fr then (if f ≤ d then backOf b (cut (f * b - 1) d) else none)
  else if (d + 1) * f ≤ b then backOf f (cut (b - f) d) else none
/-- bases, factors, figures -/
structure Bfd (b f d : Nat) : Prop where
  b3 : 3 ≤ b
  b36 : b ≤ 36
  f2 : 2 ≤ f
  fb : f < b
  d1 : 1 ≤ d
  db : d < b
theorem Bfd.n5 {b f d : Nat} (h : Bfd b f d) : 2 * b - 1 ≤ f * b - 1 := by
  have := Nat.mul_le_mul_right b h.f2
  omega
theorem Bfd.nle {b f d : Nat} (h : Bfd b f d) : f * b - 1 ≤ 1296 := by
  have := Nat.mul_le_mul (show f ≤ 36 by have := h.b36; have := h.fb; omega) h.b36
  omega
/-- the base and the factor undo each other -/
theorem inv_mod {b f d : Nat} (h : Bfd b f d) : (f * b) % cut (f * b - 1) d = 1 % cut (f * b - 1) d := by
  have n5 := h.n5
  have b3 := h.b3
  rw [mod_one_iff (by omega)]
  exact cut_dvd _ _
theorem co_front {b f d : Nat} (h : Bfd b f d) : Nat.Coprime b (cut (f * b - 1) d) := by
  have n5 := h.n5
  have b3 := h.b3
  have d1 : Nat.gcd b (cut (f * b - 1) d) ∣ f * b - 1 := Nat.dvd_trans (Nat.gcd_dvd_right _ _) (cut_dvd _ _)
  have d2 : Nat.gcd b (cut (f * b - 1) d) ∣ f * b := Nat.dvd_mul_left_of_dvd (Nat.gcd_dvd_left _ _) _
  have d3 := Nat.dvd_sub d2 d1
  have e : f * b - (f * b - 1) = 1 := by omega
  rw [e] at d3
  exact Nat.dvd_one.mp d3
theorem len_front {b f d : Nat} (h : Bfd b f d) (hd : f ≤ d) : ∃ k, lenOf b f true d = some k ∧ IsOrd b (cut (f * b - 1) d) k := by
  have co := co_front h
  have n5 := h.n5
  have b3 := h.b3
  refine ⟨ordN b (cut (f * b - 1) d), ?_, ordN_is (by omega) (cut_pos (by omega)) co⟩
  show (if f ≤ d then backOf b (cut (f * b - 1) d) else none) = _
  rw [if_pos hd]
  unfold backOf
  rw [co.gcd_eq_one, if_neg (by decide)]
theorem len_front_none {b f d : Nat} (hd : ¬ f ≤ d) : lenOf b f true d = none := if_neg hd
theorem len_behind {b f d k : Nat} (h : Bfd b f d) (e : lenOf b f false d = some k) : (d + 1) * f ≤ b ∧ IsOrd f (cut (b - f) d) k := by
  have e' : (if (d + 1) * f ≤ b then backOf f (cut (b - f) d) else none) = some k := e
  by_cases c : (d + 1) * f ≤ b
  · rw [if_pos c] at e'
    unfold backOf at e'
    by_cases g : Nat.gcd f (cut (b - f) d) > 1
    · rw [if_pos g] at e'
      cases e'
    · rw [if_neg g] at e'
      have ek := Option.some.inj e'
      have fb := h.fb
      have f2 := h.f2
      have gp : 0 < Nat.gcd f (cut (b - f) d) := Nat.gcd_pos_of_pos_left _ (by omega)
      subst ek
      exact ⟨c, ordN_is (by omega) (cut_pos (by omega)) (show Nat.gcd f (cut (b - f) d) = 1 by omega)⟩
  · rw [if_neg c] at e'
    cases e'
/-- where there is none: the figure is too great, or no power leaves 1 -/
theorem len_behind_none {b f d : Nat} (h : Bfd b f d) (e : lenOf b f false d = none) (m : Nat) (hm : 1 ≤ m) : ¬ ((d + 1) * f ≤ b ∧ f ^ m % cut (b - f) d = 1 % cut (b - f) d) := by
  rintro ⟨c, hp⟩
  have e' : (if (d + 1) * f ≤ b then backOf f (cut (b - f) d) else none) = none := e
  rw [if_pos c] at e'
  unfold backOf at e'
  have fb := h.fb
  have f2 := h.f2
  by_cases g : Nat.gcd f (cut (b - f) d) > 1
  · have q : Nat.gcd f (cut (b - f) d) ∣ f ^ m := by
      obtain ⟨j, rfl⟩ : ∃ j, m = j + 1 := ⟨m - 1, by omega⟩
      rw [Nat.pow_succ]
      exact Nat.dvd_mul_left_of_dvd (Nat.gcd_dvd_left _ _) _
    have r : cut (b - f) d ∣ f ^ m - 1 := (mod_one_iff (pow_pos1 (by omega) _)).mp hp
    have t := Nat.dvd_sub q (Nat.dvd_trans (Nat.gcd_dvd_right f (cut (b - f) d)) r)
    have pp := pow_pos1 (show 1 ≤ f by omega) m
    rw [show f ^ m - (f ^ m - 1) = 1 by omega] at t
    have := Nat.dvd_one.mp t
    omega
  · rw [if_neg g] at e'
    cases e'
/-! ### multiplied from the last figure on -/
/-- what stands behind k turns: the figure and, times the base, what is over -/
def fw (b f d k : Nat) : Nat := d * f ^ k % (f * b - 1)
theorem fw_zero {b f d : Nat} (h : Bfd b f d) : fw b f d 0 = d := by
  unfold fw
  rw [Nat.pow_zero, Nat.mul_one]
  have := h.n5
  have := h.db
  exact Nat.mod_eq_of_lt (by omega)
theorem co_f {b f : Nat} (hb : 3 ≤ b) (hf : 2 ≤ f) : Nat.Coprime f (f * b - 1) := by
  have n5 := Nat.mul_le_mul_right b hf
  have d2 : Nat.gcd f (f * b - 1) ∣ f * b := Nat.dvd_mul_right_of_dvd (Nat.gcd_dvd_left _ _) _
  have d3 := Nat.dvd_sub d2 (Nat.gcd_dvd_right f (f * b - 1))
  rw [show f * b - (f * b - 1) = 1 by omega] at d3
  exact Nat.dvd_one.mp d3
theorem fw_pos {b f d : Nat} (h : Bfd b f d) (k : Nat) : 1 ≤ fw b f d k := by
  unfold fw
  by_cases z : d * f ^ k % (f * b - 1) = 0
  · have dv := Nat.dvd_of_mod_eq_zero z
    have c := (Nat.Coprime.pow_left k (co_f h.b3 h.f2)).symm
    rw [Nat.mul_comm d] at dv
    have := Nat.le_of_dvd h.d1 (c.dvd_of_dvd_mul_left dv)
    have := h.n5
    have := h.db
    omega
  · omega
theorem fw_lt {b f d : Nat} (h : Bfd b f d) (k : Nat) : fw b f d k < f * b - 1 := by
  have := h.n5
  have := h.b3
  exact Nat.mod_lt _ (by omega)
theorem fw_step {b f d : Nat} (h : Bfd b f d) (k : Nat) : f * (fw b f d k % b) + fw b f d k / b = fw b f d (k + 1) := by
  have n5 := h.n5
  have b3 := h.b3
  have f2 := h.f2
  have w1 := fw_pos h k
  have w2 := fw_lt h k
  have e0 : fw b f d (k + 1) = f * fw b f d k % (f * b - 1) := by
    unfold fw
    have := mod_mul (n := f * b - 1) (a := d * f ^ k) (a' := d * f ^ k % (f * b - 1)) (Nat.mod_mod _ _).symm (rfl : f % (f * b - 1) = f % (f * b - 1))
    rw [Nat.pow_succ, ← Nat.mul_assoc, this, Nat.mul_comm f (d * f ^ k % (f * b - 1))]
  rw [e0]
  generalize fw b f d k = x at *
  have dm := Nat.div_add_mod x b
  have ml := Nat.mod_lt x (show 0 < b by omega)
  generalize hx1 : x % b = u at *
  generalize hx2 : x / b = v at *
  -- f * x = f * b * v + f * u = (f b - 1) v + v + f u
  have ex : f * x = (f * b - 1) * v + (f * u + v) := by
    have a1 : f * x = f * b * v + f * u := by
      rw [← dm, Nat.mul_add, Nat.mul_assoc]
    have a2 : (f * b - 1) * v = f * b * v - v := by rw [Nat.sub_mul, Nat.one_mul]
    have a3 : v ≤ f * b * v := Nat.le_mul_of_pos_left v (by omega)
    omega
  have vf : v < f := by
    rcases Nat.lt_or_ge v f with z | z
    · exact z
    · have : b * f ≤ b * v := Nat.mul_le_mul_left b z
      rw [Nat.mul_comm b f] at this
      omega
  have fu : f * u + v < f * b - 1 := by
    have a1 : f * u ≤ f * (b - 1) := Nat.mul_le_mul_left f (by omega)
    have a2 : f * (b - 1) = f * b - f := by rw [Nat.mul_sub, Nat.mul_one]
    have a0 : f ≤ f * b := Nat.le_mul_of_pos_right f (by omega)
    by_cases c1 : u = b - 1
    · by_cases c2 : v = f - 1
      · have a3 : b * v = b * f - b := by
          rw [c2, Nat.mul_sub, Nat.mul_one]
        rw [Nat.mul_comm b f] at a3
        omega
      · omega
    · have a4 : f * u ≤ f * (b - 2) := Nat.mul_le_mul_left f (by omega)
      have a5 : f * (b - 2) = f * b - 2 * f := by rw [Nat.mul_sub, Nat.mul_comm f 2]
      have a6 : 2 * f ≤ f * b := by
        rw [Nat.mul_comm f b]
        exact Nat.mul_le_mul_right f (by omega)
      omega
  rw [ex, Nat.mul_add_mod, Nat.mod_eq_of_lt fu]
theorem fw_back {b f d : Nat} (h : Bfd b f d) (k : Nat) : fw b f d k = d ↔ b ^ k % cut (f * b - 1) d = 1 % cut (f * b - 1) d := by
  have n5 := h.n5
  have b3 := h.b3
  have f2 := h.f2
  have db := h.db
  have e1 : fw b f d k = d ↔ f ^ k % cut (f * b - 1) d = 1 % cut (f * b - 1) d := by
    rw [mod_one_iff (pow_pos1 (by omega) _), ← cut_iff (by omega)]
    have pp := pow_pos1 (show 1 ≤ f by omega) k
    have ml : d ≤ d * f ^ k := Nat.le_mul_of_pos_right d pp
    have e2 : d * (f ^ k - 1) = d * f ^ k - d := by rw [Nat.mul_sub, Nat.mul_one]
    rw [e2]
    constructor
    · intro e
      have : d * f ^ k % (f * b - 1) = d % (f * b - 1) := by
        rw [Nat.mod_eq_of_lt (show d < f * b - 1 by omega)]
        exact e
      exact Nat.dvd_of_mod_eq_zero (Nat.sub_mod_eq_zero_of_mod_eq this)
    · rintro ⟨c, hc⟩
      have e3 : d * f ^ k = d + (f * b - 1) * c := by omega
      unfold fw
      rw [e3, Nat.add_mul_mod_self_left, Nat.mod_eq_of_lt (by omega)]
  rw [e1]
  have iv := one_pow_mod k (inv_mod h)
  rw [Nat.mul_pow] at iv
  constructor
  · intro e
    have := mod_mul e (rfl : b ^ k % cut (f * b - 1) d = b ^ k % cut (f * b - 1) d)
    rw [iv, Nat.one_mul] at this
    exact this.symm
  · intro e
    have := mod_mul (rfl : f ^ k % cut (f * b - 1) d = f ^ k % cut (f * b - 1) d) e
    rw [iv, Nat.mul_one] at this
    exact this.symm
/-- the figure ahead of the last turn: the first one of the number -/
theorem fw_last {b f d k : Nat} (h : Bfd b f d) (hk : fw b f d (k + 1) = d) : 0 < fw b f d k % b ↔ f ≤ d := by
  have n5 := h.n5
  have b3 := h.b3
  have f2 := h.f2
  have db := h.db
  have d1 := h.d1
  have st := fw_step h k
  rw [hk] at st
  have w2 := fw_lt h k
  generalize fw b f d k = x at *
  have dm := Nat.div_add_mod x b
  have ml := Nat.mod_lt x (show 0 < b by omega)
  generalize x % b = u at *
  generalize x / b = v at *
  constructor
  · intro hu
    have : f * 1 ≤ f * u := Nat.mul_le_mul_left f hu
    omega
  · intro hd
    rcases Nat.eq_zero_or_pos u with z | z
    · rw [z, Nat.mul_zero, Nat.zero_add] at st
      have : b * f ≤ b * v := Nat.mul_le_mul_left b (by omega)
      rw [Nat.mul_comm b f] at this
      omega
    · exact z
/-! ### behind: the rest has to be whole and short enough -/
def bTest (b f d m : Nat) : Bool := decide (d * (f * b ^ (m - 1) - 1) % (b - f) = 0) && (decide (d * (f * b ^ (m - 1) - 1) / (b - f) < b ^ (m - 1)) && decide (1 < m))
theorem whole_iff {b f d m : Nat} (h : Bfd b f d) (hm : 1 ≤ m) : (b - f) ∣ d * (f * b ^ (m - 1) - 1) ↔ f ^ m % cut (b - f) d = 1 % cut (b - f) d := by
  have b3 := h.b3
  have f2 := h.f2
  have fb := h.fb
  have pb := pow_pos1 (show 1 ≤ b by omega) (m - 1)
  have pf := pow_pos1 (show 1 ≤ f by omega) m
  have fp : 1 ≤ f * b ^ (m - 1) := Nat.mul_pos (by omega) pb
  rw [cut_iff (by omega), ← mod_one_iff fp]
  have e : b % cut (b - f) d = f % cut (b - f) d := by
    obtain ⟨c, hc⟩ := cut_dvd (b - f) d
    have : b = f + cut (b - f) d * c := by omega
    conv => lhs; lhs; rw [this]
    rw [Nat.add_mul_mod_self_left]
  have e2 : f * b ^ (m - 1) % cut (b - f) d = f ^ m % cut (b - f) d := by
    rw [mod_mul (rfl : f % _ = f % _) (mod_pow (m - 1) e)]
    congr 1
    obtain ⟨j, rfl⟩ : ∃ j, m = j + 1 := ⟨m - 1, by omega⟩
    rw [Nat.add_sub_cancel, Nat.pow_succ, Nat.mul_comm]
  rw [e2]
theorem short_iff {b f d m : Nat} (h : Bfd b f d) (hm : 2 ≤ m) : d * (f * b ^ (m - 1) - 1) / (b - f) < b ^ (m - 1) ↔ (d + 1) * f ≤ b := by
  have b3 := h.b3
  have f2 := h.f2
  have fb := h.fb
  have d1 := h.d1
  have db := h.db
  have pb : b ≤ b ^ (m - 1) := by
    obtain ⟨j, hj⟩ : ∃ j, m - 1 = j + 1 := ⟨m - 2, by omega⟩
    rw [hj, Nat.pow_succ]
    exact Nat.le_mul_of_pos_left b (pow_pos1 (by omega) j)
  generalize b ^ (m - 1) = g at *
  rw [Nat.div_lt_iff_lt_mul (by omega)]
  have e1 : d * (f * g - 1) = d * f * g - d := by rw [Nat.mul_sub, Nat.mul_one, Nat.mul_assoc]
  have e2 : g * (b - f) = (b - f) * g := Nat.mul_comm _ _
  have e3 : (d + 1) * f = d * f + f := by rw [Nat.add_mul, Nat.one_mul]
  rw [e1, e2, e3]
  constructor
  · intro hlt
    rcases Nat.lt_or_ge b (d * f + f) with z | z
    · have z1 : (b - f) + 1 ≤ d * f := by omega
      have z2 := Nat.mul_le_mul_right g z1
      rw [Nat.add_mul, Nat.one_mul] at z2
      omega
    · exact z
  · intro hle
    have z1 : d * f ≤ b - f := by omega
    have z2 := Nat.mul_le_mul_right g z1
    have z3 : 0 < d * f * g := Nat.mul_pos (Nat.mul_pos d1 (by omega)) (by omega)
    omega
theorem ord_two {b f d k : Nat} (h : Bfd b f d) (c : (d + 1) * f ≤ b) (o : IsOrd f (cut (b - f) d) k) : 2 ≤ k := by
  rcases Nat.lt_or_ge k 2 with z | z
  · have e : k = 1 := by
      have := o.pos
      omega
    subst e
    have b3 := h.b3
    have f2 := h.f2
    have fb := h.fb
    have d1 := h.d1
    have one := o.one
    rw [mod_one_iff (pow_pos1 (by omega) _), Nat.pow_one, ← cut_iff (by omega)] at one
    have z1 : 0 < d * (f - 1) := Nat.mul_pos d1 (by omega)
    have z2 := Nat.le_of_dvd z1 one
    have z3 : d * (f - 1) = d * f - d := by rw [Nat.mul_sub, Nat.mul_one]
    have z4 : (d + 1) * f = d * f + f := by rw [Nat.add_mul, Nat.one_mul]
    omega
  · exact z
theorem bTest_iff {b f d m : Nat} (h : Bfd b f d) (hm : 1 ≤ m) : bTest b f d m = true ↔ 2 ≤ m ∧ (d + 1) * f ≤ b ∧ f ^ m % cut (b - f) d = 1 % cut (b - f) d := by
  unfold bTest
  rw [Bool.and_eq_true, Bool.and_eq_true, decide_eq_true_eq, decide_eq_true_eq, decide_eq_true_eq]
  constructor
  · rintro ⟨h1, h2, h3⟩
    have w := Nat.dvd_of_mod_eq_zero h1
    exact ⟨h3, (short_iff h h3).mp h2, (whole_iff h hm).mp w⟩
  · rintro ⟨h1, h2, h3⟩
    have w := (whole_iff h hm).mpr h3
    exact ⟨Nat.mod_eq_zero_of_dvd w, (short_iff h h1).mpr h2, h1⟩
theorem bTest_some {b f d k : Nat} (h : Bfd b f d) (e : lenOf b f false d = some k) : 2 ≤ k ∧ k < 2 * b ∧ bTest b f d k = true ∧ ∀ j, 1 ≤ j → j < k → bTest b f d j = false := by
  obtain ⟨c, o⟩ := len_behind h e
  have k2 := ord_two h c o
  have kl := o.le
  have cl := cut_le (b - f) d
  have b3 := h.b3
  refine ⟨k2, by omega, (bTest_iff h (by omega)).mpr ⟨k2, c, o.one⟩, fun j h1 h2 => ?_⟩
  cases q : bTest b f d j with
  | false => rfl
  | true => exact absurd ((bTest_iff h h1).mp q).2.2 (o.least j h1 h2)
theorem bTest_none {b f d : Nat} (h : Bfd b f d) (e : lenOf b f false d = none) (j : Nat) (hj : 1 ≤ j) : bTest b f d j = false := by
  cases q : bTest b f d j with
  | false => rfl
  | true => exact absurd ((bTest_iff h hj).mp q).2 (len_behind_none h e j hj)
end Tf

/-! # numbers that turn, plain -/
namespace Tf
/-- as many figures -/
theorem figs_len {b m x : Nat} (hb : 2 ≤ b) (hm : 1 ≤ m) (h1 : b ^ (m - 1) ≤ x) (h2 : x < b ^ m) : (figs b x).length = m := by
  have a := figs_len_le hb m x h2
  have c := figs_len_ge hb h1
  omega
theorem len_figs {b x : Nat} (hb : 2 ≤ b) (hx : 0 < x) : b ^ ((figs b x).length - 1) ≤ x ∧ x < b ^ (figs b x).length := by
  have h1 := wr_lt hb (figs b x) (figs_lt hb x)
  rw [wr_figs hb] at h1
  refine ⟨?_, h1⟩
  rcases Nat.lt_or_ge x (b ^ ((figs b x).length - 1)) with z | z
  · have := figs_len_le hb _ x z
    have := figs_len_pos hb hx
    omega
  · exact z
theorem mv_front {b x m : Nat} (hb : 2 ≤ b) (hx : 0 < x) (hl : (figs b x).length = m) : mv b x true = x % b * b ^ (m - 1) + x / b := by
  have e := figs_pos hb hx
  have l : (figs b (x / b)).length = m - 1 := by
    have := congrArg List.length e
    rw [hl, List.length_append] at this
    have z : ([x % b] : List Nat).length = 1 := rfl
    omega
  show wr b ((figs b x).drop ((figs b x).length - 1) ++ (figs b x).take ((figs b x).length - 1)) = _
  rw [hl, e, ← l, List.drop_left, List.take_left]
  show wr b (x % b :: figs b (x / b)) = _
  rw [wr_cons, wr_figs hb]
theorem mv_behind {b x m : Nat} (hb : 2 ≤ b) (hx : 0 < x) (hl : (figs b x).length = m) : mv b x false = x % b ^ (m - 1) * b + x / b ^ (m - 1) := by
  have hne := figs_ne hb hx
  obtain ⟨d, r, e⟩ : ∃ d r, figs b x = d :: r := by
    cases q : figs b x with
    | nil => exact absurd q hne
    | cons d r => exact ⟨d, r, rfl⟩
  have l : r.length = m - 1 := by
    rw [e, List.length_cons] at hl
    omega
  have w : x = d * b ^ (m - 1) + wr b r := by
    have := wr_figs hb x
    rw [e, wr_cons, l] at this
    exact this.symm
  have rl : wr b r < b ^ (m - 1) := by
    rw [← l]
    exact wr_lt hb r fun y hy => figs_lt hb x y (by rw [e]; exact List.mem_cons_of_mem _ hy)
  have q1 : x / b ^ (m - 1) = d := by
    rw [w, Nat.mul_comm, Nat.mul_add_div (by omega), Nat.div_eq_of_lt rl, Nat.add_zero]
  have q2 : x % b ^ (m - 1) = wr b r := by
    rw [w, Nat.mul_comm, Nat.mul_add_mod, Nat.mod_eq_of_lt rl]
  show wr b ((figs b x).drop 1 ++ (figs b x).take 1) = _
  rw [e, q1, q2]
  show wr b (r ++ [d]) = _
  rw [wr_snoc]
/-! ### to the front -/
theorem front_eq {b f x m : Nat} (hb : 2 ≤ b) (hf : 1 ≤ f) (hx : 0 < x) (hl : (figs b x).length = m) : mv b x true = f * x ↔ x * (f * b - 1) = x % b * (b ^ m - 1) := by
  have hm : 1 ≤ m := by
    have := figs_len_pos hb hx
    omega
  rw [mv_front hb hx hl]
  obtain ⟨j, rfl⟩ : ∃ j, m = j + 1 := ⟨m - 1, by omega⟩
  rw [Nat.add_sub_cancel]
  have dm := Nat.div_add_mod x b
  have pp := pow_pos1 (show 1 ≤ b by omega) (j + 1)
  have fb : 1 ≤ f * b := Nat.mul_pos hf (by omega)
  have e1 : x * (f * b - 1) = x * (f * b) - x := by rw [Nat.mul_sub, Nat.mul_one]
  have e2 : x % b * (b ^ (j + 1) - 1) = x % b * b ^ (j + 1) - x % b := by rw [Nat.mul_sub, Nat.mul_one]
  have e3 : x ≤ x * (f * b) := Nat.le_mul_of_pos_right x fb
  have e4 : x % b ≤ x % b * b ^ (j + 1) := Nat.le_mul_of_pos_right _ pp
  have e5 : x * (f * b) = f * x * b := by rw [← Nat.mul_assoc, Nat.mul_comm x f]
  have e6 : (x % b * b ^ j + x / b) * b = x % b * b ^ (j + 1) + b * (x / b) := by
    rw [Nat.add_mul, Nat.pow_succ, Nat.mul_assoc, Nat.mul_comm (x / b) b]
  rw [e1, e2, e5]
  rw [e5] at e3
  constructor
  · intro h
    have := congrArg (· * b) h
    simp only [e6] at this
    omega
  · intro h
    refine Nat.eq_of_mul_eq_mul_right (show 0 < b by omega) ?_
    rw [e6]
    omega
def turnF (b f d m : Nat) : Nat := d * (b ^ m - 1) / (f * b - 1)
theorem front_dvd {b f d k m : Nat} (h : Bfd b f d) (o : IsOrd b (cut (f * b - 1) d) k) : (f * b - 1) ∣ d * (b ^ m - 1) ↔ k ∣ m := by
  have n5 := h.n5
  have b3 := h.b3
  rw [cut_iff (by omega), ← mod_one_iff (pow_pos1 (by omega) _)]
  exact o.dvd m
structure TurnF (b f d m x : Nat) : Prop where
  eq : x * (f * b - 1) = d * (b ^ m - 1)
  lo : b ^ (m - 1) ≤ x
  hi : x < b ^ m
  last : x % b = d
  two : 2 ≤ m
theorem turnF_is {b f d m : Nat} (h : Bfd b f d) (hd : f ≤ d) (hm : 1 ≤ m) (dv : (f * b - 1) ∣ d * (b ^ m - 1)) : TurnF b f d m (turnF b f d m) := by
  have n5 := h.n5
  obtain ⟨b3, b36, f2, fb, d1, db⟩ := id h
  have eq : turnF b f d m * (f * b - 1) = d * (b ^ m - 1) := Nat.div_mul_cancel dv
  generalize turnF b f d m = x at *
  obtain ⟨j, rfl⟩ : ∃ j, m = j + 1 := ⟨m - 1, by omega⟩
  have pj := pow_pos1 (show 1 ≤ b by omega) j
  have ps : b ^ (j + 1) = b ^ j * b := Nat.pow_succ ..
  have pp : 1 ≤ b ^ (j + 1) := pow_pos1 (by omega) _
  -- the last figure
  have eqI : x * (f * b) + d = d * b ^ (j + 1) + x := by
    have a1 : x * (f * b - 1) = x * (f * b) - x := by rw [Nat.mul_sub, Nat.mul_one]
    have a2 : d * (b ^ (j + 1) - 1) = d * b ^ (j + 1) - d := by rw [Nat.mul_sub, Nat.mul_one]
    have a3 : x ≤ x * (f * b) := Nat.le_mul_of_pos_right x (by omega)
    have a4 : d ≤ d * b ^ (j + 1) := Nat.le_mul_of_pos_right _ pp
    omega
  have last : x % b = d := by
    have l1 : (x * (f * b) + d) % b = d := by
      rw [← Nat.mul_assoc, Nat.mul_comm (x * f) b, Nat.mul_add_mod, Nat.mod_eq_of_lt db]
    have l2 : (d * b ^ (j + 1) + x) % b = x % b := by
      rw [ps, ← Nat.mul_assoc, Nat.mul_comm (d * b ^ j) b, Nat.mul_add_mod]
    rw [← l2, ← eqI, l1]
  -- not one figure
  have j1 : 1 ≤ j := by
    rcases Nat.eq_zero_or_pos j with z | z
    · subst z
      rw [Nat.zero_add, Nat.pow_one] at eqI
      exfalso
      -- x = d (x < b), then f = 1
      have xl : x < b := by
        rcases Nat.lt_or_ge x b with q | q
        · exact q
        · have c1 : x * (2 * b) ≤ x * (f * b) := Nat.mul_le_mul_left x (Nat.mul_le_mul_right b f2)
          have c2 : d * b ≤ x * b := Nat.mul_le_mul_right b (by omega)
          have c3 : x * (2 * b) = x * b + x * b := by rw [Nat.mul_left_comm, Nat.two_mul]
          have c4 : x ≤ x * b := Nat.le_mul_of_pos_right x (by omega)
          omega
      rw [Nat.mod_eq_of_lt xl] at last
      subst last
      have c1 : x * (2 * b) ≤ x * (f * b) := Nat.mul_le_mul_left x (Nat.mul_le_mul_right b f2)
      have c3 : x * (2 * b) = x * b + x * b := by rw [Nat.mul_left_comm, Nat.two_mul]
      have c4 : x * 1 ≤ x * b := Nat.mul_le_mul_left x (by omega)
      have c5 : 0 < x * b := Nat.mul_pos d1 (by omega)
      omega
    · exact z
  have bj : b ≤ b ^ j := by
    obtain ⟨i, rfl⟩ : ∃ i, j = i + 1 := ⟨j - 1, by omega⟩
    rw [Nat.pow_succ]
    exact Nat.le_mul_of_pos_left b (pow_pos1 (by omega) i)
  refine ⟨eq, ?_, ?_, last, by omega⟩
  · -- b ^ j <= x
    rw [Nat.add_sub_cancel]
    rcases Nat.lt_or_ge x (b ^ j) with q | q
    · exfalso
      have c1 : (x + 1) * (f * b) ≤ b ^ j * (f * b) := Nat.mul_le_mul_right _ q
      have c2 : b ^ j * (f * b) = f * b ^ (j + 1) := by
        rw [ps, Nat.mul_left_comm]
      have c3 : f * b ^ (j + 1) ≤ d * b ^ (j + 1) := Nat.mul_le_mul_right _ hd
      have c4 : (x + 1) * (f * b) = x * (f * b) + f * b := by rw [Nat.add_mul, Nat.one_mul]
      omega
    · exact q
  · rcases Nat.lt_or_ge x (b ^ (j + 1)) with q | q
    · exact q
    · exfalso
      have c1 : b ^ (j + 1) * (f * b) ≤ x * (f * b) := Nat.mul_le_mul_right _ q
      have c2 : x * (2 * b) ≤ x * (f * b) := Nat.mul_le_mul_left x (Nat.mul_le_mul_right b f2)
      have c3 : x * (2 * b) = x * b + x * b := by rw [Nat.mul_left_comm, Nat.two_mul]
      have c4 : d * b ^ (j + 1) ≤ b * b ^ (j + 1) := Nat.mul_le_mul_right _ (by omega)
      have c5 : b ^ (j + 1) * b ≤ x * b := Nat.mul_le_mul_right b q
      rw [Nat.mul_comm (b ^ (j + 1)) b] at c5
      have c6 : x * 3 ≤ x * b := Nat.mul_le_mul_left x b3
      omega
theorem TurnF.turns {b f d m x : Nat} (h : Bfd b f d) (t : TurnF b f d m x) : (figs b x).length = m ∧ mv b x true = f * x ∧ 0 < x := by
  obtain ⟨b3, b36, f2, fb, d1, db⟩ := id h
  have two := t.two
  have hl := figs_len (show 2 ≤ b by omega) (by omega) t.lo t.hi
  have hx : 0 < x := Nat.lt_of_lt_of_le (pow_pos1 (show 1 ≤ b by omega) (m - 1)) t.lo
  refine ⟨hl, (front_eq (by omega) (by omega) hx hl).mpr ?_, hx⟩
  rw [t.last]
  exact t.eq
/-! ### behind -/
theorem behind_eq {b f x m : Nat} (hb : 2 ≤ b) (hfb : f < b) (hx : 0 < x) (hl : (figs b x).length = m) : mv b x false = f * x ↔ x % b ^ (m - 1) * (b - f) + x / b ^ (m - 1) = x / b ^ (m - 1) * (f * b ^ (m - 1)) := by
  rw [mv_behind hb hx hl]
  have dm := Nat.div_add_mod x (b ^ (m - 1))
  generalize hg : b ^ (m - 1) = g at *
  generalize hq : x / g = d at *
  generalize hr : x % g = r at *
  have e1 : f * x = d * (f * g) + f * r := by
    rw [← dm, Nat.mul_add, Nat.mul_comm g d, Nat.mul_left_comm]
  have e2 : r * (b - f) = r * b - f * r := by rw [Nat.mul_sub, Nat.mul_comm r f]
  have e3 : f * r ≤ r * b := by
    rw [Nat.mul_comm]
    exact Nat.mul_le_mul_left r (by omega)
  rw [e1, e2]
  omega
def turnB (b f d m : Nat) : Nat := d * b ^ (m - 1) + d * (f * b ^ (m - 1) - 1) / (b - f)
structure TurnB (b f d m x : Nat) : Prop where
  lo : b ^ (m - 1) ≤ x
  hi : x < b ^ m
  first : x / b ^ (m - 1) = d
  rest : x % b ^ (m - 1) * (b - f) = d * (f * b ^ (m - 1) - 1)
theorem turnB_is {b f d m : Nat} (h : Bfd b f d) (c : (d + 1) * f ≤ b) (hm : 2 ≤ m) (dv : (b - f) ∣ d * (f * b ^ (m - 1) - 1)) : TurnB b f d m (turnB b f d m) := by
  obtain ⟨b3, b36, f2, fb, d1, db⟩ := id h
  have sh := (short_iff h hm).mpr c
  have eq : d * (f * b ^ (m - 1) - 1) / (b - f) * (b - f) = d * (f * b ^ (m - 1) - 1) := Nat.div_mul_cancel dv
  unfold turnB
  obtain ⟨j, rfl⟩ : ∃ j, m = j + 1 := ⟨m - 1, by omega⟩
  rw [Nat.add_sub_cancel] at *
  have pj := pow_pos1 (show 1 ≤ b by omega) j
  have ps : b ^ (j + 1) = b ^ j * b := Nat.pow_succ ..
  generalize d * (f * b ^ j - 1) / (b - f) = r at *
  have q1 : (d * b ^ j + r) / b ^ j = d := by
    rw [Nat.mul_comm, Nat.mul_add_div (by omega), Nat.div_eq_of_lt sh, Nat.add_zero]
  have q2 : (d * b ^ j + r) % b ^ j = r := by
    rw [Nat.mul_comm, Nat.mul_add_mod, Nat.mod_eq_of_lt sh]
  refine ⟨?_, ?_, ?_, ?_⟩
  · rw [Nat.add_sub_cancel]
    have : 1 * b ^ j ≤ d * b ^ j := Nat.mul_le_mul_right _ d1
    omega
  · have c1 : (d + 1) * b ^ j ≤ b * b ^ j := Nat.mul_le_mul_right _ db
    rw [Nat.add_mul, Nat.one_mul] at c1
    rw [ps, Nat.mul_comm (b ^ j) b]
    omega
  · rw [Nat.add_sub_cancel]
    exact q1
  · rw [Nat.add_sub_cancel, q2]
    exact eq
theorem TurnB.turns {b f d m x : Nat} (h : Bfd b f d) (hm : 1 ≤ m) (t : TurnB b f d m x) : (figs b x).length = m ∧ mv b x false = f * x ∧ 0 < x := by
  obtain ⟨b3, b36, f2, fb, d1, db⟩ := id h
  have hl := figs_len (show 2 ≤ b by omega) (by omega) t.lo t.hi
  have hx : 0 < x := Nat.lt_of_lt_of_le (pow_pos1 (show 1 ≤ b by omega) (m - 1)) t.lo
  refine ⟨hl, (behind_eq (by omega) fb hx hl).mpr ?_, hx⟩
  rw [t.first, t.rest]
  have pp := pow_pos1 (show 1 ≤ b by omega) (m - 1)
  have fp : 1 ≤ f * b ^ (m - 1) := Nat.mul_pos (by omega) pp
  have e : d * (f * b ^ (m - 1) - 1) = d * (f * b ^ (m - 1)) - d := by rw [Nat.mul_sub, Nat.mul_one]
  have : d ≤ d * (f * b ^ (m - 1)) := Nat.le_mul_of_pos_right d fp
  omega
/-! ### both sides -/
def turn1 (b f : Nat) (fr : Bool) (d m : Nat) : Nat := if fr then turnF b f d m else turnB b f d m
/-- what the number of m figures with the moved figure d is known by -/
structure Turned (b f : Nat) (fr : Bool) (d m x : Nat) : Prop where
  lo : b ^ (m - 1) ≤ x
  hi : x < b ^ m
  len : (figs b x).length = m
  mvd : mv b x fr = f * x
  pos : 0 < x
  two : 2 ≤ m
  fig : if fr then x % b = d else x / b ^ (m - 1) = d
theorem turned_is {b f d k m : Nat} {fr : Bool} (h : Bfd b f d) (hm : 1 ≤ m) (e : lenOf b f fr d = some k) (dv : k ∣ m) : Turned b f fr d m (turn1 b f fr d m) := by
  cases fr with
  | true =>
    have hd : f ≤ d := by
      rcases Nat.lt_or_ge d f with z | z
      · rw [len_front_none (by omega)] at e
        cases e
      · exact z
    obtain ⟨k', hk, o⟩ := len_front h hd
    rw [hk] at e
    have ek := Option.some.inj e
    subst ek
    have t := turnF_is h hd hm ((front_dvd h o).mpr dv)
    obtain ⟨a1, a2, a3⟩ := t.turns h
    exact ⟨t.lo, t.hi, a1, a2, a3, t.two, t.last⟩
  | false =>
    obtain ⟨c, o⟩ := len_behind h e
    have k2 := ord_two h c o
    have m2 : 2 ≤ m := Nat.le_trans k2 (Nat.le_of_dvd hm dv)
    have t := turnB_is h c m2 ((whole_iff h hm).mpr ((o.dvd m).mpr dv))
    obtain ⟨a1, a2, a3⟩ := t.turns h hm
    exact ⟨t.lo, t.hi, a1, a2, a3, m2, t.first⟩
theorem len_two {b f d k : Nat} {fr : Bool} (h : Bfd b f d) (e : lenOf b f fr d = some k) : 2 ≤ k ∧ k ≤ 1296 := by
  have hk : 1 ≤ k ∧ k ≤ 1296 := by
    cases fr with
    | true =>
      have hd : f ≤ d := by
        rcases Nat.lt_or_ge d f with z | z
        · rw [len_front_none (by omega)] at e
          cases e
        · exact z
      obtain ⟨k', hk, o⟩ := len_front h hd
      rw [hk] at e
      have ek := Option.some.inj e
      subst ek
      exact ⟨o.pos, Nat.le_trans o.le (Nat.le_trans (cut_le _ _) h.nle)⟩
    | false =>
      obtain ⟨c, o⟩ := len_behind h e
      have := h.b36
      exact ⟨o.pos, Nat.le_trans o.le (Nat.le_trans (cut_le _ _) (by omega))⟩
  exact ⟨(turned_is h hk.1 e (Nat.dvd_refl k)).two, hk.2⟩
/-- the other way: a number that turns is one of these -/
theorem turned_of {b f x : Nat} {fr : Bool} (b3 : 3 ≤ b) (b36 : b ≤ 36) (f2 : 2 ≤ f) (fb : f < b) (hx : 0 < x) (e : mv b x fr = f * x) :
    ∃ d k, Bfd b f d ∧ lenOf b f fr d = some k ∧ k ∣ (figs b x).length ∧ x = turn1 b f fr d (figs b x).length := by
  have hl := len_figs (show 2 ≤ b by omega) hx
  have hp := figs_len_pos (show 2 ≤ b by omega) hx
  obtain ⟨m, hm⟩ : ∃ m, (figs b x).length = m := ⟨_, rfl⟩
  rw [hm] at hl hp ⊢
  cases fr with
  | true =>
    have q := (front_eq (by omega) (by omega) hx hm).mp e
    have n5 : 2 * b ≤ f * b := Nat.mul_le_mul_right b f2
    have db := Nat.mod_lt x (show 0 < b by omega)
    have d1 : 1 ≤ x % b := by
      rcases Nat.eq_zero_or_pos (x % b) with z | z
      · rw [z, Nat.zero_mul] at q
        have : 0 < x * (f * b - 1) := Nat.mul_pos hx (by omega)
        omega
      · exact z
    have B : Bfd b f (x % b) := ⟨b3, b36, f2, fb, d1, db⟩
    have hd : f ≤ x % b := by
      rcases Nat.lt_or_ge (x % b) f with z | z
      · exfalso
        obtain ⟨j, rfl⟩ : ∃ j, m = j + 1 := ⟨m - 1, by omega⟩
        rw [Nat.add_sub_cancel] at hl
        have c1 : b ^ j * (f * b - 1) ≤ x * (f * b - 1) := Nat.mul_le_mul_right _ hl.1
        have c2 : x % b * (b ^ (j + 1) - 1) ≤ (f - 1) * (b ^ (j + 1) - 1) := Nat.mul_le_mul_right _ (by omega)
        have ps : b ^ (j + 1) = b ^ j * b := Nat.pow_succ ..
        have pj := pow_pos1 (show 1 ≤ b by omega) j
        have e1 : b ^ j * (f * b - 1) = f * (b ^ j * b) - b ^ j := by
          rw [Nat.mul_sub, Nat.mul_one, Nat.mul_left_comm]
        have e2 : (f - 1) * (b ^ j * b - 1) = f * (b ^ j * b) - b ^ j * b - (f - 1) := by
          rw [Nat.mul_sub, Nat.mul_one, Nat.sub_mul, Nat.one_mul]
        have e3 : b ^ j * b ≤ f * (b ^ j * b) := Nat.le_mul_of_pos_left _ (by omega)
        have e4 : b ^ j * 3 ≤ b ^ j * b := Nat.mul_le_mul_left _ b3
        rw [ps] at c2 q
        rw [e2] at c2
        rw [e1] at c1
        omega
      · exact z
    obtain ⟨k, hk, o⟩ := len_front B hd
    have dv : (f * b - 1) ∣ x % b * (b ^ m - 1) := ⟨x, by rw [← q, Nat.mul_comm]⟩
    refine ⟨x % b, k, B, hk, (front_dvd B o).mp dv, ?_⟩
    show x = x % b * (b ^ m - 1) / (f * b - 1)
    rw [← q, Nat.mul_div_cancel _ (by omega)]
  | false =>
    have q := (behind_eq (by omega) fb hx hm).mp e
    have dm := Nat.div_add_mod x (b ^ (m - 1))
    have pp := pow_pos1 (show 1 ≤ b by omega) (m - 1)
    have fp : 1 ≤ f * b ^ (m - 1) := Nat.mul_pos (by omega) pp
    have ps : b ^ m = b ^ (m - 1) * b := by
      obtain ⟨j, rfl⟩ : ∃ j, m = j + 1 := ⟨m - 1, by omega⟩
      rw [Nat.add_sub_cancel, Nat.pow_succ]
    have d1 : 1 ≤ x / b ^ (m - 1) := (Nat.le_div_iff_mul_le (by omega)).mpr (by omega)
    have db : x / b ^ (m - 1) < b := by
      rw [Nat.div_lt_iff_lt_mul (by omega), Nat.mul_comm, ← ps]
      exact hl.2
    have rl := Nat.mod_lt x (show 0 < b ^ (m - 1) by omega)
    have B : Bfd b f (x / b ^ (m - 1)) := ⟨b3, b36, f2, fb, d1, db⟩
    have q2 : x % b ^ (m - 1) * (b - f) = x / b ^ (m - 1) * (f * b ^ (m - 1) - 1) := by
      have e9 : x / b ^ (m - 1) * (f * b ^ (m - 1) - 1) = x / b ^ (m - 1) * (f * b ^ (m - 1)) - x / b ^ (m - 1) := by rw [Nat.mul_sub, Nat.mul_one]
      omega
    have m2 : 2 ≤ m := by
      rcases Nat.lt_or_ge m 2 with z | z
      · have z1 : m - 1 = 0 := by omega
        rw [z1, Nat.pow_zero] at q2 rl
        have z2 : x % 1 = 0 := Nat.mod_one x
        rw [z2, Nat.zero_mul, Nat.mul_one] at q2
        have : 0 < x / 1 * (f - 1) := Nat.mul_pos (by rw [Nat.div_one]; exact hx) (by omega)
        omega
      · exact z
    have dv : (b - f) ∣ x / b ^ (m - 1) * (f * b ^ (m - 1) - 1) := ⟨x % b ^ (m - 1), by rw [← q2, Nat.mul_comm]⟩
    have dq : x / b ^ (m - 1) * (f * b ^ (m - 1) - 1) / (b - f) = x % b ^ (m - 1) := by
      rw [← q2, Nat.mul_div_cancel _ (by omega)]
    have c : (x / b ^ (m - 1) + 1) * f ≤ b := (short_iff B m2).mp (by rw [dq]; exact rl)
    have wm := (whole_iff B hp).mp dv
    cases ek : lenOf b f false (x / b ^ (m - 1)) with
    | none => exact absurd ⟨c, wm⟩ (len_behind_none B ek m hp)
    | some k =>
      obtain ⟨_, o⟩ := len_behind B ek
      refine ⟨x / b ^ (m - 1), k, B, ek, (o.dvd m).mp wm, ?_⟩
      show x = x / b ^ (m - 1) * b ^ (m - 1) + x / b ^ (m - 1) * (f * b ^ (m - 1) - 1) / (b - f)
      rw [dq, Nat.mul_comm]
      exact dm.symm
/-- rising with the moved figure -/
theorem turned_mono {b f d d' m x x' : Nat} {fr : Bool} (h : Bfd b f d) (h' : Bfd b f d') (t : Turned b f fr d m x) (t' : Turned b f fr d' m x') (hd : d < d') : x < x' := by
  obtain ⟨b3, b36, f2, fb, d1, db⟩ := id h
  cases fr with
  | true =>
    have q := (front_eq (by omega) (by omega) t.pos t.len).mp t.mvd
    have q' := (front_eq (by omega) (by omega) t'.pos t'.len).mp t'.mvd
    have f1 : x % b = d := t.fig
    have f2' : x' % b = d' := t'.fig
    rw [f1] at q
    rw [f2'] at q'
    have two := t.two
    have bm : 2 ≤ b ^ m := by
      have : b ^ 1 ≤ b ^ m := Nat.pow_le_pow_right (by omega) (by omega)
      rw [Nat.pow_one] at this
      omega
    have : d * (b ^ m - 1) < d' * (b ^ m - 1) := Nat.mul_lt_mul_of_pos_right hd (by omega)
    rw [← q, ← q'] at this
    exact Nat.lt_of_mul_lt_mul_right this
  | false =>
    have f1 : x / b ^ (m - 1) = d := t.fig
    have f2' : x' / b ^ (m - 1) = d' := t'.fig
    rcases Nat.lt_or_ge x x' with z | z
    · exact z
    · have := Nat.div_le_div_right (c := b ^ (m - 1)) z
      omega
/-! ### all of so many figures -/
def okL : Option Nat → Nat → Bool
  | none, _ => false
  | some l, m => m % l == 0
def allOf (b f : Nat) (fr : Bool) (m : Nat) : List Nat := ((List.range (b - 1)).filter fun i => okL (lenOf b f fr (1 + i)) m).map fun i => turn1 b f fr (1 + i) m
theorem okL_iff {o : Option Nat} {m : Nat} : okL o m = true ↔ ∃ l, o = some l ∧ l ∣ m := by
  cases o with
  | none => exact ⟨fun h => (nomatch h), fun ⟨l, h, _⟩ => nomatch h⟩
  | some l =>
    show (m % l == 0) = true ↔ _
    rw [beq_iff_eq]
    exact ⟨fun h => ⟨l, rfl, Nat.dvd_of_mod_eq_zero h⟩, fun ⟨l', h, dv⟩ => by
      cases h
      exact Nat.mod_eq_zero_of_dvd dv⟩
theorem mem_allOf {b f m x : Nat} {fr : Bool} (b3 : 3 ≤ b) (b36 : b ≤ 36) (f2 : 2 ≤ f) (fb : f < b) (hm : 1 ≤ m) : x ∈ allOf b f fr m ↔ 0 < x ∧ (figs b x).length = m ∧ mv b x fr = f * x := by
  unfold allOf
  rw [List.mem_map]
  constructor
  · rintro ⟨i, hi, rfl⟩
    rw [List.mem_filter, List.mem_range] at hi
    obtain ⟨l, hl, dv⟩ := okL_iff.mp hi.2
    have t := turned_is (d := 1 + i) ⟨b3, b36, f2, fb, by omega, by omega⟩ hm hl dv
    exact ⟨t.pos, t.len, t.mvd⟩
  · rintro ⟨h1, h2, h3⟩
    obtain ⟨d, k, B, hk, dv, e⟩ := turned_of b3 b36 f2 fb h1 h3
    have d1 := B.d1
    have db := B.db
    refine ⟨d - 1, ?_, ?_⟩
    · rw [List.mem_filter, List.mem_range]
      refine ⟨by omega, ?_⟩
      rw [show 1 + (d - 1) = d by omega]
      exact okL_iff.mpr ⟨k, hk, by rw [← h2]; exact dv⟩
    · rw [show 1 + (d - 1) = d by omega, ← h2]
      exact e.symm
/-- strictly rising rows with the same members are the same -/
theorem sorted_eq : ∀ {xs ys : List Nat}, xs.Pairwise (· < ·) → ys.Pairwise (· < ·) → (∀ x, x ∈ xs ↔ x ∈ ys) → xs = ys
  | [], [], _, _, _ => rfl
  | [], y :: ys, _, _, h => absurd ((h y).mpr List.mem_cons_self) (by simp)
  | x :: xs, [], _, _, h => absurd ((h x).mp List.mem_cons_self) (by simp)
  | x :: xs, y :: ys, p, q, h => by
    rw [List.pairwise_cons] at p q
    have exy : x = y := by
      have h1 := (h x).mp List.mem_cons_self
      have h2 := (h y).mpr List.mem_cons_self
      rcases List.mem_cons.mp h1 with e | e
      · exact e
      · rcases List.mem_cons.mp h2 with e' | e'
        · exact e'.symm
        · have a1 := q.1 x e
          have a2 := p.1 y e'
          omega
    subst exy
    congr 1
    refine sorted_eq p.2 q.2 fun z => ?_
    constructor
    · intro hz
      rcases List.mem_cons.mp ((h z).mp (List.mem_cons_of_mem _ hz)) with e | e
      · have := p.1 z hz
        omega
      · exact e
    · intro hz
      rcases List.mem_cons.mp ((h z).mpr (List.mem_cons_of_mem _ hz)) with e | e
      · have := q.1 z hz
        omega
      · exact e
theorem pairwise_range (n : Nat) : (List.range n).Pairwise (· < ·) := List.pairwise_lt_range
theorem allOf_rising {b f m : Nat} {fr : Bool} (b3 : 3 ≤ b) (b36 : b ≤ 36) (f2 : 2 ≤ f) (fb : f < b) (hm : 1 ≤ m) : (allOf b f fr m).Pairwise (· < ·) := by
  unfold allOf
  rw [List.pairwise_map]
  refine List.Pairwise.imp_of_mem (R := (· < ·)) ?_ (List.Pairwise.filter _ (pairwise_range _))
  intro i j hi hj hij
  rw [List.mem_filter, List.mem_range] at hi hj
  obtain ⟨l, hl, dv⟩ := okL_iff.mp hi.2
  obtain ⟨l', hl', dv'⟩ := okL_iff.mp hj.2
  have Bi : Bfd b f (1 + i) := ⟨b3, b36, f2, fb, by omega, by omega⟩
  have Bj : Bfd b f (1 + j) := ⟨b3, b36, f2, fb, by omega, by omega⟩
  exact turned_mono Bi Bj (turned_is Bi hm hl dv) (turned_is Bj hm hl' dv') (by omega)
end Tf

/-! # shares, plain -/
namespace Tf
theorem figs_of_len {b : Nat} (hb : 2 ≤ b) {ds : List Nat} (h1 : ∀ d ∈ ds, d < b) (h2 : (figs b (wr b ds)).length = ds.length) : figs b (wr b ds) = ds := by
  refine figs_wr hb _ ds rfl h1 fun d hd => ?_
  rcases Nat.eq_zero_or_pos d with z | z
  · exfalso
    cases ds with
    | nil => cases hd
    | cons x r =>
      have e : x = 0 := (Option.some.inj hd).trans z
      have w : wr b (x :: r) = wr b r := by
        rw [wr_cons, e, Nat.zero_mul, Nat.zero_add]
      have l := wr_lt hb r fun y hy => h1 y (List.mem_cons_of_mem _ hy)
      have := figs_len_le hb _ _ l
      rw [w, List.length_cons] at h2
      omega
  · exact z
/-- the figures behind the point -/
def shRow (b t n k : Nat) : List Nat := (List.range k).map fun i => t * b ^ i % n * b / n
theorem shRow_succ (b t n k : Nat) : shRow b t n (k + 1) = shRow b t n k ++ [t * b ^ k % n * b / n] := by
  unfold shRow
  rw [List.range_succ, List.map_append]
  rfl
theorem sh_rest (b t n k : Nat) : t * b ^ (k + 1) % n = t * b ^ k % n * b % n := by
  rw [Nat.pow_succ, ← Nat.mul_assoc]
  exact mod_mul (Nat.mod_mod _ _).symm rfl
theorem shRow_wr {b t n : Nat} (hn : 1 ≤ n) (ht : t < n) : ∀ k, wr b (shRow b t n k) = t * b ^ k / n
  | 0 => by
    rw [Nat.pow_zero, Nat.mul_one, Nat.div_eq_of_lt ht]
    rfl
  | k + 1 => by
    rw [shRow_succ, wr_snoc, shRow_wr hn ht k]
    have dm := Nat.div_add_mod (t * b ^ k) n
    have e : t * b ^ (k + 1) = n * (t * b ^ k / n * b) + t * b ^ k % n * b := by
      rw [Nat.pow_succ, ← Nat.mul_assoc, ← Nat.mul_assoc, ← Nat.add_mul, dm]
    rw [e, Nat.mul_add_div (by omega)]
theorem shRow_lt {b t n : Nat} (hb : 1 ≤ b) (hn : 1 ≤ n) (k : Nat) : ∀ d ∈ shRow b t n k, d < b := by
  intro d hd
  obtain ⟨i, _, rfl⟩ := List.mem_map.mp hd
  rw [Nat.div_lt_iff_lt_mul (by omega), Nat.mul_comm b n]
  exact Nat.mul_lt_mul_of_pos_right (Nat.mod_lt (t * b ^ i) hn) hb
theorem shRow_len (b t n k : Nat) : (shRow b t n k).length = k := by
  unfold shRow
  rw [List.length_map, List.length_range]
theorem shRow_twice {b t n k : Nat} (h : t * b ^ k % n = t % n) : shRow b t n (k + k) = shRow b t n k ++ shRow b t n k := by
  unfold shRow
  rw [List.range_add, List.map_append, List.map_map]
  congr 1
  refine List.map_congr_left fun i _ => ?_
  show t * b ^ (k + i) % n * b / n = _
  have e : t * b ^ (k + i) % n = t * b ^ i % n := by
    rw [Nat.pow_add, ← Nat.mul_assoc]
    exact mod_mul h rfl
  rw [e]
/-- top and bottom of a share -/
def top (b f d : Nat) : Nat := d / Nat.gcd (f * b - 1) d
structure Shr (b f d k : Nat) : Prop where
  lt : top b f d < cut (f * b - 1) d
  tp : 1 ≤ top b f d
  eq : top b f d * (f * b - 1) = d * cut (f * b - 1) d
  co : Nat.gcd (cut (f * b - 1) d) (top b f d) = 1
  back : top b f d * b ^ k % cut (f * b - 1) d = top b f d
  num : top b f d * b ^ k / cut (f * b - 1) d = turnF b f d k
theorem shr_core {N b d t n g k : Nat} (e1 : n * g = N) (e2 : t * g = d) (hd : 1 ≤ d) (hdN : d < N) (hn : 1 ≤ n) (pp : 1 ≤ b ^ k) (one : n ∣ b ^ k - 1) :
    t < n ∧ 1 ≤ t ∧ t * N = d * n ∧ t * b ^ k % n = t ∧ t * b ^ k / n = d * (b ^ k - 1) / N := by
  have lt : t < n := by
    rcases Nat.lt_or_ge t n with z | z
    · exact z
    · have := Nat.mul_le_mul_right g z
      omega
  obtain ⟨c, hc⟩ := one
  have ee : t * b ^ k = t + n * (t * c) := by
    have : b ^ k = 1 + n * c := by omega
    rw [this, Nat.mul_add, Nat.mul_one, Nat.mul_left_comm]
  refine ⟨lt, ?_, ?_, ?_, ?_⟩
  · rcases Nat.eq_zero_or_pos t with z | z
    · rw [z, Nat.zero_mul] at e2
      omega
    · exact z
  · rw [← e1, ← e2, Nat.mul_comm n g, ← Nat.mul_assoc]
  · rw [ee, Nat.add_mul_mod_self_left, Nat.mod_eq_of_lt lt]
  · rw [ee, Nat.add_mul_div_left _ _ (by omega), Nat.div_eq_of_lt lt, Nat.zero_add]
    have : d * (b ^ k - 1) = N * (t * c) := by
      rw [hc, ← e1, ← e2]
      rw [Nat.mul_comm n g, Nat.mul_assoc g n, Nat.mul_left_comm n t c, ← Nat.mul_assoc g t, Nat.mul_comm g t]
    rw [this, Nat.mul_div_cancel_left _ (by omega)]
theorem shr_is {b f d k : Nat} (h : Bfd b f d) (o : IsOrd b (cut (f * b - 1) d) k) : Shr b f d k := by
  have n5 := h.n5
  obtain ⟨b3, b36, f2, fb, d1, db⟩ := id h
  have hg : 0 < Nat.gcd (f * b - 1) d := Nat.gcd_pos_of_pos_left _ (by omega)
  have e1 : cut (f * b - 1) d * Nat.gcd (f * b - 1) d = f * b - 1 := Nat.div_mul_cancel (Nat.gcd_dvd_left _ d)
  have e2 : top b f d * Nat.gcd (f * b - 1) d = d := Nat.div_mul_cancel (Nat.gcd_dvd_right _ d)
  have co : Nat.gcd (cut (f * b - 1) d) (top b f d) = 1 := Nat.coprime_div_gcd_div_gcd hg
  have cp := cut_pos (n := f * b - 1) (d := d) (by omega)
  have one := o.one
  rw [mod_one_iff (pow_pos1 (by omega) _)] at one
  obtain ⟨a1, a2, a3, a4, a5⟩ := shr_core e1 e2 d1 (by omega) cp (pow_pos1 (show 1 ≤ b by omega) k) one
  exact ⟨a1, a2, a3, co, a4, a5⟩
theorem share_row {b f d k : Nat} (h : Bfd b f d) (hd : f ≤ d) (o : IsOrd b (cut (f * b - 1) d) k) :
    shRow b (top b f d) (cut (f * b - 1) d) (2 * k) = figs b (turnF b f d k) ++ figs b (turnF b f d k) := by
  have n5 := h.n5
  have b3 := h.b3
  have s := shr_is h o
  have cp := cut_pos (n := f * b - 1) (d := d) (by omega)
  have t := turnF_is h hd o.pos ((front_dvd h o).mpr (Nat.dvd_refl k))
  have l := (t.turns h).1
  have w := shRow_wr (b := b) cp s.lt k
  rw [s.num] at w
  have e : figs b (wr b (shRow b (top b f d) (cut (f * b - 1) d) k)) = shRow b (top b f d) (cut (f * b - 1) d) k := figs_of_len (by omega) (shRow_lt (by omega) cp k) (by rw [w, shRow_len, l])
  rw [w] at e
  rw [Nat.two_mul, shRow_twice (by rw [s.back, Nat.mod_eq_of_lt s.lt]), e]
/-- just one number of all has the last figure -/
theorem one_of_all {b f d k : Nat} (h : Bfd b f d) (hd : f ≤ d) (o : IsOrd b (cut (f * b - 1) d) k) : (allOf b f true k).filter (fun x => x % b == d) = [turnF b f d k] := by
  obtain ⟨b3, b36, f2, fb, d1, db⟩ := id h
  have n5 := h.n5
  have t := turnF_is h hd o.pos ((front_dvd h o).mpr (Nat.dvd_refl k))
  obtain ⟨l, m, p⟩ := t.turns h
  refine sorted_eq (List.Pairwise.filter _ (allOf_rising b3 b36 f2 fb o.pos)) (List.pairwise_singleton _ _) fun x => ?_
  rw [List.mem_filter, mem_allOf b3 b36 f2 fb o.pos, List.mem_singleton, beq_iff_eq]
  constructor
  · rintro ⟨⟨h1, h2, h3⟩, h4⟩
    have q := (front_eq (by omega) (by omega) h1 h2).mp h3
    rw [h4, ← t.eq] at q
    exact Nat.eq_of_mul_eq_mul_right (by omega) q
  · rintro rfl
    exact ⟨⟨p, l, m⟩, t.last⟩
end Tf

/-! # all of so many figures, tried one by one -/
namespace Tf
/-- whether a number turns -/
def trn (b f : Nat) (fr : Bool) (n : Nat) : Bool := decide (0 < n) && decide (mv b n fr = f * n)
theorem due_all {b f m : Nat} {fr : Bool} (b3 : 3 ≤ b) (b36 : b ≤ 36) (f2 : 2 ≤ f) (fb : f < b) (hm : 1 ≤ m) :
    ((List.range (b ^ (m - 1) * b - b ^ (m - 1))).filter fun i => decide (0 < b ^ (m - 1) + i) && decide (mv b (b ^ (m - 1) + i) fr = f * (b ^ (m - 1) + i))).map (fun i => b ^ (m - 1) + i) = allOf b f fr m := by
  have ps : b ^ m = b ^ (m - 1) * b := by
    obtain ⟨j, rfl⟩ : ∃ j, m = j + 1 := ⟨m - 1, by omega⟩
    rw [Nat.add_sub_cancel, Nat.pow_succ]
  have pp := pow_pos1 (show 1 ≤ b by omega) (m - 1)
  have ple : b ^ (m - 1) ≤ b ^ (m - 1) * b := Nat.le_mul_of_pos_right _ (by omega)
  refine sorted_eq ?_ (allOf_rising b3 b36 f2 fb hm) fun x => ?_
  · rw [List.pairwise_map]
    exact List.Pairwise.imp (fun h => by omega) (List.Pairwise.filter _ (pairwise_range _))
  · rw [mem_allOf b3 b36 f2 fb hm, List.mem_map]
    constructor
    · rintro ⟨i, hi, rfl⟩
      rw [List.mem_filter, List.mem_range, Bool.and_eq_true, decide_eq_true_eq, decide_eq_true_eq] at hi
      exact ⟨hi.2.1, figs_len (by omega) hm (by omega) (by omega), hi.2.2⟩
    · rintro ⟨h1, h2, h3⟩
      have hl := len_figs (show 2 ≤ b by omega) h1
      rw [h2] at hl
      have e : b ^ (m - 1) + (x - b ^ (m - 1)) = x := by omega
      refine ⟨x - b ^ (m - 1), ?_, e⟩
      rw [List.mem_filter, List.mem_range, e, Bool.and_eq_true, decide_eq_true_eq, decide_eq_true_eq]
      exact ⟨by omega, h1, h3⟩
theorem allOf_len (b f : Nat) (fr : Bool) (m : Nat) : (allOf b f fr m).length = ((List.range (b - 1)).filter fun i => okL (lenOf b f fr (1 + i)) m).length := List.length_map _
theorem allOf_lt {b f m x : Nat} {fr : Bool} (b3 : 3 ≤ b) (b36 : b ≤ 36) (f2 : 2 ≤ f) (fb : f < b) (hm : 1 ≤ m) (h : x ∈ allOf b f fr m) : b ^ (m - 1) ≤ x ∧ x < b ^ (m - 1) * b := by
  obtain ⟨h1, h2, h3⟩ := (mem_allOf b3 b36 f2 fb hm).mp h
  have hl := len_figs (show 2 ≤ b by omega) h1
  rw [h2] at hl
  refine ⟨hl.1, ?_⟩
  obtain ⟨j, rfl⟩ : ∃ j, m = j + 1 := ⟨m - 1, by omega⟩
  have := hl.2
  rw [Nat.pow_succ] at this
  exact this
theorem rise_cast {ns : List Nat} (h : ns.Pairwise (· < ·)) : (ns.map fun n : Nat => (n : Int)).Pairwise (· < ·) := by
  rw [List.pairwise_map]
  exact List.Pairwise.imp (fun h => by omega) h
end Tf

/-! # the least number that turns -/
namespace Tf
/-- there is none -/
def nev (b f : Nat) (fr : Bool) : Bool := !((List.range (b - 1)).any fun i => (lenOf b f fr (1 + i)).isSome)
def leastM (b f : Nat) (fr : Bool) : Nat := seek (fun m => (List.range (b - 1)).any fun i => lenOf b f fr (1 + i) == some m) 1300 1
def leastD (b f : Nat) (fr : Bool) : Nat := seek (fun d => lenOf b f fr d == some (leastM b f fr)) 40 1
def leastOf (b f : Nat) (fr : Bool) : Option Nat := if nev b f fr then none else some (turn1 b f fr (leastD b f fr) (leastM b f fr))
/-- what the least number is known by -/
structure Least (b f : Nat) (fr : Bool) (x m d : Nat) : Prop where
  d1 : 1 ≤ d
  db : d < b
  len : lenOf b f fr d = some m
  min : ∀ d' l, 1 ≤ d' → d' < b → lenOf b f fr d' = some l → m ≤ l
  first : ∀ d', 1 ≤ d' → d' < d → lenOf b f fr d' ≠ some m
  eq : x = turn1 b f fr d m
theorem nev_iff {b f : Nat} {fr : Bool} : nev b f fr = true ↔ ∀ d, 1 ≤ d → d < b → lenOf b f fr d = none := by
  unfold nev
  rw [Bool.not_eq_true', List.any_eq_false]
  constructor
  · intro h d d1 db
    have := h (d - 1) (List.mem_range.mpr (by omega))
    rw [show 1 + (d - 1) = d by omega] at this
    cases q : lenOf b f fr d with
    | none => rfl
    | some l =>
      rw [q] at this
      exact absurd rfl this
  · intro h i hi
    have := h (1 + i) (by omega) (by have := List.mem_range.mp hi; omega)
    rw [this]
    simp
theorem least_is {b f : Nat} {fr : Bool} (b3 : 3 ≤ b) (b36 : b ≤ 36) (f2 : 2 ≤ f) (fb : f < b) (h : nev b f fr = false) : Least b f fr (turn1 b f fr (leastD b f fr) (leastM b f fr)) (leastM b f fr) (leastD b f fr) := by
  obtain ⟨d0, l0, h1, h2, h3⟩ : ∃ d l, 1 ≤ d ∧ d < b ∧ lenOf b f fr d = some l := by
    unfold nev at h
    rw [Bool.not_eq_false', List.any_eq_true] at h
    obtain ⟨i, hi, hs⟩ := h
    obtain ⟨l, hl⟩ := Option.isSome_iff_exists.mp hs
    exact ⟨1 + i, l, by omega, by have := List.mem_range.mp hi; omega, hl⟩
  have any_of : ∀ {d l}, 1 ≤ d → d < b → lenOf b f fr d = some l → ((List.range (b - 1)).any fun i => lenOf b f fr (1 + i) == some l) = true := fun {d l} a1 a2 a3 => by
    rw [List.any_eq_true]
    refine ⟨d - 1, List.mem_range.mpr (by omega), ?_⟩
    rw [show 1 + (d - 1) = d by omega, a3]
    exact beq_self_eq_true _
  have bnd : ∀ {d l}, 1 ≤ d → d < b → lenOf b f fr d = some l → 1 ≤ l ∧ l ≤ 1296 := fun {d l} a1 a2 a3 => by
    have := len_two (b := b) (f := f) (d := d) ⟨b3, b36, f2, fb, a1, a2⟩ a3
    exact ⟨by omega, this.2⟩
  have s := seek_spec (p := fun m => (List.range (b - 1)).any fun i => lenOf b f fr (1 + i) == some m) 1300 1 l0 (bnd h1 h2 h3).1 (by have := (bnd h1 h2 h3).2; omega) (any_of h1 h2 h3)
  have em : leastM b f fr = seek (fun m => (List.range (b - 1)).any fun i => lenOf b f fr (1 + i) == some m) 1300 1 := rfl
  rw [← em] at s
  obtain ⟨s1, s2, s3, s4⟩ := s
  rw [List.any_eq_true] at s1
  obtain ⟨i, hi, he⟩ := s1
  have hi' := List.mem_range.mp hi
  have t := seek_spec (p := fun d => lenOf b f fr d == some (leastM b f fr)) 40 1 (1 + i) (by omega) (by omega) he
  have ed : leastD b f fr = seek (fun d => lenOf b f fr d == some (leastM b f fr)) 40 1 := rfl
  rw [← ed] at t
  obtain ⟨t1, t2, t3, t4⟩ := t
  refine ⟨t2, by omega, eq_of_beq t1, fun d' l a1 a2 a3 => ?_, fun d' a1 a2 a3 => ?_, rfl⟩
  · rcases Nat.lt_or_ge l (leastM b f fr) with z | z
    · have q := s4 l (bnd a1 a2 a3).1 z
      have q2 := any_of a1 a2 a3
      rw [q2] at q
      cases q
    · exact z
  · have q := t4 d' a1 a2
    have q2 : (lenOf b f fr d' == some (leastM b f fr)) = true := by
      rw [a3]
      exact beq_self_eq_true _
    rw [q2] at q
    cases q
theorem Least.uniq {b f : Nat} {fr : Bool} {x m d x' m' d' : Nat} (a : Least b f fr x m d) (c : Least b f fr x' m' d') : x = x' ∧ m = m' ∧ d = d' := by
  have em : m = m' := Nat.le_antisymm (a.min d' m' c.d1 c.db c.len) (c.min d m a.d1 a.db a.len)
  subst em
  have ed : d = d' := by
    rcases Nat.lt_trichotomy d d' with z | z | z
    · exact absurd a.len (c.first d a.d1 z)
    · exact z
    · exact absurd c.len (a.first d' c.d1 z)
  subst ed
  exact ⟨a.eq.trans c.eq.symm, rfl, rfl⟩
theorem Least.is {b f : Nat} {fr : Bool} {x m d : Nat} (b3 : 3 ≤ b) (b36 : b ≤ 36) (f2 : 2 ≤ f) (fb : f < b) (a : Least b f fr x m d) : leastOf b f fr = some x := by
  have h : nev b f fr = false := by
    cases q : nev b f fr with
    | false => rfl
    | true =>
      have := nev_iff.mp q d a.d1 a.db
      rw [a.len] at this
      cases this
  unfold leastOf
  rw [if_neg (by rw [h]; decide), (a.uniq (least_is b3 b36 f2 fb h)).1]
theorem least_some {b f : Nat} {fr : Bool} {x : Nat} (b3 : 3 ≤ b) (b36 : b ≤ 36) (f2 : 2 ≤ f) (fb : f < b) (e : leastOf b f fr = some x) : nev b f fr = false ∧ ∃ m d, Least b f fr x m d := by
  unfold leastOf at e
  cases q : nev b f fr with
  | true =>
    rw [if_pos q] at e
    cases e
  | false =>
    rw [if_neg (by rw [q]; decide)] at e
    refine ⟨rfl, leastM b f fr, leastD b f fr, ?_⟩
    rw [← Option.some.inj e]
    exact least_is b3 b36 f2 fb q
theorem least_none {b f : Nat} {fr : Bool} (e : leastOf b f fr = none) : nev b f fr = true := by
  unfold leastOf at e
  cases q : nev b f fr with
  | true => rfl
  | false =>
    rw [if_neg (by rw [q]; decide)] at e
    cases e
theorem Least.turned {b f : Nat} {fr : Bool} {x m d : Nat} (b3 : 3 ≤ b) (b36 : b ≤ 36) (f2 : 2 ≤ f) (fb : f < b) (a : Least b f fr x m d) : Turned b f fr d m x ∧ 2 ≤ m ∧ m ≤ 1296 := by
  have B : Bfd b f d := ⟨b3, b36, f2, fb, a.d1, a.db⟩
  have l := len_two B a.len
  have t := turned_is B (by omega) a.len (Nat.dvd_refl m)
  rw [← a.eq] at t
  exact ⟨t, l.1, l.2⟩
/-- the least one is the first one of all with its figures -/
theorem Least.head {b f : Nat} {fr : Bool} {x m d : Nat} (b3 : 3 ≤ b) (b36 : b ≤ 36) (f2 : 2 ≤ f) (fb : f < b) (a : Least b f fr x m d) : (allOf b f fr m)[0]? = some x := by
  obtain ⟨t, m2, m3⟩ := a.turned b3 b36 f2 fb
  have m1 : 1 ≤ m := by omega
  have hx : x ∈ allOf b f fr m := (mem_allOf b3 b36 f2 fb m1).mpr ⟨t.pos, t.len, t.mvd⟩
  have ri := allOf_rising (fr := fr) b3 b36 f2 fb m1
  have all : ∀ y ∈ allOf b f fr m, x ≤ y := fun y hy => by
    unfold allOf at hy
    rw [List.mem_map] at hy
    obtain ⟨i, hi, rfl⟩ := hy
    rw [List.mem_filter, List.mem_range] at hi
    obtain ⟨l, hl, dv⟩ := okL_iff.mp hi.2
    have h1 := Nat.le_of_dvd m1 dv
    have h2 := a.min (1 + i) l (by omega) (by omega) hl
    have e : l = m := by omega
    subst e
    have B : Bfd b f d := ⟨b3, b36, f2, fb, a.d1, a.db⟩
    have B' : Bfd b f (1 + i) := ⟨b3, b36, f2, fb, by omega, by omega⟩
    rcases Nat.lt_trichotomy d (1 + i) with z | z | z
    · exact Nat.le_of_lt (turned_mono B B' t (turned_is B' m1 hl (Nat.dvd_refl l)) z)
    · rw [← z, ← a.eq]
      exact Nat.le_refl _
    · exact absurd hl (a.first (1 + i) (by omega) z)
  generalize allOf b f fr m = L at *
  cases L with
  | nil => cases hx
  | cons y r =>
    show some y = some x
    have h1 := all y List.mem_cons_self
    rcases List.mem_cons.mp hx with e | e
    · rw [e]
    · have := (List.pairwise_cons.mp ri).1 x e
      omega
/-- the lengths that are some -/
def someL (b f : Nat) (fr : Bool) : List Nat := (List.range (b - 1)).filterMap fun i => lenOf b f fr (1 + i)
theorem mem_someL {b f : Nat} {fr : Bool} {l : Nat} : l ∈ someL b f fr ↔ ∃ d, 1 ≤ d ∧ d < b ∧ lenOf b f fr d = some l := by
  unfold someL
  rw [List.mem_filterMap]
  constructor
  · rintro ⟨i, hi, h⟩
    exact ⟨1 + i, by omega, by have := List.mem_range.mp hi; omega, h⟩
  · rintro ⟨d, h1, h2, h3⟩
    exact ⟨d - 1, List.mem_range.mpr (by omega), by rw [show 1 + (d - 1) = d by omega]; exact h3⟩
theorem someL_nil {b f : Nat} {fr : Bool} : someL b f fr = [] ↔ nev b f fr = true := by
  rw [nev_iff]
  constructor
  · intro h d d1 db
    cases q : lenOf b f fr d with
    | none => rfl
    | some l =>
      have := mem_someL.mpr ⟨d, d1, db, q⟩
      rw [h] at this
      cases this
  · intro h
    cases q : someL b f fr with
    | nil => rfl
    | cons l r =>
      obtain ⟨d, h1, h2, h3⟩ := mem_someL.mp (show l ∈ someL b f fr by rw [q]; exact List.mem_cons_self)
      rw [h d h1 h2] at h3
      cases h3
theorem dec_nil (b f : Nat) (fr : Bool) : decide (someL b f fr = []) = nev b f fr := by
  cases q : nev b f fr with
  | true => exact decide_eq_true (someL_nil.mpr q)
  | false => exact decide_eq_false fun z => by rw [someL_nil.mp z] at q; cases q
theorem someL_len (b f : Nat) (fr : Bool) : (someL b f fr).length ≤ b - 1 := by
  unfold someL
  have := List.length_filterMap_le (fun i => lenOf b f fr (1 + i)) (List.range (b - 1))
  rw [List.length_range] at this
  exact this
end Tf

/-! # rows written over and over -/
namespace Tf
abbrev rep (k : Nat) (ds : List Nat) : List Nat := (List.replicate k ds).flatten
theorem rep_succ (k : Nat) (ds : List Nat) : rep (k + 1) ds = ds ++ rep k ds := by
  show (List.replicate (k + 1) ds).flatten = _
  rw [List.replicate_succ, List.flatten_cons]
theorem rep_turn (u v : List Nat) : ∀ k, u ++ rep k (v ++ u) ++ v = rep (k + 1) (u ++ v)
  | 0 => by
    show u ++ [] ++ v = (u ++ v) ++ []
    rw [List.append_nil, List.append_nil]
  | k + 1 => by
    rw [rep_succ k, rep_succ (k + 1), ← rep_turn u v k]
    simp only [List.append_assoc]
theorem rep_last (ds : List Nat) : ∀ k, rep (k + 1) ds = rep k ds ++ ds
  | 0 => by
    show ds ++ [] = [] ++ ds
    rw [List.append_nil, List.nil_append]
  | k + 1 => by
    rw [rep_succ (k + 1)]
    conv => lhs; rw [rep_last ds k]
    conv => rhs; rw [rep_succ k]
    rw [List.append_assoc]
theorem rep_len (ds : List Nat) : ∀ k, (rep k ds).length = k * ds.length
  | 0 => by
    rw [Nat.zero_mul]
    rfl
  | k + 1 => by
    rw [rep_succ, List.length_append, rep_len ds k, Nat.succ_mul]
    omega
theorem rep_mem {ds : List Nat} {d : Nat} : ∀ {k : Nat}, d ∈ rep k ds → d ∈ ds
  | 0, h => by cases h
  | k + 1, h => by
    rw [rep_succ] at h
    rcases List.mem_append.mp h with h | h
    · exact h
    · exact rep_mem h
theorem rot_rep (fr : Bool) (ds : List Nat) (hd : ds ≠ []) (k : Nat) : rot fr (rep (k + 1) ds) = rep (k + 1) (rot fr ds) := by
  cases fr with
  | true =>
    obtain ⟨i, l, rfl⟩ : ∃ i l, ds = i ++ [l] := ⟨ds.dropLast, ds.getLast hd, (List.dropLast_concat_getLast hd).symm⟩
    have one : ∀ (i : List Nat) (l : Nat), rot true (i ++ [l]) = l :: i := fun i l => by
      show (i ++ [l]).drop ((i ++ [l]).length - 1) ++ (i ++ [l]).take ((i ++ [l]).length - 1) = _
      rw [List.length_append]
      show (i ++ [l]).drop (i.length + 1 - 1) ++ (i ++ [l]).take (i.length + 1 - 1) = _
      rw [Nat.add_sub_cancel, List.drop_left, List.take_left]
      rfl
    rw [one, rep_last, ← List.append_assoc, one]
    have := rep_turn [l] i k
    rw [List.singleton_append] at this
    exact this
  | false =>
    obtain ⟨h, t, rfl⟩ : ∃ h t, ds = h :: t := by
      cases ds with
      | nil => exact absurd rfl hd
      | cons h t => exact ⟨h, t, rfl⟩
    have one : ∀ (h : Nat) (t : List Nat), rot false (h :: t) = t ++ [h] := fun h t => rfl
    rw [one, rep_succ, List.cons_append, one]
    exact rep_turn t [h] k
/-- what a row's number is multiplied by when the row is written k times -/
def rp (b m : Nat) : Nat → Nat
  | 0 => 0
  | k + 1 => b ^ (k * m) + rp b m k
theorem wr_rep (b : Nat) (ds : List Nat) : ∀ k, wr b (rep k ds) = wr b ds * rp b ds.length k
  | 0 => rfl
  | k + 1 => by
    rw [rep_succ, wr_append, wr_rep b ds k, rep_len]
    show _ = wr b ds * (b ^ (k * ds.length) + rp b ds.length k)
    rw [Nat.mul_add]
/-- a row that turns turns written over and over -/
theorem mv_rep {b f : Nat} {fr : Bool} {ds : List Nat} {k : Nat} (hb : 2 ≤ b) (h1 : ∀ d ∈ ds, d < b) (h2 : ∃ d, ds[0]? = some d ∧ 0 < d) (hk : 1 ≤ k) (e : wr b (rot fr ds) = f * wr b ds) :
    figs b (wr b (rep k ds)) = rep k ds ∧ mv b (wr b (rep k ds)) fr = f * wr b (rep k ds) ∧ 0 < wr b (rep k ds) := by
  obtain ⟨d0, hd0, hp0⟩ := h2
  have hne : ds ≠ [] := fun z => by
    rw [z] at hd0
    cases hd0
  obtain ⟨j, rfl⟩ : ∃ j, k = j + 1 := ⟨k - 1, by omega⟩
  have h0 : (rep (j + 1) ds)[0]? = some d0 := by
    rw [rep_succ, List.getElem?_append_left (List.length_pos_iff.mpr hne)]
    exact hd0
  have fg : figs b (wr b (rep (j + 1) ds)) = rep (j + 1) ds := figs_wr hb _ _ rfl (fun d hd => h1 d (rep_mem hd)) fun d hd => by
    rw [h0] at hd
    rw [← Option.some.inj hd]
    exact hp0
  refine ⟨fg, ?_, ?_⟩
  · unfold mv
    rw [fg, rot_rep fr ds hne, wr_rep, wr_rep, rot_len, e, Nat.mul_assoc]
  · rcases Nat.eq_zero_or_pos (wr b (rep (j + 1) ds)) with z | z
    · rw [z, figs_zero] at fg
      rw [← fg] at h0
      cases h0
    · exact z
theorem wr_rep_lt {b : Nat} {ds : List Nat} {k : Nat} (hb : 2 ≤ b) (h1 : ∀ d ∈ ds, d < b) : wr b (rep k ds) < b ^ (k * ds.length) := by
  have := wr_lt hb (rep k ds) fun d hd => h1 d (rep_mem hd)
  rw [rep_len] at this
  exact this
/-- of a number: its figures over and over -/
theorem trn_rep {b f x : Nat} {fr : Bool} {k : Nat} (hb : 2 ≤ b) (hx : 0 < x) (hk : 1 ≤ k) (e : mv b x fr = f * x) : trn b f fr (wr b (rep k (figs b x))) = true := by
  have hp := figs_len_pos hb hx
  have g : (figs b x)[0]? = some (figs b x)[0] := List.getElem?_eq_getElem hp
  have := mv_rep (fr := fr) (f := f) hb (figs_lt hb x) ⟨_, g, figs_head hb x _ g⟩ hk (by rw [wr_figs hb]; exact e)
  unfold trn
  rw [decide_eq_true this.2.1, decide_eq_true this.2.2]
  rfl
end Tf

namespace Tf
open PySem PySem.Spec PyProof.Rows L2 Evl
/-! ### a def of the module, by its promise -/
structure Has (P : Program) (w : World) (K : PySem.W.Frag) (mg : Str → Option Value) (base : Heap) (x : Str) (ps : List Str) (k : Nat) (sp : Sp) : Prop where
  ex : ∃ (f : Addr) (fd : FuncData), mg x = some (.ref f) ∧ PySem.W.keepIn K (.ref f) = true ∧ Binds K fd ps [] ∧ FnOk P w K mg base CX0 k f fd ps sp
theorem pe_fn {X : Cx} {x : Str} {ps : List Str} {j k : Nat} {sp : Sp} {p pos : Pos} {e : Expr} {es : List Expr} {t : TA} (h : Has X.prog X.w X.K X.mg X.base x ps k sp) (hr : Room j X.A) (hg : Gl X x) (ha : PA X (e :: es) t)
    (hk : k ≤ j := by decide) (hdb : (x == ("__debug__" : Str)) = false := by decide) (he : starEach (e :: es) X.env = (false, eval e X.env) :: starEach es X.env := by rfl) (hpl : (backTo pos (starEach es X.env)).any (·.1) = false := by rfl) :
    PE X (.Call (.Name x p) (e :: es) [] pos) (tCall sp [] E0 t) := by
  obtain ⟨f, fd, g, kp, b, F⟩ := h.ex
  exact pe_call F (hr.mono hk) hg g kp b .nil pass0 ha hdb he hpl
theorem pe_fn0 {X : Cx} {x : Str} {ps : List Str} {j k : Nat} {sp : Sp} {p pos : Pos} (h : Has X.prog X.w X.K X.mg X.base x ps k sp) (hr : Room j X.A) (hg : Gl X x)
    (hk : k ≤ j := by decide) (hdb : (x == ("__debug__" : Str)) = false := by decide) : PE X (.Call (.Name x p) [] [] pos) (tCall sp [] E0 tNil) := by
  obtain ⟨f, fd, g, kp, b, F⟩ := h.ex
  exact pe_call0 F (hr.mono hk) hg g kp b .nil pass0 hdb
/-! ### promises: a value told, a new list told -/
def spV (R : List V → Hp → V → Prop) : Sp := fun vs H Q _ => ∃ v, R vs H v ∧ RetV v H Q
def spL (R : List V → Hp → List V → Prop) : Sp := fun vs H Q _ => ∃ xs, R vs H xs ∧ RetL xs H Q
abbrev vi (n : Nat) : V := .int (n : Int)
abbrev vl (ns : List Nat) : List V := ns.map vi
theorem vl_app (xs ys : List Nat) : vl (xs ++ ys) = vl xs ++ vl ys := List.map_append
theorem vl_drop (ds : List Nat) (k : Nat) : vl (ds.drop k) = (vl ds).drop k := List.map_drop
theorem vl_take (ds : List Nat) (k : Nat) : vl (ds.take k) = (vl ds).take k := List.map_take
theorem vl_rev (ds : List Nat) : vl ds.reverse = (vl ds).reverse := List.map_reverse
theorem vl_len (ds : List Nat) : (vl ds).length = ds.length := List.length_map _
theorem cutV_to (xs : List V) (k : Nat) : cutV xs none (some (k : Int)) = xs.take k := by
  unfold cutV
  rw [HT.sIx_none, HT.sIx_nat, List.drop_zero, Nat.sub_zero]
  by_cases h : k ≤ xs.length
  · rw [Nat.min_eq_left h]
  · rw [Nat.min_eq_right (by omega), List.take_length, List.take_of_length_le (by omega)]
/-! ### lists met: new or old -/
section
variable {K : PySem.W.Frag} {σ : L2.St} {H H' : Hp} {ta tb tc te : TE} {x y z v : V} {xs ys : List V}
def EvS (te : TE) (σ : L2.St) (H : Hp) (xs : List V) : Prop := ∀ H1, Ex H H1 → ∀ Q : VK, (∀ p H2, Ex H1 H2 → H2 p = some (.lst xs) → Q (.ref p) H2) → te σ H1 Q
def EvQ (K : PySem.W.Frag) (te : TE) (σ : L2.St) (H : Hp) (xs : List V) : Prop := ∀ H1, Ex H H1 → ∀ Q : VK, (∀ p H2, Ex H1 H2 → SqL K H2 p xs → Q (.ref p) H2) → te σ H1 Q
theorem es_new (h : EvL te σ H xs) : EvS te σ H xs := fun H1 e Q q => h H1 e Q fun p H2 _ e2 hp => q p H2 e2 hp
theorem es_old {a : Addr} (h : Ev te σ H (.ref a)) (hx : H a = some (.lst xs)) : EvS te σ H xs := fun H1 e Q q => h H1 e Q fun H2 e2 => q a H2 e2 (e2 _ _ (e _ _ hx))
theorem eq_of (h : EvS te σ H xs) : EvQ K te σ H xs := fun H1 e Q q => h H1 e Q fun p H2 e2 hp => q p H2 e2 (sq_of hp)
theorem eq_new (h : EvL te σ H xs) : EvQ K te σ H xs := eq_of (es_new h)
theorem eq_old {a : Addr} (h : Ev te σ H (.ref a)) (hx : SqL K H a xs) : EvQ K te σ H xs := fun H1 e Q q => h H1 e Q fun H2 e2 => q a H2 e2 (ex_l e2 (ex_l e hx))
theorem EvS.mono (e : Ex H H') (h : EvS te σ H xs) : EvS te σ H' xs := fun H1 a Q q => h H1 (e.trans a) Q q
theorem EvQ.mono (e : Ex H H') (h : EvQ K te σ H xs) : EvQ K te σ H' xs := fun H1 a Q q => h H1 (e.trans a) Q q
theorem EvU.mono (e : Ex H H') (h : EvU te σ H xs) : EvU te σ H' xs := fun H1 a Q q => h H1 (e.trans a) Q q
theorem el_cat (ha : EvS ta σ H xs) (hb : EvS tb σ H ys) (hz : xs.length + ys.length ≤ 1000000) : EvL (tOp rCat ta tb) σ H (xs ++ ys) := fun H1 e Q q =>
  ha H1 e _ fun p H2 e2 hp => hb H2 (e.trans e2) _ fun p' H3 e3 hp' =>
    ⟨p, p', xs, ys, rfl, rfl, e3 _ _ hp, hp', Nat.le_trans hz (by decide), fun l hl => q l _ (fresh_back (e2.trans e3) hl) ((e2.trans e3).trans (Ex.new hl)) upd_same⟩
theorem el_rep {k : Nat} (ha : EvS ta σ H xs) (hb : Ev tb σ H (vi k)) (hk : k < 2 ^ 62) (hz : xs.length * k ≤ 1000000) : EvL (tOp rRep ta tb) σ H (List.replicate k xs).flatten := fun H1 e Q q =>
  ha H1 e _ fun p H2 e2 hp => hb H2 (e.trans e2) _ fun H3 e3 =>
    ⟨p, (k : Int), xs, rfl, rfl, e3 _ _ hp, by omega, by omega, Nat.le_trans hz (by decide), fun l hl => q l _ (fresh_back (e2.trans e3) hl) ((e2.trans e3).trans (Ex.new hl)) upd_same⟩
theorem el_cut {tl th : TO} {lo hi : Option Int} (h : EvQ K te σ H xs) (h1 : EvO tl σ H lo) (h2 : EvO th σ H hi) : EvL (tSl (rSlL K) te tl th) σ H (cutV xs lo hi) := fun H1 e _ q =>
  h H1 e _ fun a H2 e2 hx => h1 H2 (e.trans e2) _ fun H3 e3 => h2 H3 ((e.trans e2).trans e3) _ fun H4 e4 =>
    ⟨a, xs, rfl, ex_l (e3.trans e4) hx, fun p hp => q p _ (fresh_back ((e2.trans e3).trans e4) hp) (((e2.trans e3).trans e4).trans (Ex.new hp)) upd_same⟩
theorem el_rev (h : EvQ K te σ H xs) : EvL (tRevL K te) σ H xs.reverse := fun H1 e _ q =>
  h H1 e _ fun a H2 e2 hx => ⟨a, xs, rfl, hx, fun p hp => q p _ (fresh_back e2 hp) (e2.trans (Ex.new hp)) upd_same⟩
theorem ev_ix {i : Int} (ha : EvQ K ta σ H xs) (hb : Ev tb σ H (.int i)) (hv : atI xs i = some v) : Ev (tOp (rIxL K) ta tb) σ H v := fun H1 e _ q =>
  ha H1 e _ fun a H2 e2 hx => hb H2 (e.trans e2) _ fun H3 e3 => ⟨a, xs, i, v, rfl, rfl, ex_l e3 hx, hv, q H3 (e2.trans e3)⟩
theorem ev_ixU {i : Int} (ha : EvU ta σ H xs) (hb : Ev tb σ H (.int i)) (hv : atI xs i = some v) : Ev (tOp (rIxT K) ta tb) σ H v := fun H1 e _ q =>
  ha H1 e _ fun a H2 _ e2 hx => hb H2 (e.trans e2) _ fun H3 e3 => ⟨a, xs, i, v, rfl, rfl, ex_t e3 (st_of hx), hv, q H3 (e2.trans e3)⟩
theorem ev_len (ha : EvQ K ta σ H xs) : Ev (tCB (fun zs H Q => ∃ p ys, zs = [.ref p] ∧ (SqL K H p ys ∨ SqT K H p ys) ∧ Q (.int ys.length) H) (tCons ta tNil)) σ H (vi xs.length) := fun H1 e _ q =>
  ha H1 e _ fun a H2 e2 hx => ⟨a, xs, rfl, .inl hx, q H2 e2⟩
theorem ev_lenU (ha : EvU ta σ H xs) : Ev (tCB (fun zs H Q => ∃ p ys, zs = [.ref p] ∧ (SqL K H p ys ∨ SqT K H p ys) ∧ Q (.int ys.length) H) (tCons ta tNil)) σ H (vi xs.length) := fun H1 e _ q =>
  ha H1 e _ fun a H2 _ e2 hx => ⟨a, xs, rfl, .inr (st_of hx), q H2 e2⟩
theorem el_list (ha : EvQ K ta σ H xs) : EvL (tCB (fun zs H Q => ∃ p ys, zs = [.ref p] ∧ (SqL K H p ys ∨ SqT K H p ys) ∧ ∀ l, H l = none → Q (.ref l) (upd H l (.lst ys))) (tCons ta tNil)) σ H xs := fun H1 e _ q =>
  ha H1 e _ fun a H2 e2 hx => ⟨a, xs, rfl, .inl hx, fun p hp => q p _ (fresh_back e2 hp) (e2.trans (Ex.new hp)) upd_same⟩
theorem ev_any {bs : List Bool} (ha : EvQ K ta σ H (bs.map V.bl)) : Ev (tCB (rAny K) (tCons ta tNil)) σ H (.bl (bs.any id)) := fun H1 e _ q => ha H1 e _ fun a H2 e2 hx => ⟨a, bs, rfl, hx, q H2 e2⟩
theorem ev_all {bs : List Bool} (ha : EvQ K ta σ H (bs.map V.bl)) : Ev (tCB (rAll K) (tCons ta tNil)) σ H (.bl (bs.all id)) := fun H1 e _ q => ha H1 e _ fun a H2 e2 hx => ⟨a, bs, rfl, hx, q H2 e2⟩
theorem ev_sum {ns : List Int} (ha : EvQ K ta σ H (ns.map V.int)) : Ev (tCB (rSum K) (tCons ta tNil)) σ H (.int ns.sum) := fun H1 e _ q => ha H1 e _ fun a H2 e2 hx => ⟨a, ns, rfl, hx, q H2 e2⟩
theorem ev_abs {i : Int} (ha : Ev ta σ H (.int i)) : Ev (tCB (fun xs H Q => ∃ i, xs = [.int i] ∧ Q (.int (if i < 0 then -i else i)) H) (tCons ta tNil)) σ H (vi i.natAbs) := fun H1 e Q q =>
  ha H1 e _ fun H2 e2 => ⟨i, rfl, by
    have g := q H2 e2
    have w : (if i < 0 then -i else i) = (i.natAbs : Int) := by split <;> omega
    rw [w]
    exact g⟩
theorem el_if {t : TT} {b : Bool} (h : EvT t σ H b) (h1 : b = true → EvL ta σ H xs) (h2 : b = false → EvL tb σ H xs) : EvL (tIf t ta tb) σ H xs := fun H1 e Q q => h H1 e _ fun H2 e2 => by
  cases b with
  | true => exact iteT (h1 rfl H2 (e.trans e2) _ fun p H3 hp e3 h3 => q p H3 (fresh_back e2 hp) (e2.trans e3) h3)
  | false => exact iteF (h2 rfl H2 (e.trans e2) _ fun p H3 hp e3 h3 => q p H3 (fresh_back e2 hp) (e2.trans e3) h3)
theorem el_is {ys : List V} (h : EvL te σ H xs) (e : xs = ys) : EvL te σ H ys := by
  rw [← e]
  exact h
/-! isinstance -/
theorem ev_isi {t c : String} {b : Bool} (ha : Ev ta σ H x) (ht : ∀ H1, Ex H H1 → TyX K H1 x (.type t)) (hb : kitB t c = some b) : Ev (tCB (rIsi K) (tCons ta (tCons (tC (.ty c)) tNil))) σ H (.bl b) := fun H1 e _ q =>
  ha H1 e _ fun H2 e2 => ⟨x, .ty c, _, _, b, rfl, .ty c, ht H2 (e.trans e2), kit_ty hb, q H2 e2⟩
theorem ev_isiI {i : Int} {c : String} {b : Bool} (ha : Ev ta σ H (.int i)) (hb : kitB "int" c = some b) : Ev (tCB (rIsi K) (tCons ta (tCons (tC (.ty c)) tNil))) σ H (.bl b) := ev_isi ha (fun _ _ => .base (.int i)) hb
theorem ev_isiS {c : String} {b : Bool} (ha : EvS ta σ H xs) (hb : kitB "list" c = some b) : Ev (tCB (rIsi K) (tCons ta (tCons (tC (.ty c)) tNil))) σ H (.bl b) := fun H1 e _ q =>
  ha H1 e _ fun p H2 e2 hp => ⟨.ref p, .ty c, _, _, b, rfl, .ty c, .base (.lst hp), kit_ty hb, q H2 e2⟩
theorem rv_isN : RV (fun x y H Q => y = .non ∧ Q (.bl (decide (x = .non))) H) x .non H (.bl (decide (x = .non))) := fun H1 _ _ q => ⟨rfl, q H1 (Ex.refl H1)⟩
theorem rv_notN : RV (fun x y H Q => y = .non ∧ Q (.bl (!decide (x = .non))) H) x .non H (.bl (!decide (x = .non))) := fun H1 _ _ q => ⟨rfl, q H1 (Ex.refl H1)⟩
/-- the script's sum -/
theorem ev_whole {a : Addr} {ns : List Int} (hS : SqL K H a (ns.map V.int)) (hv : σ[0]? = some (some (.ref a))) :
    Ev (tOp (rI (fun _ j => 0 < j) fun i j => .int (i % j)) (tCB (fun xs H Q => ∃ i, xs = [.int i] ∧ Q (.int (if i < 0 then -i else i)) H) (tCons (tCB (rSum K) (tCons (tSl (rSlL K) (tVar 0) tNoPart (tPart (tC (.int 63)))) tNil)) tNil)) (tOp (rI CPow fun i j => .int (i ^ j.toNat)) (tC (.int 10)) (tC (.int 60)))) σ H (vi ((ns.take 63).sum.natAbs % 10 ^ 60)) := by
  refine ev_is (ev_op (ev_abs (ev_sum (ns := ns.take 63) (eq_new (el_is (el_cut (eq_old (ev_var hv) hS) eo_none (eo_some ev_c)) ?_)))) (ev_op ev_c ev_c (rv_I ⟨by decide, by decide, by decide⟩)) (rv_I (by decide +kernel))) ?_
  · rw [show (63 : Int) = ((63 : Nat) : Int) from rfl, cutV_to, List.map_take]
  · rfl
/-- the first cells, and some more -/
theorem eq_cells {a : Addr} {ns ms : List Int} {k : Nat} {tb : TE} (hS : SqL K H a (ns.map V.int)) (hl : ns.length ≤ 63) (hv : σ[0]? = some (some (.ref a))) (hb : EvL tb σ H (ms.map V.int)) (hm : ms.length ≤ 10) :
    EvQ K (tOp rCat (tSl (rSlL K) (tVar 0) tNoPart (tPart (tC (.int (k : Int))))) tb) σ H ((ns.take k ++ ms).map V.int) := by
  refine eq_new (el_is (el_cat (es_new (el_cut (eq_old (ev_var hv) hS) eo_none (eo_some ev_c))) (es_new hb) ?_) ?_)
  · have q1 := cutV_length (ns.map V.int) none (some (k : Int))
    rw [List.length_map] at q1
    rw [List.length_map]
    omega
  · rw [cutV_to, ← List.map_take, ← List.map_append]
theorem get_ints {L : List Int} {i : Nat} {x : V} (h : (L.map V.int)[i]? = some x) : ∃ c, L[i]? = some c ∧ x = .int c := by
  rw [List.getElem?_map] at h
  cases e : L[i]? with
  | none =>
    rw [e] at h
    cases h
  | some d =>
    rw [e] at h
    exact ⟨d, rfl, (Option.some.inj h).symm⟩
theorem cells_len {ns ms : List Int} {k i : Nat} {c : Int} (h : (ns.take k ++ ms)[i]? = some c) : i < k + ms.length := by
  have := (List.getElem?_eq_some_iff.mp h).1
  rw [List.length_append, List.length_take] at this
  omega
/-! chains -/
theorem ev_chain {r r' : R2} {a b : Bool} (ha : Ev ta σ H x) (hb : Ev tb σ H y) (hr : RV r x y H (.bl a)) (hc : Ev tc σ H z) (hr' : RV r' y z H (.bl b)) : Ev (tChain r r' ta tb tc) σ H (.bl (a && b)) := fun H1 e Q q =>
  ha H1 e _ fun H2 e2 => hb H2 (e.trans e2) _ fun H3 e3 => hr H3 ((e.trans e2).trans e3) _ fun H4 e4 => ⟨a, rfl, by
    have e14 := (e2.trans e3).trans e4
    cases a with
    | true =>
      refine iteT (hc H4 (e.trans e14) _ fun H5 e5 => hr' H5 ((e.trans e14).trans e5) _ fun H6 e6 => ?_)
      exact q H6 ((e14.trans e5).trans e6)
    | false => exact iteF (q H4 e14)⟩
/-! equality of lists of ints -/
def dI (ns : List Int) : List PyData := ns.map PyData.int
theorem dp_ints {H : Hp} : ∀ ns : List Int, DpAll K H (ns.map V.int) (dI ns)
  | [] => .nil
  | n :: ns => .cons (.int n) (dp_ints ns)
theorem lay_ints : ∀ ns : List Int, PyData.canLayAll0 (dI ns) = true
  | [] => by simp [dI, PyData.canLayAll0]
  | n :: ns => by
    show PyData.canLayAll0 (.int n :: dI ns) = true
    rw [PyData.canLayAll0, lay_ints ns]
    simp [PyData.canLay0]
theorem depth_ints : ∀ ns : List Int, PyData.depthAll (dI ns) = 0
  | [] => by simp [dI, PyData.depthAll]
  | n :: ns => by
    show PyData.depthAll (.int n :: dI ns) = 0
    rw [PyData.depthAll, depth_ints ns]
    simp [PyData.depth]
theorem shaped_ints (ns : List Int) : SeqAt.shaped (.list (dI ns)) = true := by
  unfold SeqAt.shaped
  rw [PyData.canLay0, lay_ints, PyData.depth, depth_ints]
  decide
theorem eqv_ints : ∀ ns ms : List Int, PyData.eqvAll (dI ns) (dI ms) = decide (ns = ms)
  | [], [] => by simp [dI, PyData.eqvAll]
  | [], m :: ms => by simp [dI, PyData.eqvAll]
  | n :: ns, [] => by simp [dI, PyData.eqvAll]
  | n :: ns, m :: ms => by
    show PyData.eqvAll (.int n :: dI ns) (.int m :: dI ms) = _
    rw [PyData.eqvAll, eqv_ints ns ms, PyData.eqv]
    by_cases h : n = m
    · subst h
      simp
    · simp [h]
theorem ev_eqL {ns ms : List Int} (ha : EvQ K ta σ H (ns.map V.int)) (hb : EvQ K tb σ H (ms.map V.int)) : Ev (tOp (rEqD K) ta tb) σ H (.bl (decide (ns = ms))) := fun H1 e Q q =>
  ha H1 e _ fun p H2 e2 hp => hb H2 (e.trans e2) _ fun p' H3 e3 hp' => ⟨.list (dI ns), .list (dI ms), .lst (ex_l e3 hp) (dp_ints ns), .lst hp' (dp_ints ms), shaped_ints ns, shaped_ints ms, by
    rw [PyData.eqv, eqv_ints]
    exact q H3 (e2.trans e3)⟩
theorem ev_neL {ns ms : List Int} (ha : EvQ K ta σ H (ns.map V.int)) (hb : EvQ K tb σ H (ms.map V.int)) : Ev (tOp (rNeD K) ta tb) σ H (.bl (!decide (ns = ms))) := fun H1 e Q q =>
  ha H1 e _ fun p H2 e2 hp => hb H2 (e.trans e2) _ fun p' H3 e3 hp' => ⟨.list (dI ns), .list (dI ms), .lst (ex_l e3 hp) (dp_ints ns), .lst hp' (dp_ints ms), shaped_ints ns, shaped_ints ms, by
    rw [PyData.eqv, eqv_ints]
    exact q H3 (e2.trans e3)⟩
theorem vl_ints (ns : List Nat) : vl ns = (ns.map fun n : Nat => (n : Int)).map V.int := by
  rw [List.map_map]
  rfl
theorem cast_inj : ∀ {ns ms : List Nat}, ns.map (fun n : Nat => (n : Int)) = ms.map (fun n : Nat => (n : Int)) → ns = ms
  | [], [], _ => rfl
  | [], _ :: _, h => by simp at h
  | _ :: _, [], h => by simp at h
  | n :: ns, m :: ms, h => by
    rw [List.map_cons, List.map_cons] at h
    injection h with h1 h2
    rw [cast_inj h2, Int.ofNat.inj h1]
theorem dec_cast (ns ms : List Nat) : decide (ns.map (fun n : Nat => (n : Int)) = ms.map (fun n : Nat => (n : Int))) = decide (ns = ms) := by
  by_cases h : ns = ms
  · rw [decide_eq_true h, h, decide_eq_true rfl]
  · rw [decide_eq_false h, decide_eq_false fun e => h (cast_inj e)]
theorem ev_eqN {ns ms : List Nat} (ha : EvQ K ta σ H (vl ns)) (hb : EvQ K tb σ H (vl ms)) : Ev (tOp (rEqD K) ta tb) σ H (.bl (decide (ns = ms))) := by
  rw [vl_ints] at ha hb
  exact ev_is (ev_eqL ha hb) (by rw [dec_cast])
theorem ev_neN {ns ms : List Nat} (ha : EvQ K ta σ H (vl ns)) (hb : EvQ K tb σ H (vl ms)) : Ev (tOp (rNeD K) ta tb) σ H (.bl (!decide (ns = ms))) := by
  rw [vl_ints] at ha hb
  exact ev_is (ev_neL ha hb) (by rw [dec_cast])
/-! calls by promises -/
theorem ev_fn {R : List V → Hp → V → Prop} {vs : List V} {t : TA} (h : EvA t σ H vs) (hR : ∀ H1, Ex H H1 → R vs H1 v) : Ev (tCall (spV R) [] E0 t) σ H v := fun H1 e Q q =>
  h H1 e _ fun H2 e2 => ⟨v, by rw [List.append_nil]; exact hR H2 (e.trans e2), fun H3 e3 => q H3 (e2.trans e3)⟩
theorem el_fn {R : List V → Hp → List V → Prop} {vs : List V} {t : TA} (h : EvA t σ H vs) (hR : ∀ H1, Ex H H1 → R vs H1 xs) : EvL (tCall (spL R) [] E0 t) σ H xs := fun H1 e Q q =>
  h H1 e _ fun H2 e2 => ⟨xs, by rw [List.append_nil]; exact hR H2 (e.trans e2), fun p H3 hp e3 h3 => q p H3 (fresh_back e2 hp) (e2.trans e3) h3⟩
/-- an argument that is a new list, the last one -/
theorem ev_fnL {R : List V → Hp → V → Prop} (h : Ev ta σ H x) (hl : EvS tb σ H xs) (hR : ∀ p H1, Ex H H1 → H1 p = some (.lst xs) → R [x, .ref p] H1 v) : Ev (tCall (spV R) [] E0 (tCons ta (tCons tb tNil))) σ H v := fun H1 e Q q =>
  h H1 e _ fun H2 e2 => hl H2 (e.trans e2) _ fun p H3 e3 hp => ⟨v, hR p H3 ((e.trans e2).trans e3) hp, fun H4 e4 => q H4 ((e2.trans e3).trans e4)⟩
end
/-! ### loops -/
section
variable {K : PySem.W.Frag} {σ : L2.St} {H H' : Hp} {te : TE} {D : Ends} {tu tz : TS} {xs : List V}
/-- for i, x in enumerate(..) -/
theorem q_forE {j l : Nat} (h : EvQ K te σ H xs) (Pv : Addr → Nat → L2.St → Hp → Prop) (h0 : ∀ p H1, Ex H H1 → SqL K H1 p xs → Pv p 0 σ H1) (hl : ∀ p i σ' H', i ≤ xs.length → Pv p i σ' H' → SqL K H' p xs)
    (hs : ∀ p i x σ' H', xs[i]? = some x → Pv p i σ' H' → ∀ H2, Ex H' H2 → tu { D with nx := Pv p (i + 1), ct := Pv p (i + 1), bk := tz D } ((σ'.set j (some (vi i))).set l (some x)) H2) (hd : ∀ p σ' H', Pv p xs.length σ' H' → tz D σ' H') :
    tSeq (tFor (iEnum K (tCons te tNil)) (gTup K 2 (gCons (gName j) (gCons (gName l) gNil))) tu) tz D σ H :=
  h H (Ex.refl H) _ fun a H1 e ha => ⟨a, xs, rfl, ha, fun i m σ' H' => m = xs.length - i ∧ i ≤ xs.length ∧ Pv a i σ' H', ⟨xs.length, by simp, Nat.zero_le _, h0 a H1 e ha⟩, by
    rintro i m σ' H' ⟨rfl, hi, p⟩
    have q := hl a i σ' H' hi p
    by_cases hlt : i < xs.length
    · refine .inr ⟨⟨xs, xs[i], q, by simp [hlt]⟩, Pv a (i + 1), fun σ2 H2 p' => ⟨xs.length - (i + 1), by omega, rfl, hlt, p'⟩, fun x H2 y => ?_⟩
      obtain ⟨T, x', rfl, nT, rfl, f⟩ := y
      exact ⟨T, [vi i, x'], rfl, st_of upd_same, rfl, vi i, [x'], rfl, x', [], rfl, rfl, hs a i x' σ' H' (f xs q) p _ (Ex.new nT)⟩
    · have e' : i = xs.length := by omega
      subst e'
      exact .inl ⟨⟨xs, q, Nat.le_refl _⟩, hd a σ' H' p⟩⟩
/-- a, b = x, y -/
theorem s_par {i j : Nat} {ta : TA} {x y : V} (h : EvA ta σ H [x, y]) (k : ∀ H1, Ex H H1 → D.nx ((σ.set i (some x)).set j (some y)) H1) : tPar i j ta D σ H := h H (Ex.refl H) _ fun H1 e => ⟨x, y, rfl, k H1 e⟩
theorem q_par {i j : Nat} {ta : TA} {x y : V} (h : EvA ta σ H [x, y]) (k : ∀ H1, Ex H H1 → tz D ((σ.set i (some x)).set j (some y)) H1) : tSeq (tPar i j ta) tz D σ H := s_par (D := { D with nx := tz D }) h k
theorem q_par3 {i j l : Nat} {ta : TA} {x y z : V} (h : EvA ta σ H [x, y, z]) (k : ∀ H1, Ex H H1 → tz D (((σ.set i (some x)).set j (some y)).set l (some z)) H1) : tSeq (tPar3 i j l ta) tz D σ H := h H (Ex.refl H) _ fun H1 e => ⟨x, y, z, rfl, k H1 e⟩
/-- a word between: what follows is shown once -/
theorem q_mid {M : L2.St → Hp → Prop} (h : tu { D with nx := M } σ H) (k : ∀ σ' H', M σ' H' → tz D σ' H') : tCut tu tz D σ H := ⟨M, h, k⟩
/-- comprehensions over range(a, b) -/
theorem el_lcR2 {ta : TA} {t : TT} {j : Nat} {vs : List Nat} {lo hi : Int} {n : Nat} (f : Nat → Bool) (v : Nat → V) (h : EvA ta σ H [.int lo, .int hi]) (hn : 0 ≤ lo ∧ lo ≤ 100000 ∧ -100000 ≤ hi ∧ hi ≤ 100000) (hz : (hi - lo).toNat = n) (hc : n ≤ 40000) (hw : ∀ x, wipe ((wipe σ vs).set j (some x)) vs = wipe σ vs)
    (ht : ∀ (i : Nat) H1, Ex H H1 → i < n → EvT t ((wipe σ vs).set j (some (.int (lo + (i : Int))))) H1 (f i)) (he : ∀ (i : Nat) H1, Ex H H1 → i < n → f i = true → Ev te ((wipe σ vs).set j (some (.int (lo + (i : Int))))) H1 (v i)) :
    EvL (tLc (iRng2 ta) (gName j) t te vs) σ H (given n f v) := fun H0 e Q q => h H0 e _ fun H1 e1 => ⟨lo, hi, rfl, ⟨by omega, by omega, by omega, by omega⟩, fun Dl hD => by
  rw [hz]
  exact lc_range (lo := lo) (n := n) (Cw H1 f v Dl) ⟨hD, Ex.new hD, upd_same⟩ (fun i H' hi p => ⟨hw _, cw_turn p (by omega) (ht i H1 (e.trans e1) hi) (fun hf => he i H1 (e.trans e1) hi hf)⟩) (fun H' p => q Dl H' (fresh_back e1 p.1) (e1.trans p.2.1) p.2.2)⟩
/-! lists of tuples -/
def Tups (H : Hp) : List V → List (List V) → Prop := Paired fun r t => ∃ a, r = V.ref a ∧ H a = some (.tup t)
theorem Tups.mono {H H' : Hp} (e : Ex H H') : ∀ {rs : List V} {ts : List (List V)}, Tups H rs ts → Tups H' rs ts
  | _, _, .nil => .nil
  | _, _, .cons ⟨a, h1, h2⟩ t => .cons ⟨a, h1, e _ _ h2⟩ (Tups.mono e t)
theorem Tups.app {H : Hp} : ∀ {rs qs : List V} {ts us : List (List V)}, Tups H rs ts → Tups H qs us → Tups H (rs ++ qs) (ts ++ us)
  | _, _, _, _, .nil, s => s
  | _, _, _, _, .cons r t, s => .cons r (Tups.app t s)
theorem Tups.len {H : Hp} : ∀ {rs : List V} {ts : List (List V)}, Tups H rs ts → rs.length = ts.length
  | _, _, .nil => rfl
  | _, _, .cons _ t => by rw [List.length_cons, List.length_cons, Tups.len t]
theorem Tups.get {H : Hp} : ∀ {rs : List V} {ts : List (List V)} {i : Nat} {r : V}, Tups H rs ts → rs[i]? = some r → ∃ a t, r = V.ref a ∧ ts[i]? = some t ∧ H a = some (.tup t)
  | _, _, _, _, .nil, h => by simp at h
  | _, _, 0, r, .cons ⟨a, h1, h2⟩ _, h => ⟨a, _, (Option.some.inj h).symm.trans h1, rfl, h2⟩
  | _, _, i + 1, r, .cons _ t, h => Tups.get (i := i) t h
def EvLT (te : TE) (σ : L2.St) (H : Hp) (ts : List (List V)) : Prop := ∀ H1, Ex H H1 → ∀ Q : VK, (∀ p rs H2, H1 p = none → Ex H1 H2 → H2 p = some (.lst rs) → Tups H2 rs ts → Q (.ref p) H2) → te σ H1 Q
def EvAT (ta : TA) (σ : L2.St) (H : Hp) (ts : List (List V)) : Prop := ∀ H1, Ex H H1 → ∀ Q : List V → Hp → Prop, (∀ rs H2, Ex H1 H2 → Tups H2 rs ts → Q rs H2) → ta σ H1 Q
theorem eat_nil : EvAT tNil σ H [] := fun H1 _ _ q => q [] H1 (Ex.refl H1) .nil
theorem eat_cons {tr : TA} {t : List V} {ts : List (List V)} (h : EvU te σ H t) (hr : EvAT tr σ H ts) : EvAT (tCons te tr) σ H (t :: ts) := fun H1 e _ q =>
  h H1 e _ fun p H2 _ e2 hp => hr H2 (e.trans e2) _ fun rs H3 e3 hs => q _ H3 (e2.trans e3) (.cons ⟨p, rfl, e3 _ _ hp⟩ hs)
theorem elt_lst {ta : TA} {ts : List (List V)} (h : EvAT ta σ H ts) (hz : ts.length ≤ 100000) : EvLT (tLst ta) σ H ts := fun H1 e _ q =>
  h H1 e _ fun rs H2 e2 hs => ⟨sz_of (by rw [hs.len]; exact hz), fun p hp => q p rs _ (fresh_back e2 hp) (e2.trans (Ex.new hp)) upd_same (hs.mono (Ex.new hp))⟩
theorem elt_cat {ta tb : TE} {a : Addr} {rs : List V} {ts us : List (List V)} (ha : Ev ta σ H (.ref a)) (h1 : H a = some (.lst rs)) (h2 : Tups H rs ts) (hb : EvLT tb σ H us) (hz : ts.length + us.length ≤ 100000) : EvLT (tOp rCat ta tb) σ H (ts ++ us) := fun H1 e Q q =>
  ha H1 e _ fun H2 e2 => hb H2 (e.trans e2) _ fun p qs H3 _ e3 hp hq => by
    have e03 := (e.trans e2).trans e3
    refine ⟨a, p, rs, qs, rfl, rfl, e03 _ _ h1, hp, sz_of (by rw [h2.len, hq.len]; exact hz), fun l hl => ?_⟩
    exact q l (rs ++ qs) _ (fresh_back (e2.trans e3) hl) ((e2.trans e3).trans (Ex.new hl)) upd_same (((h2.mono e03).app hq).mono (Ex.new hl))
theorem s_asgLT {i : Nat} {ts : List (List V)} (h : EvLT te σ H ts) (k : ∀ p rs H1, H p = none → Ex H H1 → H1 p = some (.lst rs) → Tups H1 rs ts → D.nx (σ.set i (some (.ref p))) H1) : tAsg te (gName i) D σ H := h H (Ex.refl H) _ fun p rs H1 hp e h1 h2 => k p rs H1 hp e h1 h2
theorem q_asgLT {i : Nat} {ts : List (List V)} (h : EvLT te σ H ts) (k : ∀ p rs H1, H p = none → Ex H H1 → H1 p = some (.lst rs) → Tups H1 rs ts → tz D (σ.set i (some (.ref p))) H1) : tSeq (tAsg te (gName i)) tz D σ H := s_asgLT (D := { D with nx := tz D }) h k
/-- for a, b, .. in a list of tuples: H0 is the heap at the first turn -/
theorem s_forTT {ts : List (List V)} {n : Nat} {gs : TGs} (h : EvLT te σ H ts) (hn : ∀ t ∈ ts, t.length = n) (Pv : Hp → Nat → L2.St → Hp → Prop) (h0 : ∀ H0, Ex H H0 → Pv H0 0 σ H0) (hl : ∀ H0 i σ' H', Pv H0 i σ' H' → Ex H0 H')
    (hs : ∀ H0 i t σ' H', Ex H H0 → ts[i]? = some t → Pv H0 i σ' H' → gs t σ' H' fun σ2 H2 => tu { D with nx := Pv H0 (i + 1), ct := Pv H0 (i + 1), bk := D.nx } σ2 H2) (hd : ∀ H0 σ' H', Ex H H0 → Pv H0 ts.length σ' H' → D.nx σ' H') :
    tFor (iList K te) (gTup K n gs) tu D σ H := h H (Ex.refl H) _ fun p rs H1 _ e h1 h2 => ⟨p, rfl, ⟨rs, sq_of h1⟩, for_list (xs := rs) (Pv H1) (h0 H1 e) (fun i σ' H' _ hp => sq_of (hl H1 i σ' H' hp _ _ h1)) (fun i x σ' H' hx hp => by
      obtain ⟨a, t, rfl, ht, ha⟩ := h2.get hx
      exact ⟨a, t, rfl, st_of (hl H1 i σ' H' hp _ _ ha), hn t (List.mem_of_getElem? ht), hs H1 i t σ' H' e ht hp⟩) (fun σ' H' hp => by
      rw [h2.len] at hp
      exact hd H1 σ' H' e hp)⟩
theorem q_forTT {ts : List (List V)} {n : Nat} {gs : TGs} (h : EvLT te σ H ts) (hn : ∀ t ∈ ts, t.length = n) (Pv : Hp → Nat → L2.St → Hp → Prop) (h0 : ∀ H0, Ex H H0 → Pv H0 0 σ H0) (hl : ∀ H0 i σ' H', Pv H0 i σ' H' → Ex H0 H')
    (hs : ∀ H0 i t σ' H', Ex H H0 → ts[i]? = some t → Pv H0 i σ' H' → gs t σ' H' fun σ2 H2 => tu { D with nx := Pv H0 (i + 1), ct := Pv H0 (i + 1), bk := tz D } σ2 H2) (hd : ∀ H0 σ' H', Ex H H0 → Pv H0 ts.length σ' H' → tz D σ' H') :
    tSeq (tFor (iList K te) (gTup K n gs) tu) tz D σ H := s_forTT (D := { D with nx := tz D }) h hn Pv h0 hl hs hd
theorem elt_old {a : Addr} {rs : List V} {ts : List (List V)} (ha : Ev te σ H (.ref a)) (h1 : H a = some (.lst rs)) (h2 : Tups H rs ts) : ∀ H1, Ex H H1 → ∀ Q : VK, (∀ p rs H2, Ex H1 H2 → H2 p = some (.lst rs) → Tups H2 rs ts → Q (.ref p) H2) → te σ H1 Q := fun H1 e Q q =>
  ha H1 e _ fun H2 e2 => q a rs H2 e2 (e2 _ _ (e _ _ h1)) (h2.mono (e.trans e2))
theorem et_yes : EvT tYes σ H true := fun H1 _ _ q => q H1 (Ex.refl H1)
theorem given_all (n : Nat) (v : Nat → V) : given n (fun _ => true) v = (List.range n).map v := by
  unfold given
  rw [List.filter_eq_self.mpr (fun _ _ => rfl)]
end
end Tf

namespace Tf
open PySem PySem.Spec PyProof.Rows L2 Evl
/-! ### more rules: tuples met, data of any depth, rows by their filters -/
section
variable {K : PySem.W.Frag} {σ : L2.St} {H H' : Hp} {ta tb tc te : TE} {x y z v : V} {xs ys : List V} {D : Ends} {tu tz : TS}
def EvW (K : PySem.W.Frag) (te : TE) (σ : L2.St) (H : Hp) (xs : List V) : Prop := ∀ H1, Ex H H1 → ∀ Q : VK, (∀ p H2, Ex H1 H2 → SqT K H2 p xs → Q (.ref p) H2) → te σ H1 Q
theorem ew_new (h : EvU te σ H xs) : EvW K te σ H xs := fun H1 e Q q => h H1 e Q fun p H2 _ e2 hp => q p H2 e2 (st_of hp)
theorem ew_old {a : Addr} (h : Ev te σ H (.ref a)) (hx : H a = some (.tup xs)) : EvW K te σ H xs := fun H1 e Q q => h H1 e Q fun H2 e2 => q a H2 e2 (st_of (e2 _ _ (e _ _ hx)))
theorem ev_ixW {i : Int} (ha : EvW K ta σ H xs) (hb : Ev tb σ H (.int i)) (hv : atI xs i = some v) : Ev (tOp (rIxT K) ta tb) σ H v := fun H1 e _ q =>
  ha H1 e _ fun a H2 e2 hx => hb H2 (e.trans e2) _ fun H3 e3 => ⟨a, xs, i, v, rfl, rfl, ex_t e3 hx, hv, q H3 (e2.trans e3)⟩
theorem ev_lenW (ha : EvW K ta σ H xs) : Ev (tCB (fun zs H Q => ∃ p ys, zs = [.ref p] ∧ (SqL K H p ys ∨ SqT K H p ys) ∧ Q (.int ys.length) H) (tCons ta tNil)) σ H (vi xs.length) := fun H1 e _ q =>
  ha H1 e _ fun a H2 e2 hx => ⟨a, xs, rfl, .inr hx, q H2 e2⟩
theorem ev_isiU {a : Addr} {c : String} {b : Bool} (ha : Ev ta σ H (.ref a)) (hx : H a = some (.tup xs)) (hb : kitB "tuple" c = some b) : Ev (tCB (rIsi K) (tCons ta (tCons (tC (.ty c)) tNil))) σ H (.bl b) :=
  ev_isi ha (fun _ e => .base (.tup (e _ _ hx))) hb
/-- a, b = [..], y -/
theorem q_parL {i j : Nat} (h : EvL ta σ H xs) (h2 : Ev tb σ H y) (k : ∀ p H1, H p = none → Ex H H1 → H1 p = some (.lst xs) → tz D ((σ.set i (some (.ref p))).set j (some y)) H1) : tSeq (tPar i j (tCons ta (tCons tb tNil))) tz D σ H :=
  h H (Ex.refl H) _ fun p H1 np e1 hp => h2 H1 e1 _ fun H2 e2 => ⟨.ref p, y, rfl, k p H2 np (e1.trans e2) (e2 _ _ hp)⟩
/-! data -/
mutual
theorem dp_mono {H H' : Hp} (e : Ex H H') : ∀ {v : V} {d : PyData}, Dp K H v d → Dp K H' v d
  | _, _, .non => .non
  | _, _, .bl b => .bl b
  | _, _, .int i => .int i
  | _, _, .str x => .str x
  | _, _, .lst h a => .lst (ex_l e h) (dpa_mono e a)
  | _, _, .tup h a => .tup (ex_t e h) (dpa_mono e a)
theorem dpa_mono {H H' : Hp} (e : Ex H H') : ∀ {vs : List V} {ds : List PyData}, DpAll K H vs ds → DpAll K H' vs ds
  | _, _, .nil => .nil
  | _, _, .cons h a => .cons (dp_mono e h) (dpa_mono e a)
end
def EvD (K : PySem.W.Frag) (te : TE) (σ : L2.St) (H : Hp) (d : PyData) : Prop := ∀ H1, Ex H H1 → ∀ Q : VK, (∀ v H2, Ex H1 H2 → Dp K H2 v d → Q v H2) → te σ H1 Q
def EvDA (K : PySem.W.Frag) (ta : TA) (σ : L2.St) (H : Hp) (ds : List PyData) : Prop := ∀ H1, Ex H H1 → ∀ Q : List V → Hp → Prop, (∀ vs H2, Ex H1 H2 → DpAll K H2 vs ds → Q vs H2) → ta σ H1 Q
theorem dpa_len : ∀ {vs : List V} {ds : List PyData}, DpAll K H vs ds → vs.length = ds.length
  | _, _, .nil => rfl
  | _, _, .cons _ a => by rw [List.length_cons, List.length_cons, dpa_len a]
theorem ed_v {d : PyData} (h : Ev te σ H v) (hd : ∀ H1, Ex H H1 → Dp K H1 v d) : EvD K te σ H d := fun H1 e Q q => h H1 e Q fun H2 e2 => q v H2 e2 (hd H2 (e.trans e2))
theorem ed_int {i : Int} (h : Ev te σ H (.int i)) : EvD K te σ H (.int i) := ed_v h fun _ _ => .int i
theorem ed_bl {b : Bool} (h : Ev te σ H (.bl b)) : EvD K te σ H (.bool b) := ed_v h fun _ _ => .bl b
theorem ed_non (h : Ev te σ H .non) : EvD K te σ H .none := ed_v h fun _ _ => .non
theorem ed_q {ds : List PyData} (h : EvQ K te σ H xs) (hd : ∀ H1, Ex H H1 → DpAll K H1 xs ds) : EvD K te σ H (.list ds) := fun H1 e Q q => h H1 e Q fun p H2 e2 hp => q _ H2 e2 (.lst hp (hd H2 (e.trans e2)))
theorem ed_w {ds : List PyData} (h : EvW K te σ H xs) (hd : ∀ H1, Ex H H1 → DpAll K H1 xs ds) : EvD K te σ H (.tuple ds) := fun H1 e Q q => h H1 e Q fun p H2 e2 hp => q _ H2 e2 (.tup hp (hd H2 (e.trans e2)))
theorem eda_nil : EvDA K tNil σ H [] := fun H1 _ _ q => q [] H1 (Ex.refl H1) .nil
theorem eda_cons {tr : TA} {d : PyData} {ds : List PyData} (h : EvD K te σ H d) (hr : EvDA K tr σ H ds) : EvDA K (tCons te tr) σ H (d :: ds) := fun H1 e _ q =>
  h H1 e _ fun v H2 e2 hv => hr H2 (e.trans e2) _ fun vs H3 e3 hs => q _ H3 (e2.trans e3) (.cons (dp_mono e3 hv) hs)
theorem ed_lst {ta : TA} {ds : List PyData} (h : EvDA K ta σ H ds) (hz : ds.length ≤ 100000) : EvD K (tLst ta) σ H (.list ds) := fun H1 e _ q =>
  h H1 e _ fun vs H2 e2 hs => ⟨sz_of (by rw [dpa_len hs]; exact hz), fun p hp => q _ _ (e2.trans (Ex.new hp)) (.lst (sq_of upd_same) (dpa_mono (Ex.new hp) hs))⟩
theorem ed_tup {ta : TA} {ds : List PyData} (h : EvDA K ta σ H ds) (hz : ds.length ≤ 100000) : EvD K (tTup ta) σ H (.tuple ds) := fun H1 e _ q =>
  h H1 e _ fun vs H2 e2 hs => ⟨sz_of (by rw [dpa_len hs]; exact hz), fun p hp => q _ _ (e2.trans (Ex.new hp)) (.tup (st_of upd_same) (dpa_mono (Ex.new hp) hs))⟩
theorem ev_eqD {d e : PyData} {b : Bool} (ha : EvD K ta σ H d) (hb : EvD K tb σ H e) (h1 : SeqAt.shaped d = true) (h2 : SeqAt.shaped e = true) (h : PyData.eqv d e = b) : Ev (tOp (rEqD K) ta tb) σ H (.bl b) := fun H1 e1 Q q =>
  ha H1 e1 _ fun v H2 e2 hv => hb H2 (e1.trans e2) _ fun u H3 e3 hu => ⟨d, e, dp_mono e3 hv, hu, h1, h2, by rw [h]; exact q H3 (e2.trans e3)⟩
theorem ev_neD {d e : PyData} {b : Bool} (ha : EvD K ta σ H d) (hb : EvD K tb σ H e) (h1 : SeqAt.shaped d = true) (h2 : SeqAt.shaped e = true) (h : PyData.eqv d e = b) : Ev (tOp (rNeD K) ta tb) σ H (.bl (!b)) := fun H1 e1 Q q =>
  ha H1 e1 _ fun v H2 e2 hv => hb H2 (e1.trans e2) _ fun u H3 e3 hu => ⟨d, e, dp_mono e3 hv, hu, h1, h2, by rw [h]; exact q H3 (e2.trans e3)⟩
/-! a pair of ints -/
theorem dp_pair {i j : Int} : DpAll K H [.int i, .int j] [.int i, .int j] := .cons (.int i) (.cons (.int j) .nil)
theorem ev_eqP {i j i' j' : Int} (ha : EvW K ta σ H [.int i, .int j]) (hb : EvW K tb σ H [.int i', .int j']) : Ev (tOp (rEqD K) ta tb) σ H (.bl (decide (i = i') && decide (j = j'))) := by
  refine ev_eqD (ed_w ha fun _ _ => dp_pair) (ed_w hb fun _ _ => dp_pair) ?_ ?_ ?_
  · simp [SeqAt.shaped, PyData.canLay0, PyData.canLayAll0, PyData.depth, PyData.depthAll]
  · simp [SeqAt.shaped, PyData.canLay0, PyData.canLayAll0, PyData.depth, PyData.depthAll]
  · by_cases h1 : i = i' <;> by_cases h2 : j = j' <;> simp [PyData.eqv, PyData.eqvAll, h1, h2]
/-! rows by a filter -/
theorem getD_range (ns : List Nat) : (List.range ns.length).map (fun i => ns.getD i 0) = ns := by
  apply List.ext_getElem
  · rw [List.length_map, List.length_range]
  · intro i h1 h2
    rw [List.getElem_map, List.getElem_range]
    simp [h2]
theorem getD_of {ns : List Nat} {i d : Nat} (h : ns[i]? = some d) : ns.getD i 0 = d := by
  rw [List.getD_eq_getElem?_getD, h]
  rfl
theorem given_filter (ns : List Nat) (p : Nat → Bool) : given (vl ns).length (fun i => p (ns.getD i 0)) (fun i => vi (ns.getD i 0)) = vl (ns.filter p) := by
  unfold given
  rw [List.length_map]
  show _ = (ns.filter p).map vi
  conv => rhs; rw [← getD_range ns, List.filter_map, List.map_map]
  rfl
theorem given_map (ns : List Nat) (g : Nat → V) : given (vl ns).length (fun _ => true) (fun i => g (ns.getD i 0)) = ns.map g := by
  rw [given_all, List.length_map]
  conv => rhs; rw [← getD_range ns, List.map_map]
  rfl
end
end Tf
namespace Tf
open PySem PySem.Spec PyProof.Rows L2 Evl
section
variable {K : PySem.W.Frag} {σ : L2.St} {H H' : Hp} {ta : TA} {te : TE} {x y z v : V} {xs ys : List V} {D : Ends} {tu tz : TS}
/-- a, b = x, y where one of the names is a cell: a tuple is made -/
theorem q_unp {i j : Nat} (h : EvA ta σ H [x, y]) (k : ∀ H1, Ex H H1 → tz D ((σ.set i (some x)).set j (some y)) H1) : tSeq (tAsg (tTup ta) (gTup K 2 (gCons (gName i) (gCons (gName j) gNil)))) tz D σ H :=
  h H (Ex.refl H) _ fun H1 e1 => ⟨sz_of (show 2 ≤ 100000 by decide), fun p hp => ⟨p, [x, y], rfl, st_of upd_same, rfl, x, [y], rfl, y, [], rfl, rfl, k _ (e1.trans (Ex.new hp))⟩⟩
end
end Tf

namespace Tf
open PySem PySem.Spec PyProof.Rows L2 Evl
/-! ### objects -/
section
variable {X : Cx} {C : Addr} {x : Str} {p pos : Pos}
/-- a choice of two readings of one expression -/
def tEi (t u : TE) : TE := fun σ H Q => t σ H Q ∨ u σ H Q
theorem pe_ei {e : Expr} {t u : TE} (h : PE X e t) (g : PE X e u) : PE X e (tEi t u) := ⟨fun pins s σ H Q I q => q.elim (h.run pins s σ H Q I) (g.run pins s σ H Q I)⟩
/-- C() of a class that has no __init__ of its own -/
structure Bare (K : PySem.W.Frag) (C : Addr) : Prop where
  makes : PySem.W.makesIn K C = true
  init : PySem.W.findIn K (.ref C) "__init__" = some (some (.builtin "object.__init__"))
  top : PySem.W.mroIn K C (.type "object") = some true
  kp : PySem.W.keepIn K (.ref C) = true
def tBare (C : Addr) : TE := fun _ H Q => ∀ x dx, H x = none → H dx = none → dx ≠ x → Q (.ref x) (upd (upd H dx (.own x)) x (.ins C dx []))
theorem run_bare {pins : List (Addr × Obj)} {σ : L2.St} {H : Hp} {s : Shared} {Q : VK} (B : Bare X.K C) (I : Inv X pins σ H s) (h : tBare C σ H Q) : wpAny (model X.prog X.w) X.A (call (.ref C) []) (EP X pins σ Q) X.xe s := by
  have hq := h (s.heap.objs.size + 1) s.heap.objs.size (I.hok.fresh (Nat.le_succ _)) (I.hok.fresh (Nat.le_refl _)) (Nat.ne_of_lt (Nat.lt_succ_self _))
  have J := Inv.made (C := C) I
  have at1 : ((s.heap.push PySem.W.emptyDict).push (PySem.W.instObj C s.heap.objs.size)).get? (s.heap.objs.size + 1) = some (PySem.W.instObj C s.heap.objs.size) := by
    have z := Heap.get?_push_size (s.heap.push PySem.W.emptyDict) (o := PySem.W.instObj C s.heap.objs.size) rfl
    rwa [Heap.size_push] at z
  have t1 : PySem.W.Looks (model X.prog X.w) ((s.heap.push PySem.W.emptyDict).push (PySem.W.instObj C s.heap.objs.size)) (typeOf (.ref (s.heap.objs.size + 1))) (.ref C) := NwA.type_at at1 rfl
  have t2 : PySem.W.Looks (model X.prog X.w) ((s.heap.push PySem.W.emptyDict).push (PySem.W.instObj C s.heap.objs.size)) (isInstance (.ref (s.heap.objs.size + 1)) (.type "object")) true := t1.andThen (PySem.W.looks_mroIn J.kIn B.top)
  refine wpAny_call (make_map0 I.kIn B.makes B.init (fun self => PySem.W.Looks.of_pure (PySem.W.oi_bind self)) ?_)
  refine codeAny_call_builtin PySem.W.oi_plain PySem.W.entry_oi (PySem.W.check_slot PySem.W.oi_kind PySem.W.oi_split t2 (NwA.oi_args_any _ [] []) ?_)
  rw [PySem.W.oi_run]
  exact wpAny_pure ⟨rfl, V.ref (s.heap.objs.size + 1), _, J, rfl, hq⟩
theorem pe_bare (B : Bare X.K C) (hg : Gl X x) (hm : X.mg x = some (.ref C)) (hdb : (x == ("__debug__" : Str)) = false := by decide) : PE X (.Call (.Name x p) [] [] pos) (tBare C) :=
  ⟨fun _ _ _ _ _ I h => wpAny_Call_Name_kw (ld_glob I hg hm (PySem.W.callWith_K0 I.kIn B.kp (run_bare B I h)) hdb)⟩
end
section
variable {K : PySem.W.Frag} {σ : L2.St} {H H' : Hp} {ta tb te : TE} {t : TA} {x y z v : V} {vs xs ys : List V} {D : Ends} {tu tz : TS} {C C' : Addr} {fs : List (Str × V)}
theorem ev_l (h : Ev ta σ H v) : Ev (tEi ta tb) σ H v := fun H1 e Q q => .inl (h H1 e Q q)
theorem ev_r (h : Ev tb σ H v) : Ev (tEi ta tb) σ H v := fun H1 e Q q => .inr (h H1 e Q q)
/-- a new instance -/
def EvI (te : TE) (σ : L2.St) (H : Hp) (C : Addr) (fs : List (Str × V)) : Prop := ∀ H1, Ex H H1 → ∀ Q : VK, (∀ p dx H2, H1 p = none → Ex H1 H2 → H2 p = some (.ins C dx fs) → Q (.ref p) H2) → te σ H1 Q
/-- an instance met -/
def EvJ (te : TE) (σ : L2.St) (H : Hp) (C : Addr) (fs : List (Str × V)) : Prop := ∀ H1, Ex H H1 → ∀ Q : VK, (∀ p dx H2, Ex H1 H2 → H2 p = some (.ins C dx fs) → Q (.ref p) H2) → te σ H1 Q
theorem ej_new (h : EvI te σ H C fs) : EvJ te σ H C fs := fun H1 e Q q => h H1 e Q fun p dx H2 _ e2 hp => q p dx H2 e2 hp
theorem ej_old {a dx : Addr} (h : Ev te σ H (.ref a)) (hx : H a = some (.ins C dx fs)) : EvJ te σ H C fs := fun H1 e Q q => h H1 e Q fun H2 e2 => q a dx H2 e2 (e2 _ _ (e _ _ hx))
theorem ei_bare : EvI (tBare C) σ H C [] := fun H1 _ Q q x dx nx ndx ne => q x dx _ nx ((Ex.new ndx).trans (Ex.new (by rw [upd_ne (Ne.symm ne)]; exact nx))) upd_same
/-- what an __init__ that stores its one argument promises -/
def spInit1 (C : Addr) (f : Str) : Sp := fun vs H Q _ => ∃ (p dx : Addr) (v : V), vs = [.ref p, v] ∧ H p = some (.ins C dx []) ∧ Q .non (upd H p (.ins C dx [(f, v)]))
theorem ei_make {f : Str} (h : Ev ta σ H v) : EvI (tMake C (spInit1 C f) [] E0 (tCons ta tNil)) σ H C [(f, v)] := fun H1 e Q q => h H1 e _ fun H2 e2 x dx nx ndx ne => by
  refine ⟨x, dx, v, rfl, upd_same, rfl, q x dx _ (fresh_back e2 nx) ?_ upd_same⟩
  exact Ex.mut (Ex.mut (Ex.trans e2 (Ex.new ndx)) (fresh_back e2 nx)) (fresh_back e2 nx)
theorem ev_methJ {m : Str} {R : List V → Hp → V → Prop} (h : EvJ te σ H C fs) (hl : fs.lookup m = none) (ha : EvA t σ H vs) (hR : ∀ p dx H1, Ex H H1 → H1 p = some (.ins C dx fs) → R (.ref p :: vs) H1 v) : Ev (tMeth C m (spV R) [] E0 te t) σ H v := fun H1 e Q q =>
  h H1 e _ fun p dx H2 e2 hp => ⟨p, dx, fs, rfl, hp, hl, ha H2 (e.trans e2) _ fun H3 e3 => ⟨v, by rw [List.append_nil]; exact hR p dx H3 ((e.trans e2).trans e3) (e3 _ _ hp), fun H4 e4 => q H4 ((e2.trans e3).trans e4)⟩⟩
theorem ev_fldJ {f : Str} (h : EvJ te σ H C fs) (c : Cls K C) (n : NoAttr K C f) (hl : fs.lookup f = some v) : Ev (tFld K te f) σ H v := fun H1 e Q q => h H1 e _ fun p dx H2 e2 hp => ⟨p, C, dx, fs, v, rfl, hp, c, n, hl, q H2 e2⟩
/-- the facts of a class -/
structure Kls (K : PySem.W.Frag) (mg : Str → Option Value) (x : Str) (C : Addr) : Prop where
  g : mg x = some (.ref C)
  cl : Cls K C
  ha : PySem.W.findIn K (.ref C) "__class__" = some (some (.builtin "object.__class__"))
  hn : PySem.W.specialIn K (.builtin "object.__class__") "__get__" = some (some (.builtin "getset_descriptor.__get__"))
  htk : PySem.W.takesIn K (.builtin "object.__class__") = some true
  hm : PySem.W.mroIn K C (.type "object") = some true
theorem Kls.ty {mg : Str → Option Value} {n : Str} {a dx : Addr} (k : Kls K mg n C) (h : H a = some (.ins C dx fs)) : TyX K H (.ref a) (.ref C) := .base (.ins h k.cl k.ha k.hn k.htk k.hm)
theorem ev_isiJ {mg : Str → Option Value} {n : Str} {b : Bool} (h : EvJ te σ H C fs) (k : Kls K mg n C) (hb : PySem.W.kitOne K (.ref C) (.ref C') = some b) : Ev (tCB (rIsi K) (tCons te (tCons (tC (.ref C')) tNil))) σ H (.bl b) := fun H1 e _ q =>
  h H1 e _ fun p dx H2 e2 hp => ⟨.ref p, .ref C', _, _, b, rfl, .own C', k.ty hp, hb, q H2 e2⟩
theorem q_asgI {i : Nat} (h : EvI te σ H C fs) (k : ∀ p dx H1, H p = none → Ex H H1 → H1 p = some (.ins C dx fs) → tz D (σ.set i (some (.ref p))) H1) : tSeq (tAsg te (gName i)) tz D σ H := h H (Ex.refl H) _ fun p dx H1 hp e h1 => k p dx H1 hp e h1
theorem s_retI (h : EvI te σ H C fs) (k : ∀ p dx H1, H p = none → Ex H H1 → H1 p = some (.ins C dx fs) → D.rt (.ref p) H1) : tRet te D σ H := h H (Ex.refl H) _ k
/-- is of a truth -/
theorem ev_orL (h : Ev ta σ H v) : Ev (tEi ta tb) σ H v := ev_l h
end
end Tf
namespace Tf
open PySem PySem.Spec PyProof.Rows L2 Evl
/-! a method, a class that is made, by their promises -/
structure HasM (P : Program) (w : World) (K : PySem.W.Frag) (mg : Str → Option Value) (base : Heap) (C : Addr) (m : Str) (ps : List Str) (k : Nat) (sp : Sp) : Prop where
  ex : ∃ (f : Addr) (fd : FuncData), Meth K C m f ∧ Binds K fd ps [] ∧ FnOk P w K mg base CX0 k f fd ps sp
  cl : Cls K C
theorem pe_mth {X : Cx} {C : Addr} {m : Str} {ps : List Str} {j k : Nat} {sp : Sp} {apos pos : Pos} {o e : Expr} {es : List Expr} {ta : TE} {t : TA} {pl : Sem Bool} (h : HasM X.prog X.w X.K X.mg X.base C m ps k sp) (hr : Room j X.A) (he : PE X o ta) (ha : PA X (e :: es) t) (hk : k ≤ j := by decide)
    (hst : starEach (e :: es) X.env = (false, eval e X.env) :: starEach es X.env := by rfl) (hpl : (backTo pos (starEach es X.env)).any (·.1) = false := by rfl)
    (ht : eval (.Call (.Attribute o m apos) (e :: es) [] pos) X.env = (do
      let ov ← eval o X.env
      standAt apos.atName
      let (f, first) ← holding [ov] (getMethod ov m pl)
      callWith pos f first (backTo pos (starEach (e :: es) X.env)) (backToKw pos (keywordEach [] X.env))) := by rfl) : PE X (.Call (.Attribute o m apos) (e :: es) [] pos) (tMeth C m sp [] E0 ta t) := by
  obtain ⟨f, fd, me, b, F⟩ := h.ex
  exact pe_meth he h.cl me F (hr.mono hk) b .nil pass0 ha hst hpl ht
structure HasMk (P : Program) (w : World) (K : PySem.W.Frag) (mg : Str → Option Value) (base : Heap) (x : Str) (C : Addr) (ps : List Str) (k : Nat) (sp : Sp) : Prop where
  ex : ∃ (f : Addr) (fd : FuncData), Mk K C f ∧ Binds K fd ps [] ∧ FnOk P w K mg base CX0 k f fd ps sp
  g : mg x = some (.ref C)
theorem pe_mk {X : Cx} {x : Str} {C : Addr} {ps : List Str} {j k : Nat} {sp : Sp} {p pos : Pos} {e : Expr} {es : List Expr} {t : TA} (h : HasMk X.prog X.w X.K X.mg X.base x C ps k sp) (hr : Room j X.A) (hg : Gl X x) (ha : PA X (e :: es) t) (hk : k + 1 ≤ j := by decide)
    (hdb : (x == ("__debug__" : Str)) = false := by decide) (he : starEach (e :: es) X.env = (false, eval e X.env) :: starEach es X.env := by rfl) (hpl : (backTo pos (starEach es X.env)).any (·.1) = false := by rfl) : PE X (.Call (.Name x p) (e :: es) [] pos) (tMake C sp [] E0 t) := by
  obtain ⟨f, fd, M, b, F⟩ := h.ex
  exact pe_make M F (hr.mono hk) hg h.g b .nil pass0 ha hdb he hpl
section
variable {K : PySem.W.Frag} {σ : L2.St} {H H' : Hp} {ta tb te : TE} {t : TA} {x y z v : V} {vs xs ys : List V} {C C' : Addr} {fs : List (Str × V)}
theorem ev_min {ns : List Nat} {m : Nat} (h : EvQ K ta σ H (vl ns)) (hm : m ∈ ns) (hl : ∀ y ∈ ns, m ≤ y) : Ev (tCB (rMin K) (tCons ta tNil)) σ H (vi m) := fun H1 e Q q =>
  h H1 e _ fun a H2 e2 hx => by
    rw [vl_ints] at hx
    refine ⟨a, _, rfl, hx, ?_, fun k hk hle => ?_⟩
    · rw [List.length_map]
      exact List.length_pos_of_mem hm
    · obtain ⟨n, hn, rfl⟩ := List.mem_map.mp hk
      have h1 := hl n hn
      have h2 := hle _ (List.mem_map.mpr ⟨m, hm, rfl⟩)
      have e3 : n = m := by omega
      rw [e3]
      exact q H2 e2
theorem ev_index {j : Nat} (h : EvQ K ta σ H xs) (hb : Ev tb σ H y) (fy : flatV y = true) (fx : xs.all flatV = true) (hj : xs[j]? = some z) (hz : eqV z y = true) (hno : ∀ (m : Nat) (z' : V), m < j → xs[m]? = some z' → eqV z' y = false) :
    Ev (tBM K "list" (rIndex K) ta (tCons tb tNil)) σ H (vi j) := fun H1 e Q q => h H1 e _ fun a H2 e2 hx => ⟨Or.inl ⟨rfl, xs, hx⟩, hb H2 (e.trans e2) _ fun H3 e3 => ⟨a, xs, y, j, z, rfl, rfl, ex_l e3 hx, fy, fx, hj, hz, hno, q H3 (e2.trans e3)⟩⟩
theorem rv_notB {a b : Bool} : RV rNotB (.bl a) (.bl b) H (.bl (!decide (a = b))) := fun H1 _ _ q => ⟨a, b, rfl, rfl, q H1 (Ex.refl H1)⟩
theorem rv_isB {a b : Bool} : RV rIsB (.bl a) (.bl b) H (.bl (decide (a = b))) := fun H1 _ _ q => ⟨a, b, rfl, rfl, q H1 (Ex.refl H1)⟩
def RetI (C : Addr) (fs : List (Str × V)) (H : Hp) (Q : VK) : Prop := ∀ p dx H2, H p = none → Ex H H2 → H2 p = some (.ins C dx fs) → Q (.ref p) H2
theorem ei_call {sp : Sp} (h : EvA t σ H vs) (hs : ∀ H1 Q E, Ex H H1 → RetI C fs H1 Q → sp vs H1 Q E) : EvI (tCall sp [] E0 t) σ H C fs := fun H1 e Q q =>
  h H1 e _ fun H2 e2 => by
    rw [List.append_nil]
    exact hs H2 Q E0 (e.trans e2) fun p dx H3 hp e3 h3 => q p dx H3 (fresh_back e2 hp) (e2.trans e3) h3
end
end Tf
namespace Tf
open PySem PySem.Spec PyProof.Rows L2 Evl
structure Kits (K : PySem.W.Frag) (CA CT CN : Addr) : Prop where
  ta : PySem.W.kitOne K (.ref CT) (.ref CA) = some true
  na : PySem.W.kitOne K (.ref CN) (.ref CA) = some true
  tt : PySem.W.kitOne K (.ref CT) (.ref CT) = some true
  tn : PySem.W.kitOne K (.ref CT) (.ref CN) = some false
  nt : PySem.W.kitOne K (.ref CN) (.ref CT) = some false
  nn : PySem.W.kitOne K (.ref CN) (.ref CN) = some true
theorem shaped_bb (a b : Bool) : SeqAt.shaped (.list [.bool a, .bool b]) = true := by
  simp [SeqAt.shaped, PyData.canLay0, PyData.canLayAll0, PyData.depth, PyData.depthAll]
theorem eqv_bb (a b c d : Bool) : PyData.eqv (.list [.bool a, .bool b]) (.list [.bool c, .bool d]) = (decide (a = c) && decide (b = d)) := by
  cases a <;> cases b <;> cases c <;> cases d <;> simp [PyData.eqv, PyData.eqvAll]
theorem int_lt {x : Nat} (h : x < 2 ^ 50000) : ((x : Nat) : Int) < 2 ^ 50000 := by exact_mod_cast h
end Tf
namespace Tf
open PySem PySem.Spec PyProof.Rows L2 Evl
theorem kit_by {K : PySem.W.Frag} {C D : Addr} {v : Bool} (h1 : PySem.W.isClsIn K D = true) (h2 : PySem.W.typeIn K (.ref D) = some (.type "type")) (h3 : PySem.W.subIn K (.ref C) (.ref D) = some v) (h4 : C = D → v = true) : PySem.W.kitOne K (.ref C) (.ref D) = some v := by
  unfold PySem.W.kitOne
  split
  · rename_i h
    have e : Value.ref C = Value.ref D := eq_of_beq h
    rw [h4 (Value.ref.inj e)]
  · have e1 : (PySem.W.clsIn K D).isSome = true := h1
    show (if ((PySem.W.clsIn K D).isSome && PySem.W.typeIn K (.ref D) == some (.type "type")) = true then PySem.W.subIn K (.ref C) (.ref D) else none) = some v
    rw [e1, h2, if_pos (by rfl)]
    exact h3
theorem kits_by {K : PySem.W.Frag} {CA CT CN : Addr} (iA : PySem.W.isClsIn K CA = true) (iT : PySem.W.isClsIn K CT = true) (iN : PySem.W.isClsIn K CN = true) (yA : PySem.W.typeIn K (.ref CA) = some (.type "type")) (yT : PySem.W.typeIn K (.ref CT) = some (.type "type")) (yN : PySem.W.typeIn K (.ref CN) = some (.type "type"))
    (ta : PySem.W.subIn K (.ref CT) (.ref CA) = some true) (na : PySem.W.subIn K (.ref CN) (.ref CA) = some true) (tt : PySem.W.subIn K (.ref CT) (.ref CT) = some true) (tn : PySem.W.subIn K (.ref CT) (.ref CN) = some false) (nt : PySem.W.subIn K (.ref CN) (.ref CT) = some false) (nn : PySem.W.subIn K (.ref CN) (.ref CN) = some true) : Kits K CA CT CN := by
  have ne : CT ≠ CN := fun e => by
    rw [e, nn] at tn
    cases tn
  exact ⟨kit_by iA yA ta fun _ => rfl, kit_by iA yA na fun _ => rfl, kit_by iT yT tt fun _ => rfl, kit_by iN yN tn fun e => absurd e ne, kit_by iT yT nt fun e => absurd e.symm ne, kit_by iN yN nn fun _ => rfl⟩
end Tf
namespace Tf
open PySem PySem.Spec PyProof.Rows L2 Evl
section
variable {K : PySem.W.Frag} {σ : L2.St} {H : Hp} {ta te : TE} {xs ys : List V} {D : Ends} {tz : TS}
/-- xs.extend([..]) -/
theorem q_ext {l : Addr} (hl : H l = some (.lst xs)) (ha : Ev ta σ H (.ref l)) (h : EvL te σ H ys) (hz : xs.length + ys.length ≤ 100000) (k : ∀ H1, Ex H H1 → tz D σ (upd H1 l (.lst (xs ++ ys)))) : tSeq (tDrop (tBM K "list" rExtend ta (tCons te tNil))) tz D σ H :=
  ha H (Ex.refl H) _ fun H1 e1 => ⟨Or.inl ⟨rfl, xs, sq_of (e1 _ _ hl)⟩, h H1 e1 _ fun p H2 _ e2 hp => ⟨l, p, xs, ys, rfl, rfl, e2 _ _ (e1 _ _ hl), hp, sz_of hz, k H2 (e1.trans e2)⟩⟩
end
end Tf

namespace Tf
open PySem PySem.Spec PyProof.Rows L2 Evl
def topS (i : Nat) : Stmt := PySem.Challenge.pw_turnfigures_k06_by_hand.main.body.getD i (.Pass ⟨0, 0, 0, 0⟩)
/-- names that are still the built-in ones -/
structure Nm (mg : Str → Option Value) : Prop where
  n_isinstance : mg "isinstance" = none
  n_int : mg "int" = none
  n_bool : mg "bool" = none
  n_str : mg "str" = none
  n_min : mg "min" = none
  n_any : mg "any" = none
  n_abs : mg "abs" = none
  n_sum : mg "sum" = none
  n_range : mg "range" = none
  n_enumerate : mg "enumerate" = none
  n_len : mg "len" = none
  n_ValueError : mg "ValueError" = none
end Tf

namespace Tf
open PySem PySem.Spec PyProof.Rows L2 Evl
/-! ### texts of sides -/
def sd (fr : Bool) : Str := if fr then "front" else "behind"
abbrev vs' (fr : Bool) : V := .str (sd fr)
theorem sd_eq (fr : Bool) : decide (V.str (sd fr) = V.str "front") = fr := by
  cases fr <;> decide +kernel
theorem tyx_mono {K : PySem.W.Frag} {H H' : Hp} {x : V} {t : Value} (e : Ex H H') (h : TyX K H x t) : TyX K H' x t := by
  cases h with
  | base h =>
    cases h with
    | non => exact .base .non
    | bl x => exact .base (.bl x)
    | int i => exact .base (.int i)
    | str x => exact .base (.str x)
    | flt x => exact .base (.flt x)
    | lst h => exact .base (.lst (e _ _ h))
    | frz h => exact .base (.frz (e _ _ h))
    | tup h => exact .base (.tup (e _ _ h))
    | dK h => exact .base (.dK (e _ _ h))
    | dT h => exact .base (.dT (e _ _ h))
    | ins h a b c d f => exact .base (.ins (e _ _ h) a b c d f)
  | byt b => exact .byt b
  | set h => exact .set (e _ _ h)
  | kList h c => exact .kList h c
  | kTuple h c => exact .kTuple h c
  | kDict h c => exact .kDict h c
  | fTuple h => exact .fTuple (e _ _ h)
  | fDict h => exact .fDict (e _ _ h)
section
variable {P : Program} {w : World} {K : PySem.W.Frag} {mg : Str → Option Value} {base : Heap}
def R_is_whole (K : PySem.W.Frag) : List V → Hp → V → Prop := fun vs H v => ∃ (x : V) (t : String) (b c : Bool), vs = [x] ∧ TyX K H x (.type t) ∧ kitB t "int" = some b ∧ kitB t "bool" = some c ∧ v = .bl (b && !c)
theorem r_whole {K : PySem.W.Frag} {H : Hp} (i : Int) : R_is_whole K [.int i] H (.bl true) := ⟨.int i, "int", true, false, rfl, .base (.int i), by decide +kernel, by decide +kernel, rfl⟩
abbrev s_is_whole : Stmt := topS 8
abbrev N_is_whole : List Str := ["thing"]
abbrev P_is_whole : List Str := ["thing"]
theorem sc_is_whole : FnScope N_is_whole P_is_whole (defScope s_is_whole) := ⟨rfl, rfl, rfl, by decide +kernel, rfl, by decide +kernel, by decide +kernel⟩

theorem ok_is_whole {f : Addr} {fd : FuncData} (T : Nm mg) (F : Fun K "is_whole" "is_whole" s_is_whole f fd) : FnOk P w K mg base CX0 1 f fd P_is_whole (spV (R_is_whole K)) := by
  refine F.ok sc_is_whole (fun vs H Q E h => ?_) (fun cdv A outer s H vs Q E hr h => ?_)
  · obtain ⟨v, ⟨x, t, b, c, rfl, _⟩, _⟩ := h
    rfl
  · obtain ⟨v, ⟨x, t, b, c, rfl, hx, hb, hc, rfl⟩, k⟩ := h
    refine ⟨_, (pss_one (ps_ret (pe_and (pe_callB call_isi (by rfl) T.n_isinstance (by decide +kernel) (pa_cons (pv 0) (pa_cons (pe_bltn (v := .ty "int") (by rfl) T.n_int (by decide +kernel) rfl) pa_nil))) (pe_one (pe_not (pe_callB call_isi (by rfl) T.n_isinstance (by decide +kernel) (pa_cons (pv 0) (pa_cons (pe_bltn (v := .ty "bool") (by rfl) T.n_bool (by decide +kernel) rfl) pa_nil)))))))), ?_⟩
    refine s_ret (ev_andV (ev_isi (ev_var rfl) (fun H1 e => tyx_mono e hx) hb) fun _ => ev_notV (ev_isi (ev_var rfl) (fun H1 e => tyx_mono e hx) hc)) k
def R_asked_base : List V → Hp → V → Prop := fun vs _ v => ∃ b : Nat, vs = [vi b] ∧ 3 ≤ b ∧ b ≤ 36 ∧ v = .non
abbrev s_asked_base : Stmt := topS 9
abbrev N_asked_base : List Str := ["base"]
abbrev P_asked_base : List Str := ["base"]
theorem sc_asked_base : FnScope N_asked_base P_asked_base (defScope s_asked_base) := ⟨rfl, rfl, rfl, by decide +kernel, rfl, by decide +kernel, by decide +kernel⟩

theorem ok_asked_base {f : Addr} {fd : FuncData} (F : Fun K "asked_base" "asked_base" s_asked_base f fd) (h_is_whole : Has P w K mg base "is_whole" P_is_whole 1 (spV (R_is_whole K))) : FnOk P w K mg base CX0 2 f fd P_asked_base (spV R_asked_base) := by
  refine F.ok sc_asked_base (fun vs H Q E h => ?_) (fun cdv A outer s H vs Q E hr h => ?_)
  · obtain ⟨v, ⟨b, rfl, _⟩, _⟩ := h
    rfl
  · obtain ⟨v, ⟨b, rfl, h1, h2, rfl⟩, k⟩ := h
    refine ⟨_, (pss_one (ps_if (PW.pt (pw_or (pt_not (pt_val (pe_fn h_is_whole hr (by rfl) (pa_cons (pv 0) pa_nil)))) (pw_or1 (pt_not (pt_chain op_le op_le pe_int (pv 0) pe_int))))) (pss_one ps_never) pss_nil)), ?_⟩
    refine s_when (b := false) (et_is (et_or (et_not (et_B (ev_fn (ea_cons (ev_var rfl) ea_nil) fun _ _ => r_whole _))) fun _ => et_not (et_test (ev_chain ev_c (ev_var rfl) rv_I0 ev_c rv_I0))) ?_) (fun z => nomatch z) (fun _ H1 e1 => k H1 e1)
    have a1 : decide ((3 : Int) ≤ (b : Int)) = true := decide_eq_true (by omega)
    have a2 : decide ((b : Int) ≤ (36 : Int)) = true := decide_eq_true (by omega)
    rw [a1, a2]
    rfl
def R_asked_number : List V → Hp → V → Prop := fun vs _ v => ∃ n : Nat, vs = [vi n] ∧ 1 ≤ n ∧ v = .non
def R_asked_side : List V → Hp → V → Prop := fun vs _ v => ∃ fr : Bool, vs = [vs' fr] ∧ v = .non
/-- the module's SIDES -/
structure Sides (K : PySem.W.Frag) (mg : Str → Option Value) (a : Addr) : Prop where
  g : mg "SIDES" = some (.ref a)
  t : ∀ H : Hp, SqT K H a [.str "front", .str "behind"]
theorem in_sides (fr : Bool) : inV (.str (sd fr)) [.str "front", .str "behind"] = true := by
  cases fr <;> decide +kernel
abbrev s_asked_side : Stmt := topS 10
abbrev N_asked_side : List Str := ["side"]
abbrev P_asked_side : List Str := ["side"]
theorem sc_asked_side : FnScope N_asked_side P_asked_side (defScope s_asked_side) := ⟨rfl, rfl, rfl, by decide +kernel, rfl, by decide +kernel, by decide +kernel⟩

theorem ok_asked_side {f aS : Addr} {fd : FuncData} (T : Nm mg) (S : Sides K mg aS) (F : Fun K "asked_side" "asked_side" s_asked_side f fd) : FnOk P w K mg base CX0 1 f fd P_asked_side (spV R_asked_side) := by
  refine F.ok sc_asked_side (fun vs H Q E h => ?_) (fun cdv A outer s H vs Q E hr h => ?_)
  · obtain ⟨v, ⟨b, rfl, _⟩, _⟩ := h
    rfl
  · obtain ⟨v, ⟨fr, rfl, rfl⟩, k⟩ := h
    refine ⟨_, (pss_one (ps_if (PW.pt (pw_or (pt_not (pt_val (pe_callB call_isi (by rfl) T.n_isinstance (by decide +kernel) (pa_cons (pv 0) (pa_cons (pe_bltn (v := .ty "str") (by rfl) T.n_str (by decide +kernel) rfl) pa_nil))))) (pw_or1 (pt_cmpR op_notIn_seq (pv 0) (pe_glob (v := .ref aS) rfl S.g rfl) (by rfl))))) (pss_one ps_never) pss_nil)), ?_⟩
    refine s_when (b := false) (et_is (et_or (et_not (et_B (ev_isi (b := true) (ev_var rfl) (fun H1 e => .base (.str _)) (by decide +kernel)))) fun _ => et_test (ev_op (ev_var rfl) ev_c (rv_niT (S.t _) rfl rfl))) ?_) (fun z => nomatch z) (fun _ H1 e1 => k H1 e1)
    rw [in_sides]
    rfl
def R_figs : List V → Hp → List V → Prop := fun vs _ xs => ∃ b n : Nat, vs = [vi b, vi n] ∧ 2 ≤ b ∧ b ≤ 36 ∧ n < 2 ^ 50000 ∧ xs = vl (figs b n)
abbrev s_figures_of : Stmt := topS 11
abbrev N_figures_of : List Str := ["base", "number", "found"]
abbrev P_figures_of : List Str := ["base", "number"]
theorem sc_figures_of : FnScope N_figures_of P_figures_of (defScope s_figures_of) := ⟨rfl, rfl, rfl, by decide +kernel, rfl, by decide +kernel, by decide +kernel⟩

theorem ok_figures_of {f : Addr} {fd : FuncData} (F : Fun K "figures_of" "figures_of" s_figures_of f fd) : FnOk P w K mg base CX0 1 f fd P_figures_of (spL R_figs) := by
  refine F.ok sc_figures_of (fun vs H Q E h => ?_) (fun cdv A outer s H vs Q E hr h => ?_)
  · obtain ⟨v, ⟨b, n, rfl, _⟩, _⟩ := h
    rfl
  · obtain ⟨xs, ⟨b, n, rfl, hb, hb2, hn, rfl⟩, k⟩ := h
    refine ⟨_, (pss_cons (ps_set (i := 2) sc_figures_of.nd rfl (.inl rfl) (pe_lst pa_nil))
      (pss_cons (ps_while PassesOwn.never (pt_cmpR op_gt (pv 1) pe_int (nomark _)) (pss_cons (ps_expr (pe_bm PySem.F.plainAttrs_list PySem.F.slot_list_append PySem.F.type_list_append mt_append (pv 2) (pa_cons (pe_op op_mod (pv 1) (pv 0)) pa_nil)))
      (pss_one (ps_set (i := 1) sc_figures_of.nd rfl (.inl rfl) (pe_op op_fdiv (pv 1) (pv 0))))))
      (pss_one (ps_ret (pe_revL (pv 2)))))), ?_⟩
    refine q_asgL (el_lst ea_nil (Nat.zero_le _)) fun p H1 np e1 hp => ?_
    have hlen : (low b n).length ≤ 50000 := by
      have := figs_len2 hb hn
      unfold figs at this
      rw [List.length_reverse] at this
      exact this
    refine q_while (fun m σ H' => ∃ acc : List Nat, σ = [some (vi b), some (vi m), some (.ref p)] ∧ Ex H H' ∧ H' p = some (.lst (vl acc)) ∧ acc ++ low b m = low b n) n ⟨[], rfl, e1, hp, rfl⟩ ?_
    rintro m σ' H' ⟨acc, rfl, e2, hp2, ha⟩
    refine ⟨_, et_test (ev_op (ev_var rfl) ev_c rv_I0), fun hm H3 e3 => ⟨_, fun σ2 H2 z => z, ?_⟩, fun hm H3 e3 => ?_⟩
    · have hm' : 0 < m := by
        have := of_decide_eq_true hm
        omega
      have hl := low_pos (b := b) hb hm'
      rw [hl] at ha
      have hacc : acc.length < 100000 := by
        have := congrArg List.length ha
        rw [List.length_append] at this
        omega
      refine q_app (e3 _ _ hp2) (ev_var rfl) (ev_op (ev_var rfl) (ev_var rfl) (rv_I (show (0 : Int) < (b : Int) by omega))) (by rw [List.length_map]; exact hacc) fun H4 e4 => ?_
      refine s_asg (ev_op (ev_var rfl) (ev_var rfl) (rv_I ⟨show (0 : Int) < (b : Int) by omega, show (b : Int) < 1073741824 by omega⟩)) fun H5 e5 => ?_
      refine ⟨m / b, div_lt hb hm', acc ++ [m % b], rfl, ?_, ?_, ?_⟩
      · exact (Ex.mut ((e2.trans e3).trans e4) np).trans e5
      · rw [e5 _ _ upd_same, vl_app]
        rfl
      · rw [List.append_assoc]
        exact ha
    · have hm' : m = 0 := by
        have := of_decide_eq_false hm
        omega
      subst hm'
      rw [low_zero, List.append_nil] at ha
      subst ha
      refine s_retL (xs := vl (figs b n)) ?_ fun q H4 nq e4 hq => k q H4 (fresh_back (e2.trans e3) nq) ((e2.trans e3).trans e4) hq
      have := el_rev (K := K) (te := tVar 2) (σ := [some (vi b), some (vi 0), some (.ref p)]) (eq_old (ev_var rfl) (sq_of (e3 _ _ hp2)))
      unfold vl figs
      rw [List.map_reverse]
      exact this
def R_figures : List V → Hp → List V → Prop := fun vs _ xs => ∃ b n : Nat, vs = [vi b, vi n] ∧ 3 ≤ b ∧ b ≤ 36 ∧ 1 ≤ n ∧ n < 2 ^ 50000 ∧ xs = vl (figs b n)
def R_worth (K : PySem.W.Frag) : List V → Hp → V → Prop := fun vs H v => ∃ (b : Nat) (a : Addr) (ds : List Nat), vs = [vi b, .ref a] ∧ b ≤ 36 ∧ SqL K H a (vl ds) ∧ v = vi (wr b ds)
theorem get_vl {ds : List Nat} {i : Nat} {x : V} (h : (vl ds)[i]? = some x) : ∃ d, ds[i]? = some d ∧ x = vi d := by
  rw [List.getElem?_map] at h
  cases e : ds[i]? with
  | none =>
    rw [e] at h
    cases h
  | some d =>
    rw [e] at h
    exact ⟨d, rfl, (Option.some.inj h).symm⟩
abbrev s_worth : Stmt := topS 12
abbrev N_worth : List Str := ["base", "row", "found", "figure"]
abbrev P_worth : List Str := ["base", "row"]
theorem sc_worth : FnScope N_worth P_worth (defScope s_worth) := ⟨rfl, rfl, rfl, by decide +kernel, rfl, by decide +kernel, by decide +kernel⟩

theorem ok_worth {f : Addr} {fd : FuncData} (F : Fun K "worth" "worth" s_worth f fd) : FnOk P w K mg base CX0 1 f fd P_worth (spV (R_worth K)) := by
  refine F.ok sc_worth (fun vs H Q E h => ?_) (fun cdv A outer s H vs Q E hr h => ?_)
  · obtain ⟨v, ⟨b, a, ds, rfl, _⟩, _⟩ := h
    rfl
  · obtain ⟨v, ⟨b, a, ds, rfl, hb, hS, rfl⟩, k⟩ := h
    refine ⟨_, (pss_cons (ps_set (i := 2) sc_worth.nd rfl (.inl rfl) pe_int)
      (pss_cons (ps_for PassesOwn.never rfl (pi_list (pv 1)) (pg_name (i := 3) sc_worth.nd rfl (.inl rfl)) (pss_one (ps_set (i := 2) sc_worth.nd rfl (.inl rfl) (pe_op op_add (pe_op op_mul (pv 2) (pv 0)) (pv 3)))))
      (pss_one (ps_ret (pv 2))))), ?_⟩
    refine q_asg ev_c fun H1 e1 => ?_
    refine q_forLn (ev_var rfl) (ex_l e1 hS) (fun i σ H' => ∃ x, σ = [some (vi b), some (.ref a), some (vi (wr b (ds.take i))), x] ∧ Ex H H') (fun H2 e2 => ⟨none, rfl, e1.trans e2⟩) (fun i σ' H' _ ⟨x, _, e⟩ => ex_l e hS) ?_ ?_
    · rintro i x σ' H' hx ⟨y, rfl, e2⟩
      obtain ⟨d, hd, rfl⟩ := get_vl hx
      refine s_asg (ev_op (ev_op (ev_var rfl) (ev_var rfl) (rv_I (.inr ⟨?_, ?_⟩))) (ev_var rfl) rv_I0) fun H3 e3 => ⟨some (vi d), ?_, e2.trans e3⟩
      · show (-(2 ^ 64) : Int) < (b : Int)
        omega
      · show (b : Int) < 2 ^ 64
        omega
      · rw [wr_take hd]
        rfl
    · rintro σ' H' ⟨x, rfl, e2⟩
      refine s_ret (ev_var rfl) fun H3 e3 => ?_
      rw [List.length_map, List.take_length]
      exact k H3 (e2.trans e3)
def R_number_of (K : PySem.W.Frag) : List V → Hp → V → Prop := fun vs H v => ∃ (b : Nat) (a : Addr) (ds : List Nat), vs = [vi b, .ref a] ∧ 3 ≤ b ∧ b ≤ 36 ∧ H a = some (.lst (vl ds)) ∧ ds.length ≤ 20000 ∧ (∀ d ∈ ds, d < b) ∧ (∃ d, ds[0]? = some d ∧ 0 < d) ∧ v = vi (wr b ds)
/-! slices of rows -/
theorem cut_last (ds : List Nat) : cutV (vl ds) (some (-1)) none = vl (ds.drop (ds.length - 1)) := by
  unfold cutV
  rw [HT.sIx_none, List.length_map]
  have e : HT.sIx ds.length 0 (some (-1)) = ds.length - 1 := by
    show (if (-1 : Int) < 0 then (-1 + (ds.length : Int)).toNat else min (-1 : Int).toNat ds.length) = _
    rw [if_pos (by decide)]
    omega
  rw [e, List.take_of_length_le (by rw [List.length_drop, List.length_map]; omega), vl_drop]
theorem cut_init (ds : List Nat) : cutV (vl ds) none (some (-1)) = vl (ds.take (ds.length - 1)) := by
  unfold cutV
  rw [HT.sIx_none, List.length_map, List.drop_zero]
  have e : HT.sIx ds.length ds.length (some (-1)) = ds.length - 1 := by
    show (if (-1 : Int) < 0 then (-1 + (ds.length : Int)).toNat else min (-1 : Int).toNat ds.length) = _
    rw [if_pos (by decide)]
    omega
  rw [e, vl_take, Nat.sub_zero]
theorem cut_from (ds : List Nat) (k : Nat) : cutV (vl ds) (some (k : Int)) none = vl (ds.drop k) := by
  unfold cutV
  rw [HT.sIx_none, HT.sIx_nat, List.length_map, List.take_of_length_le (by rw [List.length_drop, List.length_map]; omega), vl_drop]
  by_cases h : k ≤ ds.length
  · rw [Nat.min_eq_left h]
  · rw [Nat.min_eq_right (by omega), List.drop_of_length_le (by simp), List.drop_of_length_le (by simp; omega)]
theorem cut_to (ds : List Nat) (k : Nat) : cutV (vl ds) none (some (k : Int)) = vl (ds.take k) := by
  unfold cutV
  rw [HT.sIx_none, HT.sIx_nat, List.length_map, List.drop_zero, Nat.sub_zero, vl_take]
  by_cases h : k ≤ ds.length
  · rw [Nat.min_eq_left h]
  · rw [Nat.min_eq_right (by omega), List.take_of_length_le (by simp), List.take_of_length_le (by simp; omega)]
def R_moved_of : List V → Hp → V → Prop := fun vs _ v => ∃ (b n : Nat) (fr : Bool), vs = [vi b, vi n, vs' fr] ∧ 2 ≤ b ∧ b ≤ 36 ∧ n < 2 ^ 50000 ∧ v = vi (mv b n fr)
abbrev s_moved_of : Stmt := topS 13
abbrev N_moved_of : List Str := ["base", "number", "side", "row", "turned"]
abbrev P_moved_of : List Str := ["base", "number", "side"]
theorem sc_moved_of : FnScope N_moved_of P_moved_of (defScope s_moved_of) := ⟨rfl, rfl, rfl, by decide +kernel, rfl, by decide +kernel, by decide +kernel⟩

theorem ok_moved_of {f : Addr} {fd : FuncData} (F : Fun K "moved_of" "moved_of" s_moved_of f fd) (h_figures_of : Has P w K mg base "figures_of" P_figures_of 1 (spL R_figs)) (h_worth : Has P w K mg base "worth" P_worth 1 (spV (R_worth K))) :
    FnOk P w K mg base CX0 2 f fd P_moved_of (spV R_moved_of) := by
  refine F.ok sc_moved_of (fun vs H Q E h => ?_) (fun cdv A outer s H vs Q E hr h => ?_)
  · obtain ⟨v, ⟨b, n, fr, rfl, _⟩, _⟩ := h
    rfl
  · obtain ⟨v, ⟨b, n, fr, rfl, h1, h2, hn, rfl⟩, k⟩ := h
    refine ⟨_, (pss_cons (ps_set (i := 3) sc_moved_of.nd rfl (.inl rfl) (pe_fn h_figures_of hr (by rfl) (pa_cons (pv 0) (pa_cons (pv 1) pa_nil))))
      (pss_cons (ps_set (i := 4) sc_moved_of.nd rfl (.inl rfl) (pe_ifExp (pt_cmpR op_eq (pv 2) pe_str (nomark _)) (pe_op op_cat (pe_slice sl_list (pv 3) (po_some (pe_un un_neg pe_int)) po_none) (pe_slice sl_list (pv 3) po_none (po_some (pe_un un_neg pe_int)))) (pe_op op_cat (pe_slice sl_list (pv 3) (po_some pe_int) po_none) (pe_slice sl_list (pv 3) po_none (po_some pe_int)))))
      (pss_one (ps_ret (pe_fn h_worth hr (by rfl) (pa_cons (pv 0) (pa_cons (pv 4) pa_nil))))))), ?_⟩
    refine q_asgL (el_fn (ea_cons (ev_var rfl) (ea_cons (ev_var rfl) ea_nil)) fun _ _ => ⟨b, n, rfl, h1, h2, hn, rfl⟩) fun p H1 np e1 hp => ?_
    have hlen := figs_len2 h1 hn
    refine q_asgL (xs := vl (rot fr (figs b n))) (el_if (b := fr) (et_is (et_test (ev_op (ev_var rfl) ev_c (rv_eq rfl))) (sd_eq fr)) (fun hb => ?_) (fun hb => ?_)) fun q H2 nq e2 hq => ?_
    · subst hb
      refine el_is (el_cat (es_new (el_cut (eq_old (ev_var rfl) (sq_of hp)) (eo_some (ev_un ev_c ru_neg)) eo_none)) (es_new (el_cut (eq_old (ev_var rfl) (sq_of hp)) eo_none (eo_some (ev_un ev_c ru_neg)))) ?_) ?_
      · have q1 := cutV_length (vl (figs b n)) (some (-1)) none
        have q2 := cutV_length (vl (figs b n)) none (some (-1))
        rw [List.length_map] at q1 q2
        omega
      · rw [cut_last, cut_init, ← vl_app]
        rfl
    · subst hb
      refine el_is (el_cat (es_new (el_cut (eq_old (ev_var rfl) (sq_of hp)) (eo_some ev_c) eo_none)) (es_new (el_cut (eq_old (ev_var rfl) (sq_of hp)) eo_none (eo_some ev_c))) ?_) ?_
      · have q1 := cutV_length (vl (figs b n)) (some 1) none
        have q2 := cutV_length (vl (figs b n)) none (some 1)
        rw [List.length_map] at q1 q2
        omega
      · rw [show (1 : Int) = ((1 : Nat) : Int) from rfl, cut_from, cut_to, ← vl_app]
        rfl
    · exact s_ret (ev_fn (ea_cons (ev_var rfl) (ea_cons (ev_var rfl) ea_nil)) fun H3 e3 => ⟨b, q, _, rfl, h2, sq_of (e3 _ _ hq), rfl⟩) fun H3 e3 => k H3 ((e1.trans e2).trans e3)
def R_moved : List V → Hp → V → Prop := fun vs _ v => ∃ (b n : Nat) (fr : Bool), vs = [vi b, vi n, vs' fr] ∧ 3 ≤ b ∧ b ≤ 36 ∧ 1 ≤ n ∧ n < 2 ^ 50000 ∧ v = vi (mv b n fr)
end
end Tf

namespace Tf
open PySem PySem.Spec PyProof.Rows L2 Evl
/-! ### answers.py, turning.py: lengths -/
def optV : Option Nat → V
  | none => .non
  | some k => vi k
theorem optV_eq (x y : Option Nat) : decide (optV x = optV y) = decide (x = y) := by
  cases x with
  | none =>
    cases y with
    | none => rfl
    | some k => rfl
  | some k =>
    cases y with
    | none => rfl
    | some l =>
      by_cases h : k = l
      · subst h
        rw [decide_eq_true rfl, decide_eq_true rfl]
      · rw [decide_eq_false, decide_eq_false]
        · intro e
          exact h (Option.some.inj e)
        · intro e
          have := V.int.inj e
          omega
theorem scal_opt (x y : Option Nat) : scal (optV x) (optV y) = true := by
  cases x <;> cases y <;> rfl
theorem vi_inj {a b : Nat} (h : vi a = vi b) : a = b := by
  have := V.int.inj h
  omega
theorem dec_cast_lt (a b : Nat) : decide ((a : Int) < (b : Int)) = decide (a < b) := by
  by_cases h : a < b
  · rw [decide_eq_true h, decide_eq_true (Int.ofNat_lt.mpr h)]
  · rw [decide_eq_false h, decide_eq_false fun q => h (Int.ofNat_lt.mp q)]
theorem dec_cast_le (a b : Nat) : decide ((a : Int) ≤ (b : Int)) = decide (a ≤ b) := by
  by_cases h : a ≤ b
  · rw [decide_eq_true h, decide_eq_true (Int.ofNat_le.mpr h)]
  · rw [decide_eq_false h, decide_eq_false fun q => h (Int.ofNat_le.mp q)]
theorem dec_vi (a b : Nat) : decide (vi a = vi b) = decide (a = b) := by
  by_cases h : a = b
  · subst h
    rw [decide_eq_true rfl, decide_eq_true rfl]
  · rw [decide_eq_false h, decide_eq_false fun q => h (vi_inj q)]
/-- base, factor and figure by a number -/
theorem bfd_of (n : Nat) (b : Nat) (h3 : 3 ≤ b) (h36 : b ≤ 36) : Bfd b (2 + n / 34 % (b - 2)) (1 + n / 1200 % (b - 1)) := by
  have h1 := Nat.mod_lt (n / 34) (show 0 < b - 2 by omega)
  have h2 := Nat.mod_lt (n / 1200) (show 0 < b - 1 by omega)
  exact ⟨h3, h36, by omega, by omega, by omega, by omega⟩
section
variable {P : Program} {w : World} {K : PySem.W.Frag} {mg : Str → Option Value} {base : Heap}
def R_common : List V → Hp → V → Prop := fun vs _ v => ∃ a b : Nat, vs = [vi a, vi b] ∧ v = vi (Nat.gcd a b)
abbrev s_common : Stmt := topS 15
abbrev N_common : List Str := ["one", "other"]
abbrev P_common : List Str := ["one", "other"]
theorem sc_common : FnScope N_common P_common (defScope s_common) := ⟨rfl, rfl, rfl, by decide +kernel, rfl, by decide +kernel, by decide +kernel⟩

theorem ok_common {f : Addr} {fd : FuncData} (F : Fun K "common" "common" s_common f fd) : FnOk P w K mg base CX0 1 f fd P_common (spV R_common) := by
  refine F.ok sc_common (fun vs H Q E h => ?_) (fun cdv A outer s H vs Q E hr h => ?_)
  · obtain ⟨v, ⟨a, b, rfl, _⟩, _⟩ := h
    rfl
  · obtain ⟨v, ⟨a, b, rfl, rfl⟩, k⟩ := h
    refine ⟨_, (pss_cons (ps_while PassesOwn.never (pt_cmpR op_gt (pv 1) pe_int (nomark _)) (pss_one (ps_par (i := 0) (j := 1) (by rfl) sc_common.nd rfl rfl (by decide) rfl rfl (pa_cons (pv 1) (pa_cons (pe_op op_mod (pv 0) (pv 1)) pa_nil)) (by rfl))))
      (pss_one (ps_ret (pv 0)))), ?_⟩
    refine q_while (fun m σ H' => ∃ x : Nat, σ = [some (vi x), some (vi m)] ∧ Ex H H' ∧ Nat.gcd x m = Nat.gcd a b) b ⟨a, rfl, Ex.refl _, rfl⟩ ?_
    rintro m σ' H' ⟨x, rfl, e1, hg⟩
    refine ⟨_, et_test (ev_op (ev_var rfl) ev_c rv_I0), fun hm H3 e3 => ⟨_, fun σ2 H2 z => z, ?_⟩, fun hm H3 e3 => ?_⟩
    · have hm' : 0 < m := by
        have := of_decide_eq_true hm
        omega
      refine s_par (ea_cons (ev_var rfl) (ea_cons (ev_op (ev_var rfl) (ev_var rfl) (rv_I (show (0 : Int) < (m : Int) by omega))) ea_nil)) fun H4 e4 => ⟨x % m, Nat.mod_lt _ hm', m, rfl, (e1.trans e3).trans e4, ?_⟩
      rw [Nat.gcd_comm, ← Nat.gcd_rec, Nat.gcd_comm]
      exact hg
    · have hm' : m = 0 := by
        have := of_decide_eq_false hm
        omega
      subst hm'
      rw [Nat.gcd_zero_right] at hg
      subst hg
      exact s_ret (ev_var rfl) fun H4 e4 => k H4 ((e1.trans e3).trans e4)
def R_often_back : List V → Hp → V → Prop := fun vs _ v => ∃ g n : Nat, vs = [vi g, vi n] ∧ 1 ≤ g ∧ g ≤ 36 ∧ 1 ≤ n ∧ n ≤ 2000 ∧ v = optV (backOf g n)
abbrev s_often_back : Stmt := topS 16
abbrev N_often_back : List Str := ["number", "rest", "found", "here"]
abbrev P_often_back : List Str := ["number", "rest"]
theorem sc_often_back : FnScope N_often_back P_often_back (defScope s_often_back) := ⟨rfl, rfl, rfl, by decide +kernel, rfl, by decide +kernel, by decide +kernel⟩

theorem ok_often_back {f : Addr} {fd : FuncData} (F : Fun K "often_back" "often_back" s_often_back f fd) (h_common : Has P w K mg base "common" P_common 1 (spV R_common)) : FnOk P w K mg base CX0 2 f fd P_often_back (spV R_often_back) := by
  refine F.ok sc_often_back (fun vs H Q E h => ?_) (fun cdv A outer s H vs Q E hr h => ?_)
  · obtain ⟨v, ⟨a, b, rfl, _⟩, _⟩ := h
    rfl
  · obtain ⟨v, ⟨g, n, rfl, g1, g2, n1, n2, rfl⟩, k⟩ := h
    refine ⟨_, (pss_cons (ps_if (pt_cmpR op_gt (pe_fn h_common hr (by rfl) (pa_cons (pv 0) (pa_cons (pv 1) pa_nil))) pe_int (nomark _)) (pss_one (ps_ret pe_non)) pss_nil)
      (pss_cons (ps_par (i := 2) (j := 3) (by rfl) sc_often_back.nd rfl rfl (by decide) rfl rfl (pa_cons pe_int (pa_cons (pe_op op_mod (pv 0) (pv 1)) pa_nil)) (by rfl))
      (pss_cons (ps_while PassesOwn.never (pt_cmpR op_ne (pv 3) (pe_op op_mod pe_int (pv 1)) (nomark _)) (pss_cons (ps_set (i := 3) sc_often_back.nd rfl (.inl rfl) (pe_op op_mod (pe_op op_mul (pv 3) (pv 0)) (pv 1)))
      (pss_one (ps_set (i := 2) sc_often_back.nd rfl (.inl rfl) (pe_op op_add (pv 2) pe_int)))))
      (pss_one (ps_ret (pv 2)))))), ?_⟩
    unfold backOf at k
    refine q_when (et_test (ev_op (ev_fn (ea_cons (ev_var rfl) (ea_cons (ev_var rfl) ea_nil)) fun _ _ => ⟨g, n, rfl, rfl⟩) ev_c rv_I0)) (fun hb H1 e1 => ?_) (fun hb H1 e1 => ?_)
    · refine s_ret ev_c fun H2 e2 => ?_
      have hg : Nat.gcd g n > 1 := by
        have := of_decide_eq_true hb
        omega
      rw [if_pos hg] at k
      exact k H2 (e1.trans e2)
    · have hg : ¬ Nat.gcd g n > 1 := by
        have := of_decide_eq_false hb
        omega
      rw [if_neg hg] at k
      have hg1 : Nat.gcd g n = 1 := by
        have := Nat.gcd_pos_of_pos_left n g1
        omega
      have o := ordN_is g1 n1 hg1
      generalize ordN g n = N at *
      refine q_par (ea_cons ev_c (ea_cons (ev_op (ev_var rfl) (ev_var rfl) (rv_I (show (0 : Int) < (n : Int) by omega))) ea_nil)) fun H2 e2 => ?_
      refine q_while (fun m σ H' => ∃ t : Nat, σ = [some (vi g), some (vi n), some (vi t), some (vi (g ^ t % n))] ∧ Ex H H' ∧ 1 ≤ t ∧ t + m = N) (N - 1) ⟨1, ?_, e1.trans e2, Nat.le_refl _, ?_⟩ ?_
      · rw [Nat.pow_one]
        rfl
      · have := o.pos
        omega
      rintro m σ' H' ⟨t, rfl, e3, t1, tm⟩
      refine ⟨_, et_test (ev_op (ev_var rfl) (ev_op ev_c (ev_var rfl) (rv_I (show (0 : Int) < (n : Int) by omega))) (rv_ne rfl)), fun hm H3 e4 => ⟨_, fun σ2 H2 z => z, ?_⟩, fun hm H3 e4 => ?_⟩
      · have hm' : m ≠ 0 := fun z => by
          have z2 : t = N := by omega
          rw [z2, o.one] at hm
          have z3 : decide (vi (1 % n) = V.int (1 % (n : Int))) = true := decide_eq_true rfl
          rw [z3] at hm
          cases hm
        have hlt := Nat.mod_lt (g ^ t) n1
        refine q_asg (v := vi (g ^ (t + 1) % n)) (ev_is (ev_op (ev_op (ev_var rfl) (ev_var rfl) (rv_I (.inl ⟨?_, ?_⟩))) (ev_var rfl) (rv_I (show (0 : Int) < (n : Int) by omega))) ?_) fun H5 e5 => ?_
        · show (-(2 ^ 64) : Int) < ((g ^ t % n : Nat) : Int)
          omega
        · show ((g ^ t % n : Nat) : Int) < 2 ^ 64
          omega
        · have z : g ^ (t + 1) % n = g ^ t % n * g % n := by
            rw [Nat.pow_succ]
            exact mod_mul (Nat.mod_mod _ _).symm rfl
          rw [z]
          rfl
        · exact s_asg (ev_op (ev_var rfl) ev_c rv_I0) fun H6 e6 => ⟨m - 1, by omega, t + 1, rfl, (((e3.trans e4).trans e5).trans e6), by omega, by omega⟩
      · have hm' : t = N := by
          have z1 : vi (g ^ t % n) = V.int (1 % (n : Int)) := by
            cases q : decide (vi (g ^ t % n) = V.int (1 % (n : Int))) with
            | true => exact of_decide_eq_true q
            | false =>
              rw [q] at hm
              cases hm
          have z2 : g ^ t % n = 1 % n := vi_inj (z1.trans rfl)
          rcases Nat.lt_or_ge t N with z | z
          · exact absurd z2 (o.least t t1 z)
          · omega
        subst hm'
        exact s_ret (ev_var rfl) fun H4 e5 => k H4 ((e3.trans e4).trans e5)
def R_length_of : List V → Hp → V → Prop := fun vs _ v => ∃ (b f : Nat) (fr : Bool) (d : Nat), vs = [vi b, vi f, vs' fr, vi d] ∧ Bfd b f d ∧ v = optV (lenOf b f fr d)
theorem cast_pred {n : Nat} (h : 1 ≤ n) : (n : Int) - 1 = ((n - 1 : Nat) : Int) := by omega
theorem cast_mul_pred {a b : Nat} (h : 1 ≤ a * b) : (a : Int) * (b : Int) - 1 = ((a * b - 1 : Nat) : Int) := cast_pred (n := a * b) h
theorem cast_sub {a b : Nat} (h : b ≤ a) : (a : Int) - (b : Int) = ((a - b : Nat) : Int) := by omega
abbrev s_length_of : Stmt := topS 17
abbrev N_length_of : List Str := ["base", "factor", "side", "figure", "whole"]
abbrev P_length_of : List Str := ["base", "factor", "side", "figure"]
theorem sc_length_of : FnScope N_length_of P_length_of (defScope s_length_of) := ⟨rfl, rfl, rfl, by decide +kernel, rfl, by decide +kernel, by decide +kernel⟩

theorem ok_length_of {f : Addr} {fd : FuncData} (F : Fun K "length_of" "length_of" s_length_of f fd) (h_common : Has P w K mg base "common" P_common 1 (spV R_common)) (h_often_back : Has P w K mg base "often_back" P_often_back 2 (spV R_often_back)) : FnOk P w K mg base CX0 3 f fd P_length_of (spV R_length_of) := by
  refine F.ok sc_length_of (fun vs H Q E h => ?_) (fun cdv A outer s H vs Q E hr h => ?_)
  · obtain ⟨v, ⟨b, f, fr, d, rfl, _⟩, _⟩ := h
    rfl
  · obtain ⟨v, ⟨b, f, fr, d, rfl, B, rfl⟩, k⟩ := h
    refine ⟨_, (pss_cons (ps_if (pt_cmpR op_eq (pv 2) pe_str (nomark _)) (pss_cons (ps_set (i := 4) sc_length_of.nd rfl (.inl rfl) (pe_op op_sub (pe_op op_mul (pv 1) (pv 0)) pe_int))
      (pss_one (ps_ret (pe_ifExp (pt_cmpR op_ge (pv 3) (pv 1) (nomark _)) (pe_fn h_often_back hr (by rfl) (pa_cons (pv 0) (pa_cons (pe_op op_fdiv (pv 4) (pe_fn h_common hr (by rfl) (pa_cons (pv 4) (pa_cons (pv 3) pa_nil)))) pa_nil))) pe_non)))) pss_nil)
      (pss_cons (ps_set (i := 4) sc_length_of.nd rfl (.inl rfl) (pe_op op_sub (pv 0) (pv 1)))
      (pss_one (ps_ret (pe_ifExp (pt_cmpR op_le (pe_op op_mul (pe_op op_add (pv 3) pe_int) (pv 1)) (pv 0) (nomark _)) (pe_fn h_often_back hr (by rfl) (pa_cons (pv 1) (pa_cons (pe_op op_fdiv (pv 4) (pe_fn h_common hr (by rfl) (pa_cons (pv 4) (pa_cons (pv 3) pa_nil)))) pa_nil))) pe_non))))), ?_⟩
    have n5 := B.n5
    have nle := B.nle
    obtain ⟨b3, b36, f2, fb, d1, db⟩ := id B
    refine q_when (b := fr) (et_is (et_test (ev_op (ev_var rfl) ev_c (rv_eq rfl))) (sd_eq fr)) (fun hb H1 e1 => ?_) (fun hb H1 e1 => ?_)
    · subst hb
      refine q_asg (v := vi (f * b - 1)) (ev_is (ev_op (ev_op (ev_var rfl) (ev_var rfl) (rv_I (.inl ⟨show (-(2 ^ 64) : Int) < (f : Int) by omega, show (f : Int) < 2 ^ 64 by omega⟩))) ev_c rv_I0) ?_) fun H2 e2 => ?_
      · exact congrArg V.int (cast_mul_pred (by omega))
      have gp := Nat.gcd_pos_of_pos_left d (show 0 < f * b - 1 by omega)
      have gl : Nat.gcd (f * b - 1) d ≤ d := Nat.gcd_le_right _ (by omega)
      have cp := cut_pos (n := f * b - 1) (d := d) (by omega)
      have cl := cut_le (f * b - 1) d
      refine s_ret (v := optV (lenOf b f true d)) (ev_if (b := decide (f ≤ d)) (et_is (et_test (ev_op (ev_var rfl) (ev_var rfl) rv_I0)) ?_) (fun hd => ?_) (fun hd => ?_)) fun H3 e3 => k H3 ((e1.trans e2).trans e3)
      · by_cases z : f ≤ d
        · rw [decide_eq_true z, decide_eq_true (show (f : Int) ≤ (d : Int) by omega)]
        · rw [decide_eq_false z, decide_eq_false (show ¬ (f : Int) ≤ (d : Int) by omega)]
      · refine ev_fn (ea_cons (ev_var rfl) (ea_cons (ev_op (ev_var rfl) (ev_fn (ea_cons (ev_var rfl) (ea_cons (ev_var rfl) ea_nil)) fun _ _ => ⟨f * b - 1, d, rfl, rfl⟩) (rv_I ⟨show (0 : Int) < ((Nat.gcd (f * b - 1) d : Nat) : Int) by omega, show ((Nat.gcd (f * b - 1) d : Nat) : Int) < 1073741824 by omega⟩)) ea_nil)) fun _ _ => ⟨b, cut (f * b - 1) d, rfl, by omega, b36, cp, by omega, ?_⟩
        show optV (if f ≤ d then backOf b (cut (f * b - 1) d) else none) = _
        rw [if_pos (of_decide_eq_true hd)]
      · refine ev_is ev_c ?_
        show _ = optV (if f ≤ d then backOf b (cut (f * b - 1) d) else none)
        rw [if_neg (of_decide_eq_false hd)]
        rfl
    · subst hb
      refine q_asg (v := vi (b - f)) (ev_is (ev_op (ev_var rfl) (ev_var rfl) rv_I0) ?_) fun H2 e2 => ?_
      · exact congrArg V.int (cast_sub (by omega))
      have gp := Nat.gcd_pos_of_pos_left d (show 0 < b - f by omega)
      have gl : Nat.gcd (b - f) d ≤ d := Nat.gcd_le_right _ (by omega)
      have cp := cut_pos (n := b - f) (d := d) (by omega)
      have cl := cut_le (b - f) d
      refine s_ret (v := optV (lenOf b f false d)) (ev_if (b := decide ((d + 1) * f ≤ b)) (et_is (et_test (ev_op (ev_op (ev_op (ev_var rfl) ev_c rv_I0) (ev_var rfl) (rv_I (.inr ⟨show (-(2 ^ 64) : Int) < (f : Int) by omega, show (f : Int) < 2 ^ 64 by omega⟩))) (ev_var rfl) rv_I0)) ?_) (fun hd => ?_) (fun hd => ?_)) fun H3 e3 => k H3 ((e1.trans e2).trans e3)
      · have e : ((d : Int) + 1) * (f : Int) = (((d + 1) * f : Nat) : Int) := rfl
        rw [e]
        by_cases z : (d + 1) * f ≤ b
        · rw [decide_eq_true z, decide_eq_true (Int.ofNat_le.mpr z)]
        · rw [decide_eq_false z, decide_eq_false (fun q => z (Int.ofNat_le.mp q))]
      · refine ev_fn (ea_cons (ev_var rfl) (ea_cons (ev_op (ev_var rfl) (ev_fn (ea_cons (ev_var rfl) (ea_cons (ev_var rfl) ea_nil)) fun _ _ => ⟨b - f, d, rfl, rfl⟩) (rv_I ⟨show (0 : Int) < ((Nat.gcd (b - f) d : Nat) : Int) by omega, show ((Nat.gcd (b - f) d : Nat) : Int) < 1073741824 by omega⟩)) ea_nil)) fun _ _ => ⟨f, cut (b - f) d, rfl, by omega, by omega, cp, by omega, ?_⟩
        show optV (if (d + 1) * f ≤ b then backOf f (cut (b - f) d) else none) = _
        rw [if_pos (of_decide_eq_true hd)]
      · refine ev_is ev_c ?_
        show _ = optV (if (d + 1) * f ≤ b then backOf f (cut (b - f) d) else none)
        rw [if_neg (of_decide_eq_false hd)]
        rfl
def R_asked_factor : List V → Hp → V → Prop := fun vs _ v => ∃ b f : Nat, vs = [vi b, vi f] ∧ 2 ≤ f ∧ f < b ∧ v = .non
abbrev s_asked_factor : Stmt := topS 23
abbrev N_asked_factor : List Str := ["base", "factor"]
abbrev P_asked_factor : List Str := ["base", "factor"]
theorem sc_asked_factor : FnScope N_asked_factor P_asked_factor (defScope s_asked_factor) := ⟨rfl, rfl, rfl, by decide +kernel, rfl, by decide +kernel, by decide +kernel⟩

theorem ok_asked_factor {f : Addr} {fd : FuncData} (F : Fun K "asked_factor" "asked_factor" s_asked_factor f fd) (h_is_whole : Has P w K mg base "is_whole" P_is_whole 1 (spV (R_is_whole K))) : FnOk P w K mg base CX0 2 f fd P_asked_factor (spV R_asked_factor) := by
  refine F.ok sc_asked_factor (fun vs H Q E h => ?_) (fun cdv A outer s H vs Q E hr h => ?_)
  · obtain ⟨v, ⟨b, f, rfl, _⟩, _⟩ := h
    rfl
  · obtain ⟨v, ⟨b, f, rfl, h1, h2, rfl⟩, k⟩ := h
    refine ⟨_, (pss_one (ps_if (PW.pt (pw_or (pt_not (pt_val (pe_fn h_is_whole hr (by rfl) (pa_cons (pv 1) pa_nil)))) (pw_or1 (pt_not (pt_chain op_le op_lt pe_int (pv 1) (pv 0)))))) (pss_one ps_never) pss_nil)), ?_⟩
    refine s_when (b := false) (et_is (et_or (et_not (et_B (ev_fn (ea_cons (ev_var rfl) ea_nil) fun _ _ => r_whole _))) fun _ => et_not (et_test (ev_chain ev_c (ev_var rfl) rv_I0 (ev_var rfl) rv_I0))) ?_) (fun z => nomatch z) (fun _ H1 e1 => k H1 e1)
    rw [decide_eq_true (show (2 : Int) ≤ (f : Int) by omega), decide_eq_true (show (f : Int) < (b : Int) by omega)]
    rfl
def R_asked_figure : List V → Hp → V → Prop := fun vs _ v => ∃ b d : Nat, vs = [vi b, vi d] ∧ 1 ≤ d ∧ d < b ∧ v = .non
end
end Tf

namespace Tf
open PySem PySem.Spec PyProof.Rows L2 Evl
/-! ### turning.py: powers, turned numbers, all of so many, shares -/
section
variable {K : PySem.W.Frag} {σ : L2.St} {H H' : Hp} {ta tb tc te : TE} {x y z v : V} {xs ys : List V} {D : Ends} {tu tz : TS}
def RetU (xs : List V) (H : Hp) (Q : VK) : Prop := ∀ p H2, H p = none → Ex H H2 → H2 p = some (.tup xs) → Q (.ref p) H2
def spU (R : List V → Hp → List V → Prop) : Sp := fun vs H Q _ => ∃ xs, R vs H xs ∧ RetU xs H Q
theorem eu_fn {R : List V → Hp → List V → Prop} {vs : List V} {t : TA} (h : EvA t σ H vs) (hR : ∀ H1, Ex H H1 → R vs H1 xs) : EvU (tCall (spU R) [] E0 t) σ H xs := fun H1 e Q q =>
  h H1 e _ fun H2 e2 => ⟨xs, by rw [List.append_nil]; exact hR H2 (e.trans e2), fun p H3 hp e3 h3 => q p H3 (fresh_back e2 hp) (e2.trans e3) h3⟩
end
section
variable {P : Program} {w : World} {K : PySem.W.Frag} {mg : Str → Option Value} {base : Heap}
theorem pow_lt_two {b m : Nat} (hb : b ≤ 36) (hm : m ≤ 6000) : b ^ m < 2 ^ 36001 := by
  have h1 : b ^ m ≤ (2 ^ 6) ^ m := Nat.pow_le_pow_left (by omega) m
  rw [← Nat.pow_mul] at h1
  exact Nat.lt_of_le_of_lt h1 (Nat.pow_lt_pow_right (by decide) (by omega))
theorem lt_50000 {x : Nat} (h : x < 2 ^ 36001) : x < 2 ^ 50000 := Nat.lt_of_lt_of_le h (Nat.pow_le_pow_right (by decide) (by decide))
def R_power : List V → Hp → V → Prop := fun vs _ v => ∃ b m : Nat, vs = [vi b, vi m] ∧ 1 ≤ b ∧ b ≤ 36 ∧ m ≤ 3000 ∧ v = vi (b ^ m)
theorem pow_half (f h o : Nat) : (if o % 2 = 1 then f * h else f) * (h * h) ^ (o / 2) = f * h ^ o := by
  have e : h ^ o = (h * h) ^ (o / 2) * h ^ (o % 2) := by
    conv => lhs; rw [← Nat.div_add_mod o 2, Nat.pow_add, Nat.pow_mul, Nat.pow_two]
  rw [e]
  split
  · rename_i q
    rw [q, Nat.pow_one, Nat.mul_assoc, Nat.mul_comm h]
  · rename_i q
    rw [show o % 2 = 0 by omega, Nat.pow_zero, Nat.mul_one]
abbrev s_power : Stmt := topS 25
abbrev N_power : List Str := ["number", "often", "found", "here"]
abbrev P_power : List Str := ["number", "often"]
theorem sc_power : FnScope N_power P_power (defScope s_power) := ⟨rfl, rfl, rfl, by decide +kernel, rfl, by decide +kernel, by decide +kernel⟩

theorem ok_power {f : Addr} {fd : FuncData} (F : Fun K "power" "power" s_power f fd) : FnOk P w K mg base CX0 1 f fd P_power (spV R_power) := by
  refine F.ok sc_power (fun vs H Q E h => ?_) (fun cdv A outer s H vs Q E hr h => ?_)
  · obtain ⟨v, ⟨b, n, rfl, _⟩, _⟩ := h
    rfl
  · obtain ⟨v, ⟨b, m, rfl, hb1, hb, hm, rfl⟩, k⟩ := h
    refine ⟨_, (pss_cons (ps_par (i := 2) (j := 3) (by rfl) sc_power.nd rfl rfl (by decide) rfl rfl (pa_cons pe_int (pa_cons (pv 0) pa_nil)) (by rfl))
      (pss_cons (ps_while PassesOwn.never (pt_cmpR op_gt (pv 1) pe_int (nomark _)) (pss_cut (ps_if (pt_cmpR op_eq (pe_op op_mod (pv 1) pe_int) pe_int (nomark _)) (pss_one (ps_set (i := 2) sc_power.nd rfl (.inl rfl) (pe_op op_mulW (pv 2) (pv 3)))) pss_nil)
      (pss_cons (ps_set (i := 3) sc_power.nd rfl (.inl rfl) (pe_op op_mulW (pv 3) (pv 3)))
      (pss_one (ps_set (i := 1) sc_power.nd rfl (.inl rfl) (pe_op op_fdiv (pv 1) pe_int))))))
      (pss_one (ps_ret (pv 2))))), ?_⟩
    refine q_par (ea_cons ev_c (ea_cons (ev_var rfl) ea_nil)) fun H1 e1 => ?_
    have pl : b ^ m < 2 ^ 36001 := pow_lt_two hb (by omega)
    refine q_while (fun o σ H' => ∃ f h : Nat, σ = [some (vi b), some (vi o), some (vi f), some (vi h)] ∧ Ex H H' ∧ f * h ^ o = b ^ m ∧ 1 ≤ f ∧ 1 ≤ h) m ⟨1, b, rfl, e1, by rw [Nat.one_mul], Nat.le_refl _, hb1⟩ ?_
    rintro o σ' H' ⟨f, h, rfl, e2, hi, f1, h1⟩
    refine ⟨_, et_test (ev_op (ev_var rfl) ev_c rv_I0), fun hm H3 e3 => ⟨_, fun σ2 H2 z => z, ?_⟩, fun hm H3 e3 => ?_⟩
    · have ho : 0 < o := by
        have := of_decide_eq_true hm
        omega
      have hp : 1 ≤ h ^ o := pow_pos1 h1 o
      have fl : f < 2 ^ 36001 := Nat.lt_of_le_of_lt (by rw [← hi]; exact Nat.le_mul_of_pos_right f hp) pl
      have hl : h < 2 ^ 36001 := by
        refine Nat.lt_of_le_of_lt ?_ pl
        rw [← hi]
        refine Nat.le_trans ?_ (Nat.le_mul_of_pos_left _ f1)
        conv => lhs; rw [← Nat.pow_one h]
        exact Nat.pow_le_pow_right h1 ho
      refine q_mid (M := fun σ' H' => σ' = [some (vi b), some (vi o), some (vi (if o % 2 = 1 then f * h else f)), some (vi h)] ∧ Ex H H') ?_ ?_
      · refine s_when (b := decide (o % 2 = 1)) (et_is (et_test (ev_op (ev_op (ev_var rfl) ev_c (rv_I (by decide))) ev_c (rv_eq rfl))) (dec_vi (o % 2) 1)) (fun hb H4 e4 => ?_) (fun hb H4 e4 => ?_)
        · refine s_asg (ev_op (ev_var rfl) (ev_var rfl) (rv_I (wide_mul (a := 36001) (b := 36001) fl hl (by decide) (by decide) (by decide)))) fun H5 e5 => ⟨?_, ((e2.trans e3).trans e4).trans e5⟩
          rw [if_pos (of_decide_eq_true hb)]
          rfl
        · refine ⟨?_, (e2.trans e3).trans e4⟩
          rw [if_neg (of_decide_eq_false hb)]
      · rintro σ' H4 ⟨rfl, e4⟩
        refine q_asg (ev_op (ev_var rfl) (ev_var rfl) (rv_I (wide_mul (a := 36001) (b := 36001) hl hl (by decide) (by decide) (by decide)))) fun H5 e5 => ?_
        refine s_asg (ev_op (ev_var rfl) ev_c (rv_I ⟨by decide, by decide⟩)) fun H6 e6 => ⟨o / 2, by omega, _, h * h, rfl, (e4.trans e5).trans e6, ?_, ?_, Nat.mul_pos h1 h1⟩
        · rw [pow_half]
          exact hi
        · split
          · exact Nat.mul_pos f1 h1
          · exact f1
    · have ho : o = 0 := by
        have := of_decide_eq_false hm
        omega
      subst ho
      rw [Nat.pow_zero, Nat.mul_one] at hi
      subst hi
      exact s_ret (ev_var rfl) fun H4 e4 => k H4 ((e2.trans e3).trans e4)
def R_turned_one : List V → Hp → V → Prop := fun vs _ v => ∃ (b f : Nat) (fr : Bool) (d m : Nat), vs = [vi b, vi f, vs' fr, vi d, vi m] ∧ Bfd b f d ∧ 1 ≤ m ∧ m ≤ 3000 ∧ v = vi (turn1 b f fr d m)
abbrev s_turned_one : Stmt := topS 24
abbrev N_turned_one : List Str := ["base", "factor", "side", "figure", "many", "great"]
abbrev P_turned_one : List Str := ["base", "factor", "side", "figure", "many"]
theorem sc_turned_one : FnScope N_turned_one P_turned_one (defScope s_turned_one) := ⟨rfl, rfl, rfl, by decide +kernel, rfl, by decide +kernel, by decide +kernel⟩

theorem ok_turned_one {f : Addr} {fd : FuncData} (F : Fun K "turned_one" "turned_one" s_turned_one f fd) (h_power : Has P w K mg base "power" P_power 1 (spV R_power)) : FnOk P w K mg base CX0 2 f fd P_turned_one (spV R_turned_one) := by
  refine F.ok sc_turned_one (fun vs H Q E h => ?_) (fun cdv A outer s H vs Q E hr h => ?_)
  · obtain ⟨v, ⟨b, f, fr, d, m, rfl, _⟩, _⟩ := h
    rfl
  · obtain ⟨v, ⟨b, f, fr, d, m, rfl, B, m1, m2, rfl⟩, k⟩ := h
    refine ⟨_, (pss_cons (ps_if (pt_cmpR op_eq (pv 2) pe_str (nomark _)) (pss_one (ps_ret (pe_op op_fdiv (pe_op op_mul (pv 3) (pe_op op_sub (pe_fn h_power hr (by rfl) (pa_cons (pv 0) (pa_cons (pv 4) pa_nil))) pe_int)) (pe_op op_sub (pe_op op_mul (pv 1) (pv 0)) pe_int)))) pss_nil)
      (pss_cons (ps_set (i := 5) sc_turned_one.nd rfl (.inl rfl) (pe_fn h_power hr (by rfl) (pa_cons (pv 0) (pa_cons (pe_op op_sub (pv 4) pe_int) pa_nil))))
      (pss_one (ps_ret (pe_op op_add (pe_op op_mul (pv 3) (pv 5)) (pe_op op_fdiv (pe_op op_mul (pv 3) (pe_op op_sub (pe_op op_mul (pv 1) (pv 5)) pe_int)) (pe_op op_sub (pv 0) (pv 1)))))))), ?_⟩
    have n5 := B.n5
    have nle := B.nle
    obtain ⟨b3, b36, f2, fb, d1, db⟩ := id B
    have pm := pow_pos1 (show 1 ≤ b by omega) m
    have pm1 := pow_pos1 (show 1 ≤ b by omega) (m - 1)
    have cd : (-(2 ^ 64) : Int) < (d : Int) ∧ (d : Int) < 2 ^ 64 := ⟨by omega, by omega⟩
    have cf : (-(2 ^ 64) : Int) < (f : Int) ∧ (f : Int) < 2 ^ 64 := ⟨by omega, by omega⟩
    refine q_when (b := fr) (et_is (et_test (ev_op (ev_var rfl) ev_c (rv_eq rfl))) (sd_eq fr)) (fun hb H1 e1 => ?_) (fun hb H1 e1 => ?_)
    · subst hb
      refine s_ret (v := vi (turnF b f d m)) (ev_is (ev_op (ev_op (ev_var rfl) (ev_is (ev_op (ev_fn (ea_cons (ev_var rfl) (ea_cons (ev_var rfl) ea_nil)) fun _ _ => ⟨b, m, rfl, by omega, b36, m2, rfl⟩) ev_c rv_I0) (congrArg V.int (cast_pred pm))) (rv_I (.inl cd)))
        (ev_is (ev_op (ev_op (ev_var rfl) (ev_var rfl) (rv_I (.inl cf))) ev_c rv_I0) (congrArg V.int (cast_mul_pred (show 1 ≤ f * b by omega)))) (rv_I ⟨show (0 : Int) < ((f * b - 1 : Nat) : Int) by omega, show ((f * b - 1 : Nat) : Int) < 1073741824 by omega⟩)) rfl) fun H3 e3 => k H3 (e1.trans e3)
    · subst hb
      refine q_asg (ev_fn (ea_cons (ev_var rfl) (ea_cons (ev_is (ev_op (ev_var rfl) ev_c rv_I0) (congrArg V.int (cast_pred m1))) ea_nil)) fun _ _ => ⟨b, m - 1, rfl, by omega, b36, by omega, rfl⟩) fun H2 e2 => ?_
      refine s_ret (v := vi (turnB b f d m)) (ev_is (ev_op (ev_op (ev_var rfl) (ev_var rfl) (rv_I (.inl cd))) (ev_op (ev_op (ev_var rfl) (ev_is (ev_op (ev_op (ev_var rfl) (ev_var rfl) (rv_I (.inl cf))) ev_c rv_I0) (congrArg V.int (cast_mul_pred (show 1 ≤ f * b ^ (m - 1) from Nat.mul_pos (by omega) pm1)))) (rv_I (.inl cd)))
        (ev_is (ev_op (ev_var rfl) (ev_var rfl) rv_I0) (congrArg V.int (cast_sub (show f ≤ b by omega)))) (rv_I ⟨show (0 : Int) < ((b - f : Nat) : Int) by omega, show ((b - f : Nat) : Int) < 1073741824 by omega⟩)) rv_I0) rfl) fun H3 e3 => k H3 ((e1.trans e2).trans e3)
structure Most (mg : Str → Option Value) (t : Tok) : Prop where
  g : mg "MOST" = some (.int 3000 t)
def R_all_of : List V → Hp → List V → Prop := fun vs _ xs => ∃ (b f : Nat) (fr : Bool) (m : Nat), vs = [vi b, vi f, vs' fr, vi m] ∧ 3 ≤ b ∧ b ≤ 36 ∧ 2 ≤ f ∧ f < b ∧ 1 ≤ m ∧ m ≤ 3000 ∧ xs = vl (allOf b f fr m)
def allTo (b f : Nat) (fr : Bool) (m n : Nat) : List Nat := ((List.range n).filter fun i => okL (lenOf b f fr (1 + i)) m).map fun i => turn1 b f fr (1 + i) m
theorem allTo_succ (b f : Nat) (fr : Bool) (m n : Nat) : allTo b f fr m (n + 1) = allTo b f fr m n ++ (if okL (lenOf b f fr (1 + n)) m then [turn1 b f fr (1 + n) m] else []) := by
  unfold allTo
  rw [List.range_succ, List.filter_append, List.map_append]
  congr 1
  rw [List.filter_cons]
  split <;> rfl
theorem allTo_len (b f : Nat) (fr : Bool) (m n : Nat) : (allTo b f fr m n).length ≤ n := by
  unfold allTo
  rw [List.length_map]
  have h := List.length_filter_le (fun i => okL (lenOf b f fr (1 + i)) m) (List.range n)
  rw [List.length_range] at h
  exact h
abbrev s_all_of : Stmt := topS 26
abbrev N_all_of : List Str := ["base", "factor", "side", "many", "found", "figure", "length"]
abbrev P_all_of : List Str := ["base", "factor", "side", "many"]
theorem sc_all_of : FnScope N_all_of P_all_of (defScope s_all_of) := ⟨rfl, rfl, rfl, by decide +kernel, rfl, by decide +kernel, by decide +kernel⟩

theorem ok_all_of {f : Addr} {fd : FuncData} {tM : Tok} (T : Nm mg) (M : Most mg tM) (F : Fun K "all_of" "all_of" s_all_of f fd) (h_is_whole : Has P w K mg base "is_whole" P_is_whole 1 (spV (R_is_whole K))) (h_asked_base : Has P w K mg base "asked_base" P_asked_base 2 (spV R_asked_base)) (h_asked_factor : Has P w K mg base "asked_factor" P_asked_factor 2 (spV R_asked_factor))
    (h_asked_side : Has P w K mg base "asked_side" P_asked_side 1 (spV R_asked_side)) (h_length_of : Has P w K mg base "length_of" P_length_of 3 (spV R_length_of)) (h_turned_one : Has P w K mg base "turned_one" P_turned_one 2 (spV R_turned_one)) : FnOk P w K mg base CX0 4 f fd P_all_of (spL R_all_of) := by
  refine F.ok sc_all_of (fun vs H Q E h => ?_) (fun cdv A outer s H vs Q E hr h => ?_)
  · obtain ⟨v, ⟨b, f, fr, m, rfl, _⟩, _⟩ := h
    rfl
  · obtain ⟨xs, ⟨b, f, fr, m, rfl, b3, b36, f2, fb, m1, m2, rfl⟩, k⟩ := h
    refine ⟨_, (pss_cons (ps_expr (pe_fn h_asked_base hr (by rfl) (pa_cons (pv 0) pa_nil)))
      (pss_cons (ps_expr (pe_fn h_asked_factor hr (by rfl) (pa_cons (pv 0) (pa_cons (pv 1) pa_nil))))
      (pss_cons (ps_expr (pe_fn h_asked_side hr (by rfl) (pa_cons (pv 2) pa_nil)))
      (pss_cons (ps_if (PW.pt (pw_or (pt_not (pt_val (pe_fn h_is_whole hr (by rfl) (pa_cons (pv 3) pa_nil)))) (pw_or1 (pt_not (pt_chain op_le op_le pe_int (pv 3) (pe_glob (v := .int 3000) rfl M.g ⟨_, rfl⟩)))))) (pss_one ps_never) pss_nil)
      (pss_cons (ps_set (i := 4) sc_all_of.nd rfl (.inl rfl) (pe_lst pa_nil))
      (pss_cons (ps_for PassesOwn.never rfl (pi_range2 (by rfl) T.n_range (pa_cons pe_int (pa_cons (pv 0) pa_nil))) (pg_name (i := 5) sc_all_of.nd rfl (.inl rfl)) (pss_cons (ps_set (i := 6) sc_all_of.nd rfl (.inl rfl) (pe_fn h_length_of hr (by rfl) (pa_cons (pv 0) (pa_cons (pv 1) (pa_cons (pv 2) (pa_cons (pv 5) pa_nil))))))
      (pss_one (ps_if (PW.pt (pw_and (pt_cmpR op_notN (pv 6) pe_non (nomark _)) (pw_and1 (pt_cmpR op_eq (pe_op op_mod (pv 3) (pv 6)) pe_int (nomark _))))) (pss_one (ps_expr (pe_bm PySem.F.plainAttrs_list PySem.F.slot_list_append PySem.F.type_list_append mt_append (pv 4) (pa_cons (pe_fn h_turned_one hr (by rfl) (pa_cons (pv 0) (pa_cons (pv 1) (pa_cons (pv 2) (pa_cons (pv 5) (pa_cons (pv 3) pa_nil)))))) pa_nil)))) pss_nil))))
      (pss_one (ps_ret (pv 4))))))))), ?_⟩
    refine q_drop (ev_fn (v := .non) (ea_cons (ev_var rfl) ea_nil) fun _ _ => ⟨b, rfl, b3, b36, rfl⟩) fun H1 e1 => ?_
    refine q_drop (ev_fn (v := .non) (ea_cons (ev_var rfl) (ea_cons (ev_var rfl) ea_nil)) fun _ _ => ⟨b, f, rfl, f2, fb, rfl⟩) fun H2 e2 => ?_
    refine q_drop (ev_fn (v := .non) (ea_cons (ev_var rfl) ea_nil) fun _ _ => ⟨fr, rfl, rfl⟩) fun H3 e3 => ?_
    refine q_when (b := false) (et_is (et_or (et_not (et_B (ev_fn (ea_cons (ev_var rfl) ea_nil) fun _ _ => r_whole _))) fun _ => et_not (et_test (ev_chain ev_c (ev_var rfl) rv_I0 ev_c rv_I0))) ?_) (fun z => nomatch z) fun _ H4 e4 => ?_
    · rw [decide_eq_true (show (1 : Int) ≤ (m : Int) by omega), decide_eq_true (show (m : Int) ≤ (3000 : Int) by omega)]
      rfl
    have e04 := ((e1.trans e2).trans e3).trans e4
    refine q_asgL (el_lst ea_nil (Nat.zero_le _)) fun p H5 np e5 hp => ?_
    have np0 := fresh_back e04 np
    refine q_forR2 (lo := 1) (n := (b : Int)) (ea_cons ev_c (ea_cons (ev_var rfl) ea_nil)) ⟨by omega, by omega, by omega, by omega⟩
      (fun i σ H' => ∃ x5 x6, σ = [some (vi b), some (vi f), some (vs' fr), some (vi m), some (.ref p), x5, x6] ∧ Ex H H' ∧ H' p = some (.lst (vl (allTo b f fr m i))))
      (fun H6 e6 => ⟨none, none, rfl, (e04.trans e5).trans e6, e6 _ _ hp⟩) ?_ ?_
    · rintro i σ' H6 hi ⟨x5, x6, rfl, e6, hp6⟩
      have B : Bfd b f (1 + i) := ⟨b3, b36, f2, fb, by omega, by omega⟩
      refine q_asg (ev_fn (ea_cons (ev_var rfl) (ea_cons (ev_var rfl) (ea_cons (ev_var rfl) (ea_cons (ev_var rfl) ea_nil)))) fun _ _ => ⟨b, f, fr, 1 + i, rfl, B, rfl⟩) fun H7 e7 => ?_
      have al := allTo_len b f fr m i
      have hs := allTo_succ b f fr m i
      have ht : ∀ {H : Hp}, EvT (tAnd (tTest (tOp (fun x y H Q => y = V.non ∧ Q (V.bl (!decide (x = V.non))) H) (tVar 6) (tC .non))) (tTest (tOp rEq (tOp (rI (fun _ j => 0 < j) fun i j => .int (i % j)) (tVar 3) (tVar 6)) (tC (.int 0))))) [some (vi b), some (vi f), some (vs' fr), some (vi m), some (.ref p), some (vi (1 + i)), some (optV (lenOf b f fr (1 + i)))] H (okL (lenOf b f fr (1 + i)) m) := by
        intro H
        cases q : lenOf b f fr (1 + i) with
        | none => exact et_is (et_and (b := true) (et_test (ev_op (ev_var rfl) ev_c rv_notN)) fun z => nomatch z) rfl
        | some l =>
          have l2 := len_two B q
          refine et_is (et_and (et_test (ev_op (ev_var rfl) ev_c rv_notN)) fun _ => et_test (ev_op (ev_op (ev_var rfl) (ev_var rfl) (rv_I (show (0 : Int) < (l : Int) by omega))) ev_c (rv_eq rfl))) ?_
          show (true && decide (vi (m % l) = vi 0)) = (m % l == 0)
          rw [dec_vi, Bool.true_and]
          rfl
      refine s_when ht (fun hb H8 e8 => ?_) (fun hb H8 e8 => ?_)
      · rw [if_pos hb] at hs
        refine s_app (e8 _ _ (e7 _ _ hp6)) (ev_var rfl) (ev_fn (ea_cons (ev_var rfl) (ea_cons (ev_var rfl) (ea_cons (ev_var rfl) (ea_cons (ev_var rfl) (ea_cons (ev_var rfl) ea_nil))))) fun _ _ => ⟨b, f, fr, 1 + i, m, rfl, B, m1, m2, rfl⟩) (by rw [List.length_map]; omega) fun H9 e9 => ⟨_, _, rfl, Ex.mut (((e6.trans e7).trans e8).trans e9) np0, ?_⟩
        rw [upd_same, hs, vl_app]
        rfl
      · rw [if_neg (by rw [hb]; decide), List.append_nil] at hs
        refine ⟨_, _, rfl, (e6.trans e7).trans e8, ?_⟩
        rw [hs]
        exact e8 _ _ (e7 _ _ hp6)
    · rintro σ' H6 ⟨x5, x6, rfl, e6, hp6⟩
      refine s_ret (ev_var rfl) fun H7 e7 => k p H7 np0 (e6.trans e7) ?_
      rw [e7 _ _ hp6]
      have : ((b : Int) - 1).toNat = b - 1 := by omega
      rw [this]
      rfl
def R_share : List V → Hp → List V → Prop := fun vs _ xs => ∃ b f d : Nat, vs = [vi b, vi f, vi d] ∧ Bfd b f d ∧ f ≤ d ∧ xs = [vi (top b f d), vi (cut (f * b - 1) d)]
end
end Tf

namespace Tf
open PySem PySem.Spec PyProof.Rows L2 Evl
/-! ### lengths of all moved figures; all of so many -/
/-- the lengths of all moved figures -/
def lens (b f : Nat) (fr : Bool) : List V := (List.range (b - 1)).map fun i => optV (lenOf b f fr (1 + i))
theorem lens_get {b f : Nat} {fr : Bool} {i : Nat} {x : V} (h : (lens b f fr)[i]? = some x) : i < b - 1 ∧ x = optV (lenOf b f fr (1 + i)) := by
  unfold lens at h
  rw [List.getElem?_map] at h
  by_cases z : i < b - 1
  · rw [List.getElem?_range z] at h
    exact ⟨z, (Option.some.inj h).symm⟩
  · rw [List.getElem?_eq_none (by rw [List.length_range]; omega)] at h
    cases h
theorem lens_len (b f : Nat) (fr : Bool) : (lens b f fr).length = b - 1 := by
  unfold lens
  rw [List.length_map, List.length_range]
theorem mem_lt {b f m x : Nat} {fr : Bool} (b3 : 3 ≤ b) (b36 : b ≤ 36) (f2 : 2 ≤ f) (fb : f < b) (hm : 1 ≤ m) (hm2 : m ≤ 3000) (h : x ∈ allOf b f fr m) : x < 2 ^ 50000 := by
  have h1 := (allOf_lt b3 b36 f2 fb hm h).2
  have h2 : b ^ (m - 1) * b = b ^ m := by
    obtain ⟨j, rfl⟩ : ∃ j, m = j + 1 := ⟨m - 1, by omega⟩
    rw [Nat.add_sub_cancel, Nat.pow_succ]
  rw [h2] at h1
  exact lt_50000 (Nat.lt_trans h1 (pow_lt_two b36 (by omega)))
theorem trn_mem {b f m x : Nat} {fr : Bool} (b3 : 3 ≤ b) (b36 : b ≤ 36) (f2 : 2 ≤ f) (fb : f < b) (hm : 1 ≤ m) (h : x ∈ allOf b f fr m) : trn b f fr x = true := by
  obtain ⟨h1, h2, h3⟩ := (mem_allOf b3 b36 f2 fb hm).mp h
  unfold trn
  rw [decide_eq_true h1, decide_eq_true h3]
  rfl
theorem side_at (j : Nat) (h : j < 2) : atI [V.str "front", V.str "behind"] (j : Int) = some (vs' (j == 0)) := by
  match j, h with
  | 0, _ => exact atI_nat (j := 0) rfl
  | 1, _ => exact atI_nat (j := 1) rfl
end Tf

namespace Tf
open PySem PySem.Spec PyProof.Rows L2 Evl
/-! ### answers.py, turning.py: answers, the least one -/
section
variable {P : Program} {w : World} {K : PySem.W.Frag} {mg : Str → Option Value} {base : Heap}
abbrev s_Turns___init__ : Stmt := inClass (topS 19) 0
abbrev N_Turns___init__ : List Str := ["self", "number"]
abbrev P_Turns___init__ : List Str := ["self", "number"]
theorem sc_Turns___init__ : FnScope N_Turns___init__ P_Turns___init__ (defScope s_Turns___init__) := ⟨rfl, rfl, rfl, by decide +kernel, rfl, by decide +kernel, by decide +kernel⟩

theorem ok_Turns___init__ {f CT : Addr} {fd : FuncData} (F : Fun K "__init__" "Turns.__init__" s_Turns___init__ f fd) (KT : Kls K mg "Turns" CT) (NT : NoAttr K CT "number") : FnOk P w K mg base CX0 1 f fd P_Turns___init__ (spInit1 CT "number") := by
  refine F.ok sc_Turns___init__ (fun vs H Q E h => ?_) (fun cdv A outer s H vs Q E hr h => ?_)
  · obtain ⟨p, dx, v, rfl, _⟩ := h
    rfl
  · obtain ⟨p, dx, v, rfl, hp, k⟩ := h
    refine ⟨_, (pss_one (ps_fld (pv 0) (pv 1) rfl)), ?_⟩
    exact ⟨v, rfl, .ref p, rfl, p, CT, dx, [], rfl, hp, KT.cl, NT, by show 0 < 1000; decide, k⟩
abbrev nf (n : Int) : List (Str × V) := [("number", .int n)]
theorem nf_get (n : Int) : (nf n).lookup ("number" : Str) = some (.int n) := by
  have h : (("number" : Str) == "number") = true := by decide +kernel
  show (match ("number" : Str) == "number" with | true => some (V.int n) | false => List.lookup ("number" : Str) []) = _
  rw [h]
theorem nf_shows (n : Int) : (nf n).lookup ("shows" : Str) = none := by
  have h : (("shows" : Str) == "number") = false := by decide +kernel
  show (match ("shows" : Str) == "number" with | true => some (V.int n) | false => List.lookup ("shows" : Str) []) = none
  rw [h]
  rfl
def R_tshows (CT : Addr) : List V → Hp → V → Prop := fun vs H v => ∃ (p dx : Addr) (n : Int) (b f : Nat) (fr : Bool), vs = [.ref p, vi b, vi f, vs' fr] ∧ H p = some (.ins CT dx (nf n)) ∧ 2 ≤ b ∧ b ≤ 36 ∧ f ≤ 36 ∧ n < 2 ^ 50000 ∧ v = .bl (trn b f fr n.toNat)
abbrev s_Turns_shows : Stmt := inClass (topS 19) 1
abbrev N_Turns_shows : List Str := ["self", "base", "factor", "side"]
abbrev P_Turns_shows : List Str := ["self", "base", "factor", "side"]
theorem sc_Turns_shows : FnScope N_Turns_shows P_Turns_shows (defScope s_Turns_shows) := ⟨rfl, rfl, rfl, by decide +kernel, rfl, by decide +kernel, by decide +kernel⟩

theorem ok_Turns_shows {f CT : Addr} {fd : FuncData} (F : Fun K "shows" "Turns.shows" s_Turns_shows f fd) (KT : Kls K mg "Turns" CT) (NT : NoAttr K CT "number") (h_moved_of : Has P w K mg base "moved_of" P_moved_of 2 (spV R_moved_of)) : FnOk P w K mg base CX0 3 f fd P_Turns_shows (spV (R_tshows CT)) := by
  refine F.ok sc_Turns_shows (fun vs H Q E h => ?_) (fun cdv A outer s H vs Q E hr h => ?_)
  · obtain ⟨v, ⟨p, dx, n, b, f, fr, rfl, _⟩, _⟩ := h
    rfl
  · obtain ⟨v, ⟨p, dx, n, b, f, fr, rfl, hp, b2, b36, f36, hn, rfl⟩, k⟩ := h
    refine ⟨_, (pss_one (ps_ret (pe_and (pe_cmpR op_gt (pe_fld (pv 0) rfl) pe_int (nomark _)) (pe_one (pe_cmpR op_eq (pe_fn h_moved_of hr (by rfl) (pa_cons (pv 1) (pa_cons (pe_fld (pv 0) rfl) (pa_cons (pv 3) pa_nil)))) (pe_op op_mul (pv 2) (pe_fld (pv 0) rfl)) (nomark _)))))), ?_⟩
    have fld : ∀ {H1 : Hp}, Ex H H1 → Ev (tFld K (tVar 0) "number") [some (.ref p), some (vi b), some (vi f), some (vs' fr)] H1 (.int n) := fun e => ev_fldJ (ej_old (ev_var rfl) (e _ _ hp)) KT.cl NT (nf_get n)
    refine s_ret (ev_andV (a := decide (0 < n.toNat)) (ev_is (ev_op (fld (Ex.refl _)) ev_c rv_I0) ?_) fun h0 => ?_) k
    · show V.bl (decide ((0 : Int) < n)) = _
      by_cases z : 0 < n
      · rw [decide_eq_true z, decide_eq_true (by omega)]
      · rw [decide_eq_false z, decide_eq_false (by omega)]
    · have h1 : 0 < n.toNat := of_decide_eq_true h0
      have en : n = ((n.toNat : Nat) : Int) := by omega
      have fld2 : Ev (tFld K (tVar 0) "number") [some (.ref p), some (vi b), some (vi f), some (vs' fr)] H (vi n.toNat) := ev_is (fld (Ex.refl _)) (congrArg V.int en)
      have hn2 : n.toNat < 2 ^ 50000 := by
        rw [en] at hn
        exact_mod_cast hn
      refine ev_is (ev_op (ev_fn (ea_cons (ev_var rfl) (ea_cons fld2 (ea_cons (ev_var rfl) ea_nil))) fun _ _ => ⟨b, n.toNat, fr, rfl, b2, b36, hn2, rfl⟩) (ev_op (ev_var rfl) fld2 (rv_I (.inl ⟨show (-(2 ^ 64) : Int) < (f : Int) by omega, show (f : Int) < 2 ^ 64 by omega⟩))) (rv_eq rfl)) ?_
      exact congrArg V.bl (dec_vi (mv b n.toNat fr) (f * n.toNat))
def R_nshows : List V → Hp → V → Prop := fun vs _ v => ∃ (p : Addr) (b f : Nat) (fr : Bool), vs = [.ref p, vi b, vi f, vs' fr] ∧ 3 ≤ b ∧ b ≤ 36 ∧ 2 ≤ f ∧ f < b ∧ v = .bl (nev b f fr)
abbrev s_Never_shows : Stmt := inClass (topS 20) 0
abbrev N_Never_shows : List Str := ["self", "base", "factor", "side", "figure"]
abbrev P_Never_shows : List Str := ["self", "base", "factor", "side"]
theorem sc_Never_shows : FnScope N_Never_shows P_Never_shows (defScope s_Never_shows) := ⟨rfl, rfl, rfl, by decide +kernel, rfl, by decide +kernel, by decide +kernel⟩

theorem ok_Never_shows {f : Addr} {fd : FuncData} (T : Nm mg) (F : Fun K "shows" "Never.shows" s_Never_shows f fd) (h_length_of : Has P w K mg base "length_of" P_length_of 3 (spV R_length_of)) : FnOk P w K mg base CX0 4 f fd P_Never_shows (spV R_nshows) := by
  refine F.ok sc_Never_shows (fun vs H Q E h => ?_) (fun cdv A outer s H vs Q E hr h => ?_)
  · obtain ⟨v, ⟨p, b, f, fr, rfl, _⟩, _⟩ := h
    rfl
  · obtain ⟨v, ⟨p, b, f, fr, rfl, b3, b36, f2, fb, rfl⟩, k⟩ := h
    refine ⟨_, (pss_one (ps_ret (pe_not (pe_callB (cr_any rfl) (by rfl) T.n_any (by decide +kernel) (pa_cons (pe_lc (own := [("figure", 4)]) (g := gName 4) (tt := tYes) rfl sc_Never_shows.nd (pi_range2 (by rfl) T.n_range (pa_cons pe_int (pa_cons (pv 1) pa_nil))) (blkOk_by (own := [("figure", 4)]) (N := N_Never_shows) (sc := defScope s_Never_shows) (by decide +kernel)) (fun _ _ _ _ _ => pg_name (i := 4) sc_Never_shows.nd rfl (.inl rfl)) (fun _ _ _ _ _ => pts_nil) (fun _ _ _ _ _ => (pe_cmpR op_notN (pe_fn h_length_of hr (by rfl) (pa_cons (pv 1) (pa_cons (pv 2) (pa_cons (pv 3) (pa_cons (pv 4) pa_nil))))) pe_non (nomark _)))) pa_nil))))), ?_⟩
    refine s_ret (ev_is (ev_notV (ev_any (bs := (List.range (b - 1)).map fun i => (lenOf b f fr (1 + i)).isSome) (eq_new (el_is (el_lcR2 (n := b - 1) (fun _ => true) (fun i => V.bl (lenOf b f fr (1 + i)).isSome) (ea_cons ev_c (ea_cons (ev_var rfl) ea_nil)) ⟨by omega, by omega, by omega, by omega⟩ (by omega) (by omega) (fun x => rfl) (fun i H5 e5 _ => et_yes) (fun i H5 e5 hi _ => ?_)) ?_)))) ?_) k
    · have B : Bfd b f (1 + i) := ⟨b3, b36, f2, fb, by omega, by omega⟩
      refine ev_is (ev_op (ev_fn (ea_cons (ev_var rfl) (ea_cons (ev_var rfl) (ea_cons (ev_var rfl) (ea_cons (ev_var rfl) ea_nil)))) fun _ _ => ⟨b, f, fr, 1 + i, rfl, B, rfl⟩) ev_c rv_notN) ?_
      cases lenOf b f fr (1 + i) <;> rfl
    · rw [given_all, List.map_map]
      rfl
    · unfold nev
      rw [List.any_map]
      rfl
/-- the lengths that are some, out of all -/
theorem some_of (g : Nat → Option Nat) : ∀ l : List Nat, (l.filter fun i => (g i).isSome).map (fun i => optV (g i)) = vl (l.filterMap g)
  | [] => rfl
  | i :: l => by
    have ih := some_of g l
    cases q : g i with
    | none =>
      rw [List.filter_cons, q, List.filterMap_cons, q]
      exact ih
    | some m =>
      rw [List.filter_cons, q, List.filterMap_cons, q]
      show optV (g i) :: (l.filter fun i => (g i).isSome).map (fun i => optV (g i)) = vi m :: vl (l.filterMap g)
      rw [ih, q]
      rfl
theorem some_lens (b f : Nat) (fr : Bool) : given (lens b f fr).length (fun i => (lenOf b f fr (1 + i)).isSome) (fun i => optV (lenOf b f fr (1 + i))) = vl (someL b f fr) := by
  rw [lens_len]
  exact some_of (fun i => lenOf b f fr (1 + i)) (List.range (b - 1))
theorem lens_flat (b f : Nat) (fr : Bool) : (lens b f fr).all flatV = true := by
  rw [List.all_eq_true]
  intro x hx
  obtain ⟨i, _, rfl⟩ := List.mem_map.mp hx
  cases lenOf b f fr (1 + i) <;> rfl
def spLeast (CT CN : Addr) : Sp := fun vs H Q _ => ∃ (b f : Nat) (fr : Bool), vs = [vi b, vi f, vs' fr] ∧ 3 ≤ b ∧ b ≤ 36 ∧ 2 ≤ f ∧ f < b ∧ (match leastOf b f fr with | none => RetI CN [] H Q | some x => RetI CT (nf (x : Int)) H Q)
end
end Tf

namespace Tf
open PySem PySem.Spec PyProof.Rows L2 Evl
/-! ### the law's own helpers -/
def lnum (c a wh : Int) : Int :=
  let c' := if (10 : Int) ^ 60 ≤ (c.natAbs : Int) then c % 10 ^ 18 else c
  if (10 : Int) ^ 18 ≤ c' then c' / (1 + a % 7)
  else
    let bl := ((c' + 977 * a) * 48271 + wh) % 2147483647
    bl * (c' + 31 * a + 7) * (bl + c' + 5) * (bl * bl + 11) / (1009 + a)
theorem div_abs_le {x y : Int} (hy : 0 < y) : (x / y).natAbs ≤ x.natAbs := by
  have h1 := Int.ediv_mul_le x (Int.ne_of_gt hy)
  have h2 := Int.lt_ediv_add_one_mul_self x hy
  by_cases hx : 0 ≤ x
  · have a := Int.ediv_nonneg hx (Int.le_of_lt hy)
    have b := Int.ediv_le_self y hx
    omega
  · have a : x / y < 0 := Int.ediv_neg_of_neg_of_pos (by omega) hy
    have b : x ≤ x / y := by
      have c : x / y * y ≤ x / y * 1 := Int.mul_le_mul_of_nonpos_left (by omega) (by omega)
      have d := Int.emod_lt_of_pos x hy
      have f := Int.mul_ediv_add_emod x y
      rw [Int.mul_comm] at f
      by_cases g : x / y = -1
      · omega
      · have y1 : (x / y + 1) * y ≤ (x / y + 1) * 1 := Int.mul_le_mul_of_nonpos_left (by omega) (by omega)
        omega
    omega
section
variable {P : Program} {w : World} {K : PySem.W.Frag} {mg : Str → Option Value} {base : Heap}
def R_lnum : List V → Hp → V → Prop := fun vs _ v => ∃ c a wh : Int, vs = [.int c, .int a, .int wh] ∧ 0 ≤ a ∧ a ≤ 1000 ∧ v = .int (lnum c a wh) 
abbrev s__law_number : Stmt := topS 28
abbrev N__law_number : List Str := ["_law_cell", "_law_at", "_law_whole", "_law_blend", "_law_more"]
abbrev P__law_number : List Str := ["_law_cell", "_law_at", "_law_whole"]
theorem sc__law_number : FnScope N__law_number P__law_number (defScope s__law_number) := ⟨rfl, rfl, rfl, by decide +kernel, rfl, by decide +kernel, by decide +kernel⟩

theorem ok__law_number {f : Addr} {fd : FuncData} (T : Nm mg) (F : Fun K "_law_number" "_law_number" s__law_number f fd) : FnOk P w K mg base CX0 1 f fd P__law_number (spV R_lnum) := by
  refine F.ok sc__law_number (fun vs H Q E h => ?_) (fun cdv A outer s H vs Q E hr h => ?_)
  · obtain ⟨v, ⟨c, a, wh, rfl, _⟩, _⟩ := h
    rfl
  · obtain ⟨v, ⟨c, a, wh, rfl, h1, h2, rfl⟩, k⟩ := h
    refine ⟨_, (pss_cut (ps_if (pt_cmpR op_ge (pe_callB call_abs (by rfl) T.n_abs (by decide +kernel) (pa_cons (pv 0) pa_nil)) (pe_op op_pow pe_int pe_int) (nomark _)) (pss_one (ps_set (i := 0) sc__law_number.nd rfl (.inl rfl) (pe_op op_mod (pv 0) (pe_op op_pow pe_int pe_int)))) pss_nil)
      (pss_cons (ps_if (pt_cmpR op_ge (pv 0) (pe_op op_pow pe_int pe_int) (nomark _)) (pss_one (ps_ret (pe_op op_fdiv (pv 0) (pe_op op_add pe_int (pe_op op_mod (pv 1) pe_int))))) pss_nil)
      (pss_cons (ps_set (i := 3) sc__law_number.nd rfl (.inl rfl) (pe_op op_mod (pe_op op_add (pe_op op_mul (pe_op op_add (pv 0) (pe_op op_mul pe_int (pv 1))) pe_int) (pv 2)) pe_int))
      (pss_cons (ps_set (i := 4) sc__law_number.nd rfl (.inl rfl) (pe_op op_mul (pv 3) (pe_op op_add (pe_op op_add (pv 0) (pe_op op_mul pe_int (pv 1))) pe_int)))
      (pss_one (ps_ret (pe_op op_fdiv (pe_op op_mul (pe_op op_mulW (pv 4) (pe_op op_add (pe_op op_add (pv 3) (pv 0)) pe_int)) (pe_op op_add (pe_op op_mul (pv 3) (pv 3)) pe_int)) (pe_op op_add pe_int (pv 1))))))))), ?_⟩
    refine q_mid (M := fun σ' H' => σ' = [some (.int (if (10 : Int) ^ 60 ≤ (c.natAbs : Int) then c % 10 ^ 18 else c)), some (.int a), some (.int wh), none, none] ∧ Ex H H') ?_ ?_
    · refine s_when (et_test (ev_op (ev_abs (ev_var rfl)) (ev_op ev_c ev_c (rv_I ⟨by decide, by decide, by decide⟩)) rv_I0)) (fun hb H1 e1 => ?_) (fun hb H1 e1 => ?_)
      · refine s_asg (ev_op (ev_var rfl) (ev_op ev_c ev_c (rv_I ⟨by decide, by decide, by decide⟩)) (rv_I (by decide +kernel))) fun H2 e2 => ⟨?_, e1.trans e2⟩
        rw [if_pos (show (10 : Int) ^ 60 ≤ (c.natAbs : Int) from of_decide_eq_true hb)]
        rfl
      · refine ⟨?_, e1⟩
        rw [if_neg (show ¬ (10 : Int) ^ 60 ≤ (c.natAbs : Int) from of_decide_eq_false hb)]
        rfl
    · rintro σ' H' ⟨rfl, e1⟩
      unfold lnum at k
      have hc : ∀ d : Int, d = (if (10 : Int) ^ 60 ≤ (c.natAbs : Int) then c % 10 ^ 18 else c) → d.natAbs < 10 ^ 60 := by
        rintro d rfl
        split
        · have a1 := Int.emod_nonneg c (show (10 : Int) ^ 18 ≠ 0 by decide)
          have a2 := Int.emod_lt_of_pos c (show (0 : Int) < 10 ^ 18 by decide)
          omega
        · omega
      generalize hd : (if (10 : Int) ^ 60 ≤ (c.natAbs : Int) then c % 10 ^ 18 else c) = d at *
      have hd2 := hc d rfl
      refine q_when (et_test (ev_op (ev_var rfl) (ev_op ev_c ev_c (rv_I ⟨by decide, by decide, by decide⟩)) rv_I0)) (fun hb H2 e2 => ?_) (fun hb H2 e2 => ?_)
      · have m1 := Int.emod_nonneg a (show (7 : Int) ≠ 0 by decide)
        have m2 := Int.emod_lt_of_pos a (show (0 : Int) < 7 by decide)
        refine s_ret (ev_op (ev_var rfl) (ev_op ev_c (ev_op (ev_var rfl) ev_c (rv_I (by decide))) rv_I0) (rv_I ⟨by omega, by omega⟩)) fun H3 e3 => ?_
        have g := k H3 ((e1.trans e2).trans e3)
        rw [if_pos (show (10 : Int) ^ 18 ≤ d from of_decide_eq_true hb)] at g
        exact g
      · have g := fun H3 (e3 : Ex H H3) => k H3 e3
        simp only [if_neg (show ¬ (10 : Int) ^ 18 ≤ d from of_decide_eq_false hb)] at g
        refine q_asg (ev_op (ev_op (ev_op (ev_op (ev_var rfl) (ev_op ev_c (ev_var rfl) (rv_I (.inl ⟨by decide, by decide⟩))) rv_I0) ev_c (rv_I (.inr ⟨by decide, by decide⟩))) (ev_var rfl) rv_I0) ev_c (rv_I (by decide))) fun H3 e3 => ?_
        have n1 := Int.emod_nonneg ((d + 977 * a) * 48271 + wh) (show (2147483647 : Int) ≠ 0 by decide)
        have n2 := Int.emod_lt_of_pos ((d + 977 * a) * 48271 + wh) (show (0 : Int) < 2147483647 by decide)
        generalize ((d + 977 * a) * 48271 + wh) % 2147483647 = bl at *
        have nb : bl * bl ≤ 2147483647 * 2147483647 := Int.mul_le_mul (by omega) (by omega) n1 (by omega)
        have nb0 : 0 ≤ bl * bl := Int.mul_nonneg n1 n1
        refine q_asg (ev_op (ev_var rfl) (ev_op (ev_op (ev_var rfl) (ev_op ev_c (ev_var rfl) (rv_I (.inl ⟨by decide, by decide⟩))) rv_I0) ev_c rv_I0) (rv_I (.inl ⟨by omega, by omega⟩))) fun H4 e4 => ?_
        have w1 : (bl * (d + 31 * a + 7)).natAbs < 2 ^ (31 + 201) := wide_lt (by omega) (by omega)
        refine s_ret (ev_op (ev_op (ev_op (ev_var rfl) (ev_op (ev_op (ev_var rfl) (ev_var rfl) rv_I0) ev_c rv_I0) (rv_I (wide_mul (a := 31 + 201) (b := 201) w1 (by omega) (by decide) (by decide) (by decide)))) (ev_op (ev_op (ev_var rfl) (ev_var rfl) (rv_I (.inl ⟨by omega, by omega⟩))) ev_c rv_I0) (rv_I (.inr ⟨by omega, by omega⟩))) (ev_op ev_c (ev_var rfl) rv_I0) (rv_I ⟨by omega, by omega⟩)) fun H5 e5 => ?_
        exact g H5 ((((e1.trans e2).trans e3).trans e4).trans e5)
abbrev s__law_figures : Stmt := topS 29
abbrev N__law_figures : List Str := ["_law_base", "_law_number_here", "_law_found"]
abbrev P__law_figures : List Str := ["_law_base", "_law_number_here"]
theorem sc__law_figures : FnScope N__law_figures P__law_figures (defScope s__law_figures) := ⟨rfl, rfl, rfl, by decide +kernel, rfl, by decide +kernel, by decide +kernel⟩

theorem ok__law_figures {f : Addr} {fd : FuncData} (F : Fun K "_law_figures" "_law_figures" s__law_figures f fd) : FnOk P w K mg base CX0 1 f fd P__law_figures (spL R_figs) := by
  refine F.ok sc__law_figures (fun vs H Q E h => ?_) (fun cdv A outer s H vs Q E hr h => ?_)
  · obtain ⟨v, ⟨b, n, rfl, _⟩, _⟩ := h
    rfl
  · obtain ⟨xs, ⟨b, n, rfl, hb, hb2, hn, rfl⟩, k⟩ := h
    refine ⟨_, (pss_cons (ps_set (i := 2) sc__law_figures.nd rfl (.inl rfl) (pe_lst pa_nil))
      (pss_cons (ps_while PassesOwn.never (pt_cmpR op_gt (pv 1) pe_int (nomark _)) (pss_cons (ps_set (i := 2) sc__law_figures.nd rfl (.inl rfl) (pe_op op_cat (pe_lst (pa_cons (pe_op op_mod (pv 1) (pv 0)) pa_nil)) (pv 2)))
      (pss_one (ps_set (i := 1) sc__law_figures.nd rfl (.inl rfl) (pe_op op_fdiv (pv 1) (pv 0))))))
      (pss_one (ps_ret (pv 2))))), ?_⟩
    refine q_asgL (el_lst ea_nil (Nat.zero_le _)) fun p H1 np e1 hp => ?_
    have hlen := figs_len2 hb hn
    refine q_while (fun m σ H' => ∃ (acc : List Nat) (p : Addr), σ = [some (vi b), some (vi m), some (.ref p)] ∧ Ex H H' ∧ H p = none ∧ H' p = some (.lst (vl acc)) ∧ figs b m ++ acc = figs b n) n ⟨[], p, rfl, e1, np, hp, List.append_nil _⟩ ?_
    rintro m σ' H' ⟨acc, p, rfl, e2, np, hp2, ha⟩
    refine ⟨_, et_test (ev_op (ev_var rfl) ev_c rv_I0), fun hm H3 e3 => ⟨_, fun σ2 H2 z => z, ?_⟩, fun hm H3 e3 => ?_⟩
    · have hm' : 0 < m := by
        have := of_decide_eq_true hm
        omega
      have hl := figs_pos (b := b) hb hm'
      rw [hl] at ha
      have hacc : acc.length < 100000 := by
        have := congrArg List.length ha
        rw [List.length_append] at this
        omega
      refine q_asgL (el_cat (es_new (el_lst (ea_cons (ev_op (ev_var rfl) (ev_var rfl) (rv_I (show (0 : Int) < (b : Int) by omega))) ea_nil) (show 1 ≤ 100000 by decide))) (es_old (ev_var rfl) (e3 _ _ hp2)) (by rw [List.length_map]; simp only [List.length_cons, List.length_nil]; omega)) fun p2 H4 np2 e4 hp4 => ?_
      refine s_asg (ev_op (ev_var rfl) (ev_var rfl) (rv_I ⟨show (0 : Int) < (b : Int) by omega, show (b : Int) < 1073741824 by omega⟩)) fun H5 e5 => ?_
      refine ⟨m / b, div_lt hb hm', (m % b) :: acc, p2, rfl, ?_, ?_, ?_, ?_⟩
      · exact ((e2.trans e3).trans e4).trans e5
      · exact fresh_back (e2.trans e3) np2
      · exact e5 _ _ hp4
      · rw [List.append_assoc] at ha
        exact ha
    · have hm' : m = 0 := by
        have := of_decide_eq_false hm
        omega
      subst hm'
      rw [figs_zero, List.nil_append] at ha
      subst ha
      exact s_ret (ev_var rfl) fun H4 e4 => k p H4 np ((e2.trans e3).trans e4) (e4 _ _ (e3 _ _ hp2))
abbrev s__law_worth : Stmt := topS 30
abbrev N__law_worth : List Str := ["_law_base", "_law_row", "_law_found", "_law_figure"]
abbrev P__law_worth : List Str := ["_law_base", "_law_row"]
theorem sc__law_worth : FnScope N__law_worth P__law_worth (defScope s__law_worth) := ⟨rfl, rfl, rfl, by decide +kernel, rfl, by decide +kernel, by decide +kernel⟩

theorem ok__law_worth {f : Addr} {fd : FuncData} (F : Fun K "_law_worth" "_law_worth" s__law_worth f fd) : FnOk P w K mg base CX0 1 f fd P__law_worth (spV (R_worth K)) := by
  refine F.ok sc__law_worth (fun vs H Q E h => ?_) (fun cdv A outer s H vs Q E hr h => ?_)
  · obtain ⟨v, ⟨b, a, ds, rfl, _⟩, _⟩ := h
    rfl
  · obtain ⟨v, ⟨b, a, ds, rfl, hb, hS, rfl⟩, k⟩ := h
    refine ⟨_, (pss_cons (ps_set (i := 2) sc__law_worth.nd rfl (.inl rfl) pe_int)
      (pss_cons (ps_for PassesOwn.never rfl (pi_list (pv 1)) (pg_name (i := 3) sc__law_worth.nd rfl (.inl rfl)) (pss_one (ps_set (i := 2) sc__law_worth.nd rfl (.inl rfl) (pe_op op_add (pe_op op_mul (pv 2) (pv 0)) (pv 3)))))
      (pss_one (ps_ret (pv 2))))), ?_⟩
    refine q_asg ev_c fun H1 e1 => ?_
    refine q_forLn (ev_var rfl) (ex_l e1 hS) (fun i σ H' => ∃ x, σ = [some (vi b), some (.ref a), some (vi (wr b (ds.take i))), x] ∧ Ex H H') (fun H2 e2 => ⟨none, rfl, e1.trans e2⟩) (fun i σ' H' _ ⟨x, _, e⟩ => ex_l e hS) ?_ ?_
    · rintro i x σ' H' hx ⟨y, rfl, e2⟩
      obtain ⟨d, hd, rfl⟩ := get_vl hx
      refine s_asg (ev_op (ev_op (ev_var rfl) (ev_var rfl) (rv_I (.inr ⟨?_, ?_⟩))) (ev_var rfl) rv_I0) fun H3 e3 => ⟨some (vi d), ?_, e2.trans e3⟩
      · show (-(2 ^ 64) : Int) < (b : Int)
        omega
      · show (b : Int) < 2 ^ 64
        omega
      · rw [wr_take hd]
        rfl
    · rintro σ' H' ⟨x, rfl, e2⟩
      refine s_ret (ev_var rfl) fun H3 e3 => ?_
      rw [List.length_map, List.take_length]
      exact k H3 (e2.trans e3)
def R_lmoved : List V → Hp → V → Prop := fun vs _ v => ∃ (b n : Nat) (fr : Bool), vs = [vi b, vi n, vs' fr] ∧ 2 ≤ b ∧ b ≤ 36 ∧ 1 ≤ n ∧ n < 2 ^ 50000 ∧ v = vi (mv b n fr)
theorem drop_last {ds : List Nat} {d : Nat} (h : ds[ds.length - 1]? = some d) : ds.drop (ds.length - 1) = [d] := by
  have l := (List.getElem?_eq_some_iff.mp h).1
  rw [List.drop_eq_getElem_cons l, List.drop_of_length_le (by omega)]
  rw [List.getElem?_eq_getElem l] at h
  rw [Option.some.inj h]
theorem take_first {ds : List Nat} {d : Nat} (h : ds[0]? = some d) : ds.take 1 = [d] := by
  cases ds with
  | nil => cases h
  | cons x r => rw [← Option.some.inj h]; rfl
theorem atI_lastN {ds : List Nat} {d : Nat} (h : ds[ds.length - 1]? = some d) : atI (vl ds) (-1) = some (vi d) := by
  have t := List.take_append_drop (ds.length - 1) ds
  rw [drop_last h] at t
  rw [← t, vl_app]
  exact atI_last _ _
theorem atI_natN {ds : List Nat} {i d : Nat} (h : ds[i]? = some d) : atI (vl ds) (i : Int) = some (vi d) := atI_nat (by rw [List.getElem?_map, h]; rfl)
abbrev s__law_moved : Stmt := topS 31
abbrev N__law_moved : List Str := ["_law_base", "_law_number_here", "_law_side", "_law_row"]
abbrev P__law_moved : List Str := ["_law_base", "_law_number_here", "_law_side"]
theorem sc__law_moved : FnScope N__law_moved P__law_moved (defScope s__law_moved) := ⟨rfl, rfl, rfl, by decide +kernel, rfl, by decide +kernel, by decide +kernel⟩

theorem ok__law_moved {f : Addr} {fd : FuncData} (F : Fun K "_law_moved" "_law_moved" s__law_moved f fd) (h__law_figures : Has P w K mg base "_law_figures" P__law_figures 1 (spL R_figs)) (h__law_worth : Has P w K mg base "_law_worth" P__law_worth 1 (spV (R_worth K))) :
    FnOk P w K mg base CX0 2 f fd P__law_moved (spV R_lmoved) := by
  refine F.ok sc__law_moved (fun vs H Q E h => ?_) (fun cdv A outer s H vs Q E hr h => ?_)
  · obtain ⟨v, ⟨b, n, fr, rfl, _⟩, _⟩ := h
    rfl
  · obtain ⟨v, ⟨b, n, fr, rfl, h1, h2, h3, hn, rfl⟩, k⟩ := h
    refine ⟨_, (pss_cons (ps_set (i := 3) sc__law_moved.nd rfl (.inl rfl) (pe_fn h__law_figures hr (by rfl) (pa_cons (pv 0) (pa_cons (pv 1) pa_nil))))
      (pss_cons (ps_if (pt_cmpR op_eq (pv 2) pe_str (nomark _)) (pss_one (ps_ret (pe_fn h__law_worth hr (by rfl) (pa_cons (pv 0) (pa_cons (pe_op op_cat (pe_lst (pa_cons (pe_ix ix_list (pv 3) (pe_un un_neg pe_int) (fun _ _ => rfl)) pa_nil)) (pe_slice sl_list (pv 3) po_none (po_some (pe_un un_neg pe_int)))) pa_nil))))) pss_nil)
      (pss_one (ps_ret (pe_fn h__law_worth hr (by rfl) (pa_cons (pv 0) (pa_cons (pe_op op_cat (pe_slice sl_list (pv 3) (po_some pe_int) po_none) (pe_lst (pa_cons (pe_ix ix_list (pv 3) pe_int (fun _ _ => rfl)) pa_nil))) pa_nil))))))), ?_⟩
    refine q_asgL (el_fn (ea_cons (ev_var rfl) (ea_cons (ev_var rfl) ea_nil)) fun _ _ => ⟨b, n, rfl, h1, h2, hn, rfl⟩) fun p H1 np e1 hp => ?_
    have hlen := figs_len2 h1 hn
    have hpos := figs_len_pos h1 (show 0 < n by omega)
    obtain ⟨dl, hdl⟩ : ∃ d, (figs b n)[(figs b n).length - 1]? = some d := ⟨_, List.getElem?_eq_getElem (by omega)⟩
    obtain ⟨df, hdf⟩ : ∃ d, (figs b n)[0]? = some d := ⟨_, List.getElem?_eq_getElem (by omega)⟩
    refine q_when (b := fr) (et_is (et_test (ev_op (ev_var rfl) ev_c (rv_eq rfl))) (sd_eq fr)) (fun hb H2 e2 => ?_) (fun hb H2 e2 => ?_)
    · subst hb
      refine s_ret (ev_fnL (ev_var rfl) (es_new (el_is (ys := vl (rot true (figs b n))) (el_cat (es_new (el_lst (ea_cons (ev_ix (eq_old (ev_var rfl) (sq_of (e2 _ _ hp))) (ev_un ev_c ru_neg) (atI_lastN hdl)) ea_nil) (show 1 ≤ 100000 by decide))) (es_new (el_cut (eq_old (ev_var rfl) (sq_of (e2 _ _ hp))) eo_none (eo_some (ev_un ev_c ru_neg)))) ?_) ?_)) fun q H3 e3 hq => ⟨b, q, _, rfl, h2, sq_of hq, rfl⟩) fun H3 e3 => k H3 ((e1.trans e2).trans e3)
      · have q2 := cutV_length (vl (figs b n)) none (some (-1))
        rw [List.length_map] at q2
        simp only [List.length_cons, List.length_nil]
        omega
      · rw [cut_init, show ([vi dl] : List V) = vl [dl] from rfl, ← vl_app, ← drop_last hdl]
        rfl
    · subst hb
      refine s_ret (ev_fnL (ev_var rfl) (es_new (el_is (ys := vl (rot false (figs b n))) (el_cat (es_new (el_cut (eq_old (ev_var rfl) (sq_of (e2 _ _ hp))) (eo_some ev_c) eo_none)) (es_new (el_lst (ea_cons (ev_ix (eq_old (ev_var rfl) (sq_of (e2 _ _ hp))) ev_c (atI_natN hdf)) ea_nil) (show 1 ≤ 100000 by decide))) ?_) ?_)) fun q H3 e3 hq => ⟨b, q, _, rfl, h2, sq_of hq, rfl⟩) fun H3 e3 => k H3 ((e1.trans e2).trans e3)
      · have q2 := cutV_length (vl (figs b n)) (some 1) none
        rw [List.length_map] at q2
        simp only [List.length_cons, List.length_nil]
        omega
      · rw [show (1 : Int) = ((1 : Nat) : Int) from rfl, cut_from, show ([vi df] : List V) = vl [df] from rfl, ← vl_app, ← take_first hdf]
        rfl
end
end Tf

namespace Tf
open PySem PySem.Spec PyProof.Rows L2 Evl
/-! ### the law's own lengths -/
section
variable {P : Program} {w : World} {K : PySem.W.Frag} {mg : Str → Option Value} {base : Heap}
def R_lfront : List V → Hp → V → Prop := fun vs _ v => ∃ (b f d : Nat), vs = [vi b, vi f, vi d] ∧ Bfd b f d ∧ v = optV (lenOf b f true d)
abbrev s__law_front : Stmt := topS 32
abbrev N__law_front : List Str := ["_law_base", "_law_factor", "_law_figure", "_law_here", "_law_over", "_law_many", "_law_total", "_law_last"]
abbrev P__law_front : List Str := ["_law_base", "_law_factor", "_law_figure"]
theorem sc__law_front : FnScope N__law_front P__law_front (defScope s__law_front) := ⟨rfl, rfl, rfl, by decide +kernel, rfl, by decide +kernel, by decide +kernel⟩

theorem ok__law_front {f : Addr} {fd : FuncData} (F : Fun K "_law_front" "_law_front" s__law_front f fd) : FnOk P w K mg base CX0 1 f fd P__law_front (spV R_lfront) := by
  refine F.ok sc__law_front (fun vs H Q E h => ?_) (fun cdv A outer s H vs Q E hr h => ?_)
  · obtain ⟨v, ⟨b, f, d, rfl, _⟩, _⟩ := h
    rfl
  · obtain ⟨v, ⟨b, f, d, rfl, B, rfl⟩, k⟩ := h
    refine ⟨_, (pss_cons (ps_par3 (i := 3) (j := 4) (l := 5) (by rfl) sc__law_front.nd rfl rfl rfl (by decide) (by decide) (by decide) rfl rfl rfl (pa_cons (pv 2) (pa_cons pe_int (pa_cons pe_int pa_nil))) (by rfl))
      (pss_one (ps_while PassesOwn.never (pt_val pe_bl) (pss_cons (ps_set (i := 6) sc__law_front.nd rfl (.inl rfl) (pe_op op_add (pe_op op_mul (pv 1) (pv 3)) (pv 4)))
      (pss_cons (ps_par (i := 7) (j := 5) (by rfl) sc__law_front.nd rfl rfl (by decide) rfl rfl (pa_cons (pv 3) (pa_cons (pe_op op_add (pv 5) pe_int) pa_nil)) (by rfl))
      (pss_cons (ps_par (i := 3) (j := 4) (by rfl) sc__law_front.nd rfl rfl (by decide) rfl rfl (pa_cons (pe_op op_mod (pv 6) (pv 0)) (pa_cons (pe_op op_fdiv (pv 6) (pv 0)) pa_nil)) (by rfl))
      (pss_one (ps_if (PW.pt (pw_and (pt_cmpR op_eq (pv 3) (pv 2) (nomark _)) (pw_and1 (pt_cmpR op_eq (pv 4) pe_int (nomark _))))) (pss_one (ps_ret (pe_ifExp (pt_cmpR op_gt (pv 7) pe_int (nomark _)) (pv 5) pe_non))) pss_nil)))))))), ?_⟩
    have n5 := B.n5
    have nle := B.nle
    obtain ⟨b3, b36, f2, fb, d1, db⟩ := id B
    have o := ordN_is (show 1 ≤ b by omega) (cut_pos (n := f * b - 1) (d := d) (by omega)) (co_front B)
    obtain ⟨N, hN⟩ : ∃ N, ordN b (cut (f * b - 1) d) = N := ⟨_, rfl⟩
    rw [hN] at o
    refine q_par3 (ea_cons (ev_var rfl) (ea_cons ev_c (ea_cons ev_c ea_nil))) fun H1 e1 => ?_
    refine s_while (fun m σ H' => ∃ (t : Nat) (x6 x7 : Option V), σ = [some (vi b), some (vi f), some (vi d), some (vi (fw b f d t % b)), some (vi (fw b f d t / b)), some (vi t), x6, x7] ∧ Ex H H' ∧ t + m = N ∧ 1 ≤ m) N ⟨0, none, none, ?_, e1, by omega, o.pos⟩ ?_
    · rw [fw_zero B, Nat.mod_eq_of_lt db, Nat.div_eq_of_lt db]
      rfl
    rintro m σ' H' ⟨t, x6, x7, rfl, e2, tm, m1⟩
    refine ⟨true, et_B ev_c, fun _ H3 e3 => ⟨_, fun σ2 H2 z => z, ?_⟩, fun z => nomatch z⟩
    have w2 := fw_lt B t
    have u1 := Nat.mod_lt (fw b f d t) (show 0 < b by omega)
    refine q_asg (v := vi (fw b f d (t + 1))) (ev_is (ev_op (ev_op (ev_var rfl) (ev_var rfl) (rv_I (.inl ⟨show (-(2 ^ 64) : Int) < (f : Int) by omega, show (f : Int) < 2 ^ 64 by omega⟩))) (ev_var rfl) rv_I0) ?_) fun H4 e4 => ?_
    · rw [← fw_step B t]
      rfl
    refine q_par (ea_cons (ev_var rfl) (ea_cons (ev_op (ev_var rfl) ev_c rv_I0) ea_nil)) fun H5 e5 => ?_
    refine q_par (ea_cons (ev_op (ev_var rfl) (ev_var rfl) (rv_I (show (0 : Int) < (b : Int) by omega))) (ea_cons (ev_op (ev_var rfl) (ev_var rfl) (rv_I ⟨show (0 : Int) < (b : Int) by omega, show (b : Int) < 1073741824 by omega⟩)) ea_nil)) fun H6 e6 => ?_
    have ex6 := (((e2.trans e3).trans e4).trans e5).trans e6
    have back : (fw b f d (t + 1) % b = d ∧ fw b f d (t + 1) / b = 0) ↔ fw b f d (t + 1) = d := by
      constructor
      · rintro ⟨h1, h2⟩
        have := Nat.div_add_mod (fw b f d (t + 1)) b
        rw [h1, h2] at this
        omega
      · intro h
        rw [h]
        exact ⟨Nat.mod_eq_of_lt db, Nat.div_eq_of_lt db⟩
    refine s_when (b := decide (fw b f d (t + 1) = d)) (et_is (et_and (et_test (ev_op (ev_var rfl) (ev_var rfl) (rv_eq rfl))) fun _ => et_test (ev_op (ev_var rfl) ev_c (rv_eq rfl))) ?_) (fun hb H7 e7 => ?_) (fun hb H7 e7 => ?_)
    · show (decide (vi (fw b f d (t + 1) % b) = vi d) && decide (vi (fw b f d (t + 1) / b) = vi 0)) = _
      rw [dec_vi, dec_vi]
      by_cases z : fw b f d (t + 1) = d
      · rw [decide_eq_true z, decide_eq_true (back.mpr z).1, decide_eq_true (back.mpr z).2]
        rfl
      · rw [decide_eq_false z]
        cases q : (decide (fw b f d (t + 1) % b = d) && decide (fw b f d (t + 1) / b = 0)) with
        | false => rfl
        | true =>
          rw [Bool.and_eq_true, decide_eq_true_eq, decide_eq_true_eq] at q
          exact absurd (back.mp q) z
    · have hd := of_decide_eq_true hb
      have dv := (o.dvd (t + 1)).mp ((fw_back B (t + 1)).mp hd)
      have hle := Nat.le_of_dvd (by omega) dv
      have ht : t + 1 = N := by omega
      have la := fw_last B hd
      refine s_ret (v := optV (lenOf b f true d)) (ev_if (b := decide (f ≤ d)) (et_is (et_test (ev_op (ev_var rfl) ev_c rv_I0)) ?_) (fun hf => ?_) (fun hf => ?_)) fun H8 e8 => k H8 ((ex6.trans e7).trans e8)
      · show decide (((0 : Nat) : Int) < ((fw b f d t % b : Nat) : Int)) = _
        rw [dec_cast_lt]
        by_cases z : f ≤ d
        · rw [decide_eq_true z, decide_eq_true (la.mpr z)]
        · rw [decide_eq_false z, decide_eq_false fun q => z (la.mp q)]
      · obtain ⟨k', hk, ok⟩ := len_front B (of_decide_eq_true hf)
        rw [hk, ok.uniq o, ← ht]
        exact ev_var rfl
      · rw [len_front_none (of_decide_eq_false hf)]
        exact ev_c
    · have hd := of_decide_eq_false hb
      have hne : t + 1 ≠ N := fun z => hd ((fw_back B (t + 1)).mpr (by rw [z]; exact o.one))
      exact ⟨m - 1, by omega, t + 1, _, _, rfl, ex6.trans e7, by omega, by omega⟩
def R_lbehind : List V → Hp → V → Prop := fun vs _ v => ∃ (b f d : Nat), vs = [vi b, vi f, vi d] ∧ Bfd b f d ∧ v = optV (lenOf b f false d)
abbrev s__law_behind : Stmt := topS 33
abbrev N__law_behind : List Str := ["_law_base", "_law_factor", "_law_figure", "_law_great", "_law_many", "_law_top"]
abbrev P__law_behind : List Str := ["_law_base", "_law_factor", "_law_figure"]
theorem sc__law_behind : FnScope N__law_behind P__law_behind (defScope s__law_behind) := ⟨rfl, rfl, rfl, by decide +kernel, rfl, by decide +kernel, by decide +kernel⟩

theorem ok__law_behind {f : Addr} {fd : FuncData} (T : Nm mg) (F : Fun K "_law_behind" "_law_behind" s__law_behind f fd) : FnOk P w K mg base CX0 1 f fd P__law_behind (spV R_lbehind) := by
  refine F.ok sc__law_behind (fun vs H Q E h => ?_) (fun cdv A outer s H vs Q E hr h => ?_)
  · obtain ⟨v, ⟨b, f, d, rfl, _⟩, _⟩ := h
    rfl
  · obtain ⟨v, ⟨b, f, d, rfl, B, rfl⟩, k⟩ := h
    refine ⟨_, (pss_cons (ps_set (i := 3) sc__law_behind.nd rfl (.inl rfl) pe_int)
      (pss_cons (ps_for PassesOwn.never rfl (pi_range2 (by rfl) T.n_range (pa_cons pe_int (pa_cons (pe_op op_mul pe_int (pv 0)) pa_nil))) (pg_name (i := 4) sc__law_behind.nd rfl (.inl rfl)) (pss_cons (ps_set (i := 5) sc__law_behind.nd rfl (.inl rfl) (pe_op op_mul (pv 2) (pe_op op_sub (pe_op op_mul (pv 1) (pv 3)) pe_int)))
      (pss_cons (ps_if (PW.pt (pw_and (pt_cmpR op_eq (pe_op op_mod (pv 5) (pe_op op_sub (pv 0) (pv 1))) pe_int (nomark _)) (pw_and (pt_cmpR op_lt (pe_op op_fdiv (pv 5) (pe_op op_sub (pv 0) (pv 1))) (pv 3) (nomark _)) (pw_and1 (pt_cmpR op_gt (pv 4) pe_int (nomark _)))))) (pss_one (ps_ret (pv 4))) pss_nil)
      (pss_one (ps_set (i := 3) sc__law_behind.nd rfl (.inl rfl) (pe_op op_mul (pv 3) (pv 0)))))))
      (pss_one (ps_ret pe_non)))), ?_⟩
    obtain ⟨b3, b36, f2, fb, d1, db⟩ := id B
    refine q_asg ev_c fun H1 e1 => ?_
    refine q_forR2 (lo := 1) (n := 2 * (b : Int)) (ea_cons ev_c (ea_cons (ev_op ev_c (ev_var rfl) (rv_I (.inl ⟨by decide, by decide⟩))) ea_nil)) ⟨by omega, by omega, by omega, by omega⟩
      (fun i σ H' => ∃ x4 x5, σ = [some (vi b), some (vi f), some (vi d), some (vi (b ^ i)), x4, x5] ∧ Ex H H' ∧ ∀ j, 1 ≤ j → j ≤ i → bTest b f d j = false)
      (fun H2 e2 => ⟨none, none, rfl, e1.trans e2, fun j a b => by omega⟩) ?_ ?_
    · rintro i σ' H2 hi ⟨x4, x5, rfl, e2, hj⟩
      have pb := pow_pos1 (show 1 ≤ b by omega) i
      have fp : 1 ≤ f * b ^ i := Nat.mul_pos (by omega) pb
      refine q_asg (v := vi (d * (f * b ^ i - 1))) (ev_is (ev_op (ev_var rfl) (ev_op (ev_op (ev_var rfl) (ev_var rfl) (rv_I (.inl ⟨show (-(2 ^ 64) : Int) < (f : Int) by omega, show (f : Int) < 2 ^ 64 by omega⟩))) ev_c rv_I0) (rv_I (.inl ⟨show (-(2 ^ 64) : Int) < (d : Int) by omega, show (d : Int) < 2 ^ 64 by omega⟩))) ?_) fun H3 e3 => ?_
      · show V.int ((d : Int) * ((f : Int) * ((b ^ i : Nat) : Int) - 1)) = V.int ((d * (f * b ^ i - 1) : Nat) : Int)
        rw [cast_mul_pred fp]
        rfl
      have sub : V.int ((b : Int) - (f : Int)) = vi (b - f) := congrArg V.int (cast_sub (by omega))
      have hz : (0 : Int) < ((b - f : Nat) : Int) := by omega
      have hz2 : ((b - f : Nat) : Int) < 1073741824 := by omega
      refine q_when (b := bTest b f d (i + 1)) (et_is (et_and (et_test (ev_op (ev_op (ev_var rfl) (ev_is (ev_op (ev_var rfl) (ev_var rfl) rv_I0) sub) (rv_I hz)) ev_c (rv_eq rfl))) fun _ => et_and (et_test (ev_op (ev_op (ev_var rfl) (ev_is (ev_op (ev_var rfl) (ev_var rfl) rv_I0) sub) (rv_I ⟨hz, hz2⟩)) (ev_var rfl) rv_I0)) fun _ => et_test (ev_op (ev_var rfl) ev_c rv_I0)) ?_) (fun hb H4 e4 => ?_) (fun hb H4 e4 => ?_)
      · show (decide (vi (d * (f * b ^ i - 1) % (b - f)) = vi 0) && (decide (((d * (f * b ^ i - 1) / (b - f) : Nat) : Int) < ((b ^ i : Nat) : Int)) && decide ((1 : Int) < 1 + (i : Int)))) = bTest b f d (i + 1)
        rw [dec_vi, dec_cast_lt]
        unfold bTest
        rw [Nat.add_sub_cancel]
        congr 2
        by_cases z : 1 < i + 1
        · rw [decide_eq_true z, decide_eq_true (by omega)]
        · rw [decide_eq_false z, decide_eq_false (by omega)]
      · refine s_ret (v := optV (lenOf b f false d)) (ev_is (ev_var rfl) ?_) fun H5 e5 => k H5 (((e2.trans e3).trans e4).trans e5)
        cases q : lenOf b f false d with
        | none =>
          rw [bTest_none B q (i + 1) (by omega)] at hb
          cases hb
        | some n =>
          obtain ⟨_, _, t1, t2⟩ := bTest_some B q
          have e : n = i + 1 := by
            rcases Nat.lt_trichotomy n (i + 1) with z | z | z
            · rw [hj n (by omega) (by omega)] at t1
              cases t1
            · exact z
            · rw [t2 (i + 1) (by omega) z] at hb
              cases hb
          subst e
          show V.int (1 + (i : Int)) = V.int ((i + 1 : Nat) : Int)
          congr 1
          omega
      · refine s_asg (v := vi (b ^ (i + 1))) (ev_is (ev_op (ev_var rfl) (ev_var rfl) (rv_I (.inr ⟨show (-(2 ^ 64) : Int) < (b : Int) by omega, show (b : Int) < 2 ^ 64 by omega⟩))) ?_) fun H5 e5 => ⟨_, _, rfl, ((e2.trans e3).trans e4).trans e5, fun j h1 h2 => ?_⟩
        · rw [Nat.pow_succ]
          rfl
        · by_cases z : j = i + 1
          · rw [z]
            exact hb
          · exact hj j h1 (by omega)
    · rintro σ' H2 ⟨x4, x5, rfl, e2, hj⟩
      refine s_ret (v := optV (lenOf b f false d)) (ev_is ev_c ?_) fun H5 e5 => k H5 (e2.trans e5)
      cases q : lenOf b f false d with
      | none => rfl
      | some n =>
        obtain ⟨n2, n3, t1, t2⟩ := bTest_some B q
        rw [hj n (by omega) (by omega)] at t1
        cases t1
abbrev s__law_length : Stmt := topS 34
abbrev N__law_length : List Str := ["_law_base", "_law_factor", "_law_side", "_law_figure"]
abbrev P__law_length : List Str := ["_law_base", "_law_factor", "_law_side", "_law_figure"]
theorem sc__law_length : FnScope N__law_length P__law_length (defScope s__law_length) := ⟨rfl, rfl, rfl, by decide +kernel, rfl, by decide +kernel, by decide +kernel⟩

theorem ok__law_length {f : Addr} {fd : FuncData} (F : Fun K "_law_length" "_law_length" s__law_length f fd) (h__law_front : Has P w K mg base "_law_front" P__law_front 1 (spV R_lfront)) (h__law_behind : Has P w K mg base "_law_behind" P__law_behind 1 (spV R_lbehind)) : FnOk P w K mg base CX0 2 f fd P__law_length (spV R_length_of) := by
  refine F.ok sc__law_length (fun vs H Q E h => ?_) (fun cdv A outer s H vs Q E hr h => ?_)
  · obtain ⟨v, ⟨b, f, fr, d, rfl, _⟩, _⟩ := h
    rfl
  · obtain ⟨v, ⟨b, f, fr, d, rfl, B, rfl⟩, k⟩ := h
    refine ⟨_, (pss_one (ps_ret (pe_ifExp (pt_cmpR op_eq (pv 2) pe_str (nomark _)) (pe_fn h__law_front hr (by rfl) (pa_cons (pv 0) (pa_cons (pv 1) (pa_cons (pv 3) pa_nil)))) (pe_fn h__law_behind hr (by rfl) (pa_cons (pv 0) (pa_cons (pv 1) (pa_cons (pv 3) pa_nil))))))), ?_⟩
    refine s_ret (ev_if (b := fr) (et_is (et_test (ev_op (ev_var rfl) ev_c (rv_eq rfl))) (sd_eq fr)) (fun hb => ?_) (fun hb => ?_)) k
    · subst hb
      exact ev_fn (ea_cons (ev_var rfl) (ea_cons (ev_var rfl) (ea_cons (ev_var rfl) ea_nil))) fun _ _ => ⟨b, f, d, rfl, B, rfl⟩
    · subst hb
      exact ev_fn (ea_cons (ev_var rfl) (ea_cons (ev_var rfl) (ea_cons (ev_var rfl) ea_nil))) fun _ _ => ⟨b, f, d, rfl, B, rfl⟩
end
end Tf

namespace Tf
open PySem PySem.Spec PyProof.Rows L2 Evl
/-! ### the law's own word: a truth that is due -/
section
variable {P : Program} {w : World} {K : PySem.W.Frag} {mg : Str → Option Value} {base : Heap}
def R_lsays : List V → Hp → V → Prop := fun vs _ v => ∃ a c : Bool, vs = [.bl a, .bl c] ∧ v = .bl (decide (a = c))
abbrev s__law_says : Stmt := topS 35
abbrev N__law_says : List Str := ["_law_said", "_law_due"]
abbrev P__law_says : List Str := ["_law_said", "_law_due"]
theorem sc__law_says : FnScope N__law_says P__law_says (defScope s__law_says) := ⟨rfl, rfl, rfl, by decide +kernel, rfl, by decide +kernel, by decide +kernel⟩

theorem ok__law_says {f : Addr} {fd : FuncData} (T : Nm mg) (F : Fun K "_law_says" "_law_says" s__law_says f fd) : FnOk P w K mg base CX0 1 f fd P__law_says (spV R_lsays) := by
  refine F.ok sc__law_says (fun vs H Q E h => ?_) (fun cdv A outer s H vs Q E hr h => ?_)
  · obtain ⟨v, ⟨a, c, rfl, _⟩, _⟩ := h
    rfl
  · obtain ⟨v, ⟨a, c, rfl, rfl⟩, k⟩ := h
    refine ⟨_, (pss_one (ps_ret (pe_and (pe_callB call_isi (by rfl) T.n_isinstance (by decide +kernel) (pa_cons (pv 0) (pa_cons (pe_bltn (v := .ty "bool") (by rfl) T.n_bool (by decide +kernel) rfl) pa_nil))) (pe_one (pe_cmpR op_eq (pv 0) (pv 1) (nomark _)))))), ?_⟩
    refine s_ret (ev_is (ev_andV (a := true) (ev_isi (ev_var rfl) (fun _ _ => .base (.bl a)) (by decide +kernel)) fun _ => ev_op (ev_var rfl) (ev_var rfl) (rv_eq rfl)) ?_) k
    show V.bl (true && decide (V.bl a = V.bl c)) = V.bl (decide (a = c))
    cases a <;> cases c <;> decide +kernel
end
end Tf

namespace Tf
open PySem PySem.Spec PyProof.Rows L2 Evl
/-! ### the law -/
def spLaw (K : PySem.W.Frag) : Sp := fun vs H Q _ => ∃ (a : Addr) (ns : List Int), vs = [.ref a] ∧ SqL K H a (ns.map V.int) ∧ ns.length ≤ 63 ∧ ∀ H', Q (.bl true) H'
theorem rep_vl (k : Nat) (ds : List Nat) : (List.replicate k (vl ds)).flatten = vl (rep k ds) := by
  show _ = List.map vi (List.replicate k ds).flatten
  rw [List.map_flatten, List.map_replicate]
theorem neg_lt (n : Nat) : (-(n : Int)) < 2 ^ 50000 := Int.lt_of_le_of_lt (show (-(n : Int)) ≤ 0 by omega) (Int.pow_pos (by decide))
theorem small_lt {y : Int} (h : y < 2 ^ 200) : y < 2 ^ 50000 := Int.lt_of_lt_of_le h (by
  have : (2 : Nat) ^ 200 ≤ 2 ^ 50000 := Nat.pow_le_pow_right (by decide) (by decide)
  exact_mod_cast this)
theorem trn_turns {b f x : Nat} {fr : Bool} (h1 : 0 < x) (h2 : mv b x fr = f * x) : trn b f fr x = true := by
  unfold trn
  rw [decide_eq_true h1, decide_eq_true h2]
  rfl
theorem up_lt {x : Nat} (h : x < 2 ^ 36001) : ((x : Nat) : Int) + 1 < 2 ^ 50000 := by
  have h3 : (2 : Nat) ^ 36001 < 2 ^ 50000 := Nat.pow_lt_pow_right (by decide) (by decide)
  have : x + 1 < 2 ^ 50000 := Nat.lt_of_le_of_lt h h3
  exact_mod_cast this
section
variable {P : Program} {w : World} {K : PySem.W.Frag} {mg : Str → Option Value} {base : Heap}
abbrev s_law : Stmt := topS 36
abbrev N_law : List Str := ["_law_script", "_law_whole", "_law_at", "_law_cell", "_law_number_here", "_law_base", "_law_factor", "_law_side", "_law_lengths", "_law_none", "_law_some_long", "_law_told", "_law_tried", "_law_some", "_law_many", "_law_twice", "_law_due", "_law_figure", "_law_long"]
abbrev P_law : List Str := ["_law_script"]
theorem sc_law : FnScope N_law P_law (defScope s_law) := ⟨rfl, rfl, rfl, by decide +kernel, rfl, by decide +kernel, by decide +kernel⟩

theorem ok_law {f CA CT CN : Addr} {fd : FuncData} (T : Nm mg) (F : Fun K "law" "law" s_law f fd) (KA : Kls K mg "Answer" CA) (KT : Kls K mg "Turns" CT) (KN : Kls K mg "Never" CN) (NT : NoAttr K CT "number") (BN : Bare K CN) (Z : Kits K CA CT CN)
    (h__law_number : Has P w K mg base "_law_number" P__law_number 1 (spV R_lnum)) (h__law_length : Has P w K mg base "_law_length" P__law_length 2 (spV R_length_of)) (h__law_moved : Has P w K mg base "_law_moved" P__law_moved 2 (spV R_lmoved)) (h__law_figures : Has P w K mg base "_law_figures" P__law_figures 1 (spL R_figs)) (h__law_worth : Has P w K mg base "_law_worth" P__law_worth 1 (spV (R_worth K)))
    (h_all_of : Has P w K mg base "all_of" P_all_of 4 (spL R_all_of)) (h__law_says : Has P w K mg base "_law_says" P__law_says 1 (spV R_lsays)) (h_Turns___init__ : HasMk P w K mg base "Turns" CT P_Turns___init__ 1 (spInit1 CT "number"))
    (h_Turns_shows : HasM P w K mg base CT "shows" P_Turns_shows 3 (spV (R_tshows CT))) (h_Never_shows : HasM P w K mg base CN "shows" P_Never_shows 4 (spV R_nshows)) : FnOk P w K mg base CX0 5 f fd P_law (spLaw K) := by
  refine F.ok sc_law (fun vs H Q E h => ?_) (fun cdv A outer s H vs Q E hr h => ?_)
  · obtain ⟨a, ns, rfl, _⟩ := h
    rfl
  · obtain ⟨a, ns, rfl, hS, hlen, k⟩ := h
    refine ⟨_, (pss_cons (ps_set (i := 1) sc_law.nd rfl (.inl rfl) (pe_op op_mod (pe_callB call_abs (by rfl) T.n_abs (by decide +kernel) (pa_cons (pe_callB (cr_sum rfl) (by rfl) T.n_sum (by decide +kernel) (pa_cons (pe_slice sl_list (pv 0) po_none (po_some pe_int)) pa_nil)) pa_nil)) (pe_op op_pow pe_int pe_int)))
      (pss_cons (ps_for PassesOwn.never rfl (pi_enum (by rfl) T.n_enumerate (pa_cons (pe_op op_cat (pe_slice sl_list (pv 0) po_none (po_some pe_int)) (pe_lst (pa_cons pe_int pa_nil))) pa_nil)) (pg_tup rfl (pgs_cons (pg_name (i := 2) sc_law.nd rfl (.inl rfl)) (pgs_cons (pg_name (i := 3) sc_law.nd rfl (.inl rfl)) pgs_nil))) (pss_cons (ps_set (i := 4) sc_law.nd rfl (.inl rfl) (pe_callB call_abs (by rfl) T.n_abs (by decide +kernel) (pa_cons (pe_fn h__law_number hr (by rfl) (pa_cons (pv 3) (pa_cons (pe_op op_add (pv 2) pe_int) (pa_cons (pv 1) pa_nil)))) pa_nil)))
      (pss_cons (ps_set (i := 5) sc_law.nd rfl (.inr rfl) (pe_op op_add pe_int (pe_op op_mod (pv 4) pe_int)))
      (pss_cons (ps_set (i := 6) sc_law.nd rfl (.inr rfl) (pe_op op_add pe_int (pe_op op_mod (pe_op op_fdiv (pv 4) pe_int) (pe_op op_sub (pv 5) pe_int))))
      (pss_one (ps_for PassesOwn.never rfl (pi_list (pe_lst (pa_cons pe_str (pa_cons pe_str pa_nil)))) (pg_name (i := 7) sc_law.nd rfl (.inr rfl)) (pss_cons (ps_setLc (i := 8) (own := [("_law_figure", 17)]) (g := gName 17) (tt := tYes) rfl sc_law.nd rfl rfl (sw_true rfl rfl rfl (by decide +kernel)) (pi_range2 (by rfl) T.n_range (pa_cons pe_int (pa_cons (pv 5) pa_nil))) (blkOk_by (own := [("_law_figure", 17)]) (N := N_law) (sc := defScope s_law) (by decide +kernel)) (fun _ _ _ _ _ => pg_name (i := 17) sc_law.nd rfl (.inl rfl)) (fun _ _ _ _ _ => pts_nil) (fun _ _ _ _ _ => (pe_fn h__law_length hr (by rfl) (pa_cons (pv 5) (pa_cons (pv 6) (pa_cons (pv 7) (pa_cons (pv 17) pa_nil)))))))
      (pss_cons (ps_set (i := 9) sc_law.nd rfl (.inl rfl) (pe_not (pe_callB (cr_any rfl) (by rfl) T.n_any (by decide +kernel) (pa_cons (pe_lc (own := [("_law_long", 18)]) (g := gName 18) (tt := tYes) rfl sc_law.nd (pi_list (pv 8)) (blkOk_by (own := [("_law_long", 18)]) (N := N_law) (sc := defScope s_law) (by decide +kernel)) (fun _ _ _ _ _ => pg_name (i := 18) sc_law.nd rfl (.inl rfl)) (fun _ _ _ _ _ => pts_nil) (fun _ _ _ _ _ => (pe_cmpR op_notN (pv 18) pe_non (nomark _)))) pa_nil))))
      (pss_cons (ps_if (PW.pt (pw_or (pt_not (pt_val (pe_fn h__law_says hr (by rfl) (pa_cons (pe_mth (pl := _) h_Never_shows hr (pe_bare BN (by rfl) KN.g) (pa_cons (pv 5) (pa_cons (pv 6) (pa_cons (pv 7) pa_nil))) (by decide) rfl rfl (mcall_of (abase_call (by decide +kernel)) fun _ => rfl)) (pa_cons (pv 9) pa_nil))))) (pw_or1 (pt_not (pt_val (pe_callB call_isi (by rfl) T.n_isinstance (by decide +kernel) (pa_cons (pe_bare BN (by rfl) KN.g) (pa_cons (pe_glob (v := .ref CA) rfl KA.g rfl) pa_nil)))))))) (pss_one (ps_ret pe_bl)) pss_nil)
      (pss_cons (ps_setLc (i := 10) (own := [("_law_long", 18)]) (g := gName 18) rfl sc_law.nd rfl rfl (sw_true rfl rfl rfl (by decide +kernel)) (pi_list (pv 8)) (blkOk_by (own := [("_law_long", 18)]) (N := N_law) (sc := defScope s_law) (by decide +kernel)) (fun _ _ _ _ _ => pg_name (i := 18) sc_law.nd rfl (.inl rfl)) (fun _ _ _ _ _ => pts_one (pt_cmpR op_notN (pv 18) pe_non (nomark _))) (fun _ _ _ _ _ => (pv 18)))
      (pss_cons (ps_set (i := 11) sc_law.nd rfl (.inl rfl) (pe_ifExp (pt_val (pv 9)) (pe_lst pa_nil) (pe_fn h_all_of hr (by rfl) (pa_cons (pv 5) (pa_cons (pv 6) (pa_cons (pv 7) (pa_cons (pe_callB (cr_min rfl) (by rfl) T.n_min (by decide +kernel) (pa_cons (pv 10) pa_nil)) pa_nil)))))))
      (pss_cons (ps_set (i := 12) sc_law.nd rfl (.inl rfl) (pe_lst (pa_cons pe_int (pa_cons (pe_un un_neg pe_int) (pa_cons pe_int (pa_cons (pe_un un_neg (pv 4)) (pa_cons (pe_op op_add (pe_op op_mod (pv 4) (pe_op op_pow pe_int pe_int)) pe_int) (pa_cons (pv 1) pa_nil))))))))
      (pss_cons (ps_for PassesOwn.never rfl (pi_list (pe_slice sl_list (pv 11) po_none (po_some pe_int))) (pg_name (i := 13) sc_law.nd rfl (.inl rfl)) (pss_cons (ps_set (i := 14) sc_law.nd rfl (.inl rfl) (pe_callB call_len_seq (by rfl) T.n_len (by decide +kernel) (pa_cons (pe_fn h__law_figures hr (by rfl) (pa_cons (pv 5) (pa_cons (pv 13) pa_nil))) pa_nil)))
      (pss_cons (ps_set (i := 15) sc_law.nd rfl (.inl rfl) (pe_fn h__law_worth hr (by rfl) (pa_cons (pv 5) (pa_cons (pe_op op_rep (pe_fn h__law_figures hr (by rfl) (pa_cons (pv 5) (pa_cons (pv 13) pa_nil))) pe_int) pa_nil))))
      (pss_cons (ps_expr (pe_bm PySem.F.plainAttrs_list PySem.F.slot_list_extend PySem.F.type_list_extend mt_extend (pv 12) (pa_cons (pe_lst (pa_cons (pv 13) (pa_cons (pe_op op_add (pv 13) pe_int) (pa_cons (pe_op op_sub (pv 13) pe_int) (pa_cons (pe_un un_neg (pv 13)) (pa_cons (pv 15) (pa_cons (pe_fn h__law_moved hr (by rfl) (pa_cons (pv 5) (pa_cons (pv 13) (pa_cons (pv 7) pa_nil)))) pa_nil))))))) pa_nil)))
      (pss_one (ps_if (pt_not (pt_val (pe_fn h__law_says hr (by rfl) (pa_cons (pe_mth h_Turns_shows hr (pe_mk h_Turns___init__ hr (by rfl) (pa_cons (pv 15) pa_nil)) (pa_cons (pv 5) (pa_cons (pv 6) (pa_cons (pv 7) pa_nil)))) (pa_cons pe_bl pa_nil))))) (pss_one (ps_ret pe_bl)) pss_nil))))))
      (pss_one (ps_for PassesOwn.never rfl (pi_list (pv 12)) (pg_name (i := 13) sc_law.nd rfl (.inl rfl)) (pss_cons (ps_set (i := 16) sc_law.nd rfl (.inl rfl) (pe_and (pe_cmpR op_gt (pv 13) pe_int (nomark _)) (pe_one (pe_cmpR op_eq (pe_fn h__law_moved hr (by rfl) (pa_cons (pv 5) (pa_cons (pv 13) (pa_cons (pv 7) pa_nil)))) (pe_op op_mul (pv 6) (pv 13)) (nomark _)))))
      (pss_one (ps_if (PW.pt (pw_or (pt_cmpR op_ne (pe_fld (pe_mk h_Turns___init__ hr (by rfl) (pa_cons (pv 13) pa_nil)) rfl) (pv 13) (nomark _)) (pw_or1 (pt_not (pt_val (pe_fn h__law_says hr (by rfl) (pa_cons (pe_mth h_Turns_shows hr (pe_mk h_Turns___init__ hr (by rfl) (pa_cons (pv 13) pa_nil)) (pa_cons (pv 5) (pa_cons (pv 6) (pa_cons (pv 7) pa_nil)))) (pa_cons (pv 16) pa_nil)))))))) (pss_one (ps_ret pe_bl)) pss_nil))))))))))))))))))
      (pss_one (ps_ret (pe_and (pe_cmpR op_isBl (pe_mth h_Turns_shows hr (pe_mk h_Turns___init__ hr (by rfl) (pa_cons pe_int pa_nil)) (pa_cons pe_int (pa_cons pe_int (pa_cons pe_str pa_nil)))) pe_bl (nomark _)) (pe_one (pe_cmpR op_isBl (pe_mth h_Turns_shows hr (pe_mk h_Turns___init__ hr (by rfl) (pa_cons pe_int pa_nil)) (pa_cons pe_int (pa_cons pe_int (pa_cons pe_str pa_nil)))) pe_bl (nomark _)))))))), ?_⟩
    have trs : ∀ {σ : L2.St} {H : Hp} {ta tb tc td : TE} {n : Int} {b f : Nat} {fr : Bool}, Ev ta σ H (.int n) → Ev tb σ H (vi b) → Ev tc σ H (vi f) → Ev td σ H (vs' fr) → 2 ≤ b → b ≤ 36 → f ≤ 36 → n < 2 ^ 50000 →
        Ev (tMeth CT "shows" (spV (R_tshows CT)) [] E0 (tMake CT (spInit1 CT "number") [] E0 (tCons ta tNil)) (tCons tb (tCons tc (tCons td tNil)))) σ H (.bl (trn b f fr n.toNat)) :=
      fun {σ H ta tb tc td n b f fr} h1 h2 h3 h4 g1 g2 g3 g4 => ev_methJ (ej_new (ei_make h1)) (nf_shows n) (ea_cons h2 (ea_cons h3 (ea_cons h4 ea_nil))) fun u dx H7 e7 h7 => ⟨u, dx, n, b, f, fr, rfl, h7, g1, g2, g3, g4, rfl⟩
    have says : ∀ {σ : L2.St} {H : Hp} {ta tb : TE} {x y : Bool}, Ev ta σ H (.bl x) → Ev tb σ H (.bl y) → Ev (tCall (spV R_lsays) [] E0 (tCons ta (tCons tb tNil))) σ H (.bl (decide (x = y))) := fun h1 h2 => ev_fn (ea_cons h1 (ea_cons h2 ea_nil)) fun _ _ => ⟨_, _, rfl, rfl⟩
    refine q_asg (ev_whole hS rfl) fun H1 e1 => ?_
    have hwh : (ns.take 63).sum.natAbs % 10 ^ 60 < 2 ^ 200 := Nat.lt_of_lt_of_le (Nat.mod_lt _ (by decide)) (by decide)
    generalize (ns.take 63).sum.natAbs % 10 ^ 60 = wh at *
    have hS1 := ex_l e1 hS
    obtain ⟨L, hL⟩ : ∃ L : List Int, L = ns.take 2 ++ [3] := ⟨_, rfl⟩
    refine q_forE (xs := L.map V.int) (by rw [hL]; exact eq_cells (k := 2) (ms := [3]) hS1 hlen rfl (el_lst (ea_cons ev_c ea_nil) (show 1 ≤ 100000 by decide)) (by decide))
      (fun p i σ' H' => ∃ r2 r3 r4 r5 r6 r7 r8 r9 r10 r11 r12 r13 r14 r15 r16, σ' = [some (.ref a), some (vi wh), r2, r3, r4, r5, r6, r7, r8, r9, r10, r11, r12, r13, r14, r15, r16, none, none] ∧ SqL K H' p (L.map V.int))
      (fun p H2 e2 hp => ⟨_, _, _, _, _, _, _, _, _, _, _, _, _, _, _, rfl, hp⟩) (fun p i σ' H' _ ⟨_, _, _, _, _, _, _, _, _, _, _, _, _, _, _, _, z⟩ => z) ?_ ?_
    · rintro p i x σ' H2 hx ⟨r2, r3, r4, r5, r6, r7, r8, r9, r10, r11, r12, r13, r14, r15, r16, rfl, hp⟩ H3 e3
      obtain ⟨c, hc, rfl⟩ := get_ints hx
      rw [hL] at hc
      have hi : i < 3 := cells_len hc
      replace hp := ex_l e3 hp
      refine q_asg (ev_abs (ev_fn (ea_cons (ev_var rfl) (ea_cons (ev_op (ev_var rfl) ev_c rv_I0) (ea_cons (ev_var rfl) ea_nil))) fun _ _ => ⟨c, (i : Int) + 2, wh, rfl, by omega, by omega, rfl⟩)) fun H4 e4 => ?_
      generalize (lnum c ((i : Int) + 2) wh).natAbs = n
      refine q_asg (v := vi (3 + n % 10)) (ev_is (ev_op ev_c (ev_op (ev_var rfl) ev_c (rv_I (by decide))) rv_I0) rfl) fun H5 e5 => ?_
      have hb : 3 ≤ 3 + n % 10 ∧ 3 + n % 10 ≤ 12 := by omega
      generalize 3 + n % 10 = b at *
      refine q_asg (v := vi (2 + n / 34 % (b - 2))) (ev_is (ev_op ev_c (ev_op (ev_op (ev_var rfl) ev_c (rv_I ⟨by decide, by decide⟩)) (ev_is (ev_op (ev_var rfl) ev_c rv_I0) (congrArg V.int (cast_sub (a := b) (b := 2) (by omega)))) (rv_I (show (0 : Int) < ((b - 2 : Nat) : Int) by omega))) rv_I0) rfl) fun H6 e6 => ?_
      have hf : 2 ≤ 2 + n / 34 % (b - 2) ∧ 2 + n / 34 % (b - 2) < b := by
        have h1 := Nat.mod_lt (n / 34) (show 0 < b - 2 by omega)
        omega
      generalize 2 + n / 34 % (b - 2) = fc at *
      replace hp := ex_l ((e4.trans e5).trans e6) hp
      have b3 := hb.1
      have b36 : b ≤ 36 := by omega
      have f2 := hf.1
      have fb := hf.2
      have cf : (-(2 ^ 64) : Int) < (fc : Int) ∧ (fc : Int) < 2 ^ 64 := ⟨by omega, by omega⟩
      refine s_forNL (xs := [vs' true, vs' false]) (el_lst (ea_cons ev_c (ea_cons ev_c ea_nil)) (show 2 ≤ 100000 by decide))
        (fun q m σ' H' => ∃ r7 r8 r9 r10 r11 r12 r13 r14 r15 r16, σ' = [some (.ref a), some (vi wh), some (vi i), some (.int c), some (vi n), some (vi b), some (vi fc), r7, r8, r9, r10, r11, r12, r13, r14, r15, r16, none, none] ∧ SqL K H' p (L.map V.int) ∧ H' q = some (.lst [vs' true, vs' false]))
        (fun q H7 np e7 hq => ⟨_, _, _, _, _, _, _, _, _, _, rfl, ex_l e7 hp, hq⟩) (fun p m σ' H' _ ⟨_, _, _, _, _, _, _, _, _, _, _, _, z⟩ => sq_of z) ?_ ?_
      · rintro q m x σ' H7 hx ⟨r7, r8, r9, r10, r11, r12, r13, r14, r15, r16, rfl, hp, hq⟩
        obtain ⟨fr, rfl⟩ : ∃ fr : Bool, x = vs' fr := by
          match m, hx with
          | 0, hx => exact ⟨true, (Option.some.inj hx).symm⟩
          | 1, hx => exact ⟨false, (Option.some.inj hx).symm⟩
        -- lengths
        refine q_asgL (xs := lens b fc fr) (el_is (el_lcR2 (n := b - 1) (fun _ => true) (fun i => optV (lenOf b fc fr (1 + i))) (ea_cons ev_c (ea_cons (ev_var rfl) ea_nil)) ⟨by omega, by omega, by omega, by omega⟩ (by omega) (by omega) (fun x => rfl) (fun i H5 e5 _ => et_yes) (fun i H5 e5 hi _ => ?_)) ?_) fun ll H8 nll e8 hll => ?_
        · have B : Bfd b fc (1 + i) := ⟨b3, b36, f2, fb, by omega, by omega⟩
          exact ev_fn (ea_cons (ev_var rfl) (ea_cons (ev_var rfl) (ea_cons (ev_var rfl) (ea_cons (ev_var rfl) ea_nil)))) fun _ _ => ⟨b, fc, fr, 1 + i, rfl, B, rfl⟩
        · rw [given_all]
          rfl
        -- none
        refine q_asg (v := .bl (nev b fc fr)) (ev_is (ev_notV (ev_any (bs := (List.range (b - 1)).map fun i => (lenOf b fc fr (1 + i)).isSome) (eq_new (el_is (el_lcL (fun _ => true) (fun i => V.bl (lenOf b fc fr (1 + i)).isSome) (ev_var rfl) (sq_of hll) (by rw [lens_len]; omega) (fun x => rfl) (fun i x H6 e6 _ => et_yes) (fun i x H6 e6 hx _ => ?_)) ?_)))) ?_) fun H9 e9 => ?_
        · obtain ⟨hi, rfl⟩ := lens_get hx
          refine ev_is (ev_op (ev_var rfl) ev_c rv_notN) ?_
          cases lenOf b fc fr (1 + i) <;> rfl
        · rw [given_all, lens_len, List.map_map]
          rfl
        · unfold nev
          rw [List.any_map]
          rfl
        have hll9 := e9 _ _ hll
        refine q_when (b := false) (et_is (et_or (et_not (et_B (says (x := nev b fc fr) (y := nev b fc fr) (ev_methJ (ej_new ei_bare) rfl (ea_cons (ev_var rfl) (ea_cons (ev_var rfl) (ea_cons (ev_var rfl) ea_nil))) fun u dx H7 e7 h7 => ⟨u, b, fc, fr, rfl, b3, b36, f2, fb, rfl⟩) (ev_var rfl)))) fun _ => et_not (et_B (ev_isiJ (b := true) (ej_new ei_bare) KN Z.na))) ?_) (fun z => nomatch z) fun _ H10 e10 => ?_
        · rw [decide_eq_true rfl]
          rfl
        have hll10 := e10 _ _ hll9
        refine q_asgL (xs := vl (someL b fc fr)) (el_is (el_lcL (fun i => (lenOf b fc fr (1 + i)).isSome) (fun i => optV (lenOf b fc fr (1 + i))) (ev_var rfl) (sq_of hll10) (by rw [lens_len]; omega) (fun x => rfl) (fun i x H6 e6 hx => ?_) (fun i x H6 e6 hx _ => ?_)) (some_lens b fc fr)) fun sl H11 nsl e11 hsl => ?_
        · obtain ⟨hi, rfl⟩ := lens_get hx
          refine et_is (et_test (ev_op (ev_var rfl) ev_c rv_notN)) ?_
          cases lenOf b fc fr (1 + i) <;> rfl
        · obtain ⟨hi, rfl⟩ := lens_get hx
          exact ev_var rfl
        -- told
        obtain ⟨TL, hT1, hT2⟩ : ∃ TL : List Nat, (∀ x ∈ TL, 0 < x ∧ x < 2 ^ 36001 ∧ mv b x fr = fc * x ∧ (figs b x).length ≤ 1296) ∧ (nev b fc fr = true ∧ TL = [] ∨ nev b fc fr = false ∧ TL = allOf b fc fr (leastM b fc fr)) := by
          cases q : nev b fc fr with
          | true => exact ⟨[], fun x hx => (nomatch hx), .inl ⟨rfl, rfl⟩⟩
          | false =>
            have LL := least_is b3 b36 f2 fb q
            obtain ⟨t, m2, m3⟩ := LL.turned b3 b36 f2 fb
            refine ⟨_, fun x hx => ?_, .inr ⟨rfl, rfl⟩⟩
            obtain ⟨a1, a2, a3⟩ := (mem_allOf b3 b36 f2 fb (by omega)).mp hx
            have a4 := (len_figs (show 2 ≤ b by omega) a1).2
            rw [a2] at a4
            exact ⟨a1, Nat.lt_trans a4 (pow_lt_two b36 (by omega)), a3, by omega⟩
        refine q_asgL (xs := vl TL) (el_if (b := nev b fc fr) (et_B (ev_var rfl)) (fun z => ?_) (fun z => ?_)) fun tl H12 ntl e12 htl => ?_
        · rcases hT2 with ⟨_, e⟩ | ⟨e, _⟩
          · rw [e]
            exact el_lst ea_nil (Nat.zero_le _)
          · rw [z] at e
            cases e
        · rcases hT2 with ⟨e, _⟩ | ⟨_, e⟩
          · rw [z] at e
            cases e
          · have LL := least_is b3 b36 f2 fb z
            obtain ⟨t, m2, m3⟩ := LL.turned b3 b36 f2 fb
            rw [e]
            refine el_fn (ea_cons (ev_var rfl) (ea_cons (ev_var rfl) (ea_cons (ev_var rfl) (ea_cons (ev_min (m := leastM b fc fr) (eq_old (ev_var rfl) (sq_of hsl)) (mem_someL.mpr ⟨_, LL.d1, LL.db, LL.len⟩) fun y hy => ?_) ea_nil)))) fun _ _ => ⟨b, fc, fr, leastM b fc fr, rfl, b3, b36, f2, fb, by omega, by omega, rfl⟩
            obtain ⟨d', a1, a2, a3⟩ := mem_someL.mp hy
            exact LL.min d' y a1 a2 a3
        -- tried
        refine q_asgL (xs := ([0, -1, 1, -(n : Int), ((n % 10 ^ 9 + 1 : Nat) : Int), (wh : Int)] : List Int).map V.int) (el_lst (ea_cons ev_c (ea_cons (ev_un ev_c ru_neg) (ea_cons ev_c (ea_cons (ev_un (ev_var rfl) ru_neg) (ea_cons (ev_is (w := vi (n % 10 ^ 9 + 1)) (ev_op (ev_op (ev_var rfl) (ev_op ev_c ev_c (rv_I ⟨by decide, by decide, by decide⟩)) (rv_I (by decide))) ev_c rv_I0) rfl) (ea_cons (ev_var rfl) ea_nil)))))) (show 6 ≤ 100000 by decide)) fun l H13 nl e13 hl => ?_
        have htl13 := e13 _ _ htl
        have e713 := ((((e8.trans e9).trans e10).trans e11).trans e12)
        have hp12 := ex_l e713 hp
        have hq12 := e713 _ _ hq
        refine q_forNL (xs := vl (TL.take 2)) (el_is (el_cut (eq_old (ev_var rfl) (sq_of htl13)) eo_none (eo_some ev_c)) (cut_to TL 2))
          (fun pp j σ' H' => ∃ (Y : List Int) (r13 r14 r15 : Option V), σ' = [some (.ref a), some (vi wh), some (vi i), some (.int c), some (vi n), some (vi b), some (vi fc), some (vs' fr), some (.ref ll), some (.bl (nev b fc fr)), some (.ref sl), some (.ref tl), some (.ref l), r13, r14, r15, r16, none, none] ∧ Ex H12 H' ∧ H' l = some (.lst (Y.map V.int)) ∧ Y.length ≤ 6 + 6 * j ∧ (∀ y ∈ Y, y < 2 ^ 50000) ∧ pp ≠ l ∧ H' pp = some (.lst (vl (TL.take 2))))
          (fun pp H14 npp e14 hpp => ⟨_, _, _, _, rfl, e13.trans e14, e14 _ _ hl, Nat.le_refl _, ?_, (ne_of_none hl npp).symm, hpp⟩) (fun pp j σ' H' _ ⟨_, _, _, _, _, _, _, _, _, _, z⟩ => sq_of z) ?_ ?_
        · intro y hy
          have s9 : n % 10 ^ 9 < 10 ^ 9 := Nat.mod_lt _ (by decide)
          simp only [List.mem_cons, List.not_mem_nil, or_false] at hy
          rcases hy with rfl | rfl | rfl | rfl | rfl | rfl
          · exact small_lt (by decide)
          · exact small_lt (by decide)
          · exact small_lt (by decide)
          · exact neg_lt n
          · exact small_lt (Int.lt_trans (show (((n % 10 ^ 9 + 1 : Nat)) : Int) < 2000000000 by omega) (by decide))
          · exact small_lt (by exact_mod_cast hwh)
        · rintro pp j x σ' H14 hx ⟨Y, r13, r14, r15, rfl, e14, hl14, hY, hYl, npp, hpp⟩
          obtain ⟨x, hx2, rfl⟩ := get_vl hx
          have hxm := List.mem_of_mem_take (List.mem_of_getElem? hx2)
          have hj : j < 2 := by
            have := (List.getElem?_eq_some_iff.mp hx2).1
            rw [List.length_take] at this
            omega
          obtain ⟨x1, x2, x3, x4⟩ := hT1 x hxm
          have x5 := lt_50000 x2
          refine q_asg (ev_len (eq_new (el_fn (ea_cons (ev_var rfl) (ea_cons (ev_var rfl) ea_nil)) fun _ _ => ⟨b, x, rfl, by omega, b36, x5, rfl⟩))) fun H15 e15 => ?_
          refine q_asg (v := vi (wr b (rep 2 (figs b x)))) (ev_fnL (ev_var rfl) (es_new (el_is (el_rep (k := 2) (es_new (el_fn (ea_cons (ev_var rfl) (ea_cons (ev_var rfl) ea_nil)) fun _ _ => ⟨b, x, rfl, by omega, b36, x5, rfl⟩)) ev_c (by decide) (by rw [vl_len]; omega)) (rep_vl 2 _))) fun u H16 e16 hu => ⟨b, u, _, rfl, b36, sq_of hu, rfl⟩) fun H16 e16 => ?_
          have tw : trn b fc fr (wr b (rep 2 (figs b x))) = true := trn_rep (by omega) x1 (by decide) x3
          have twl : wr b (rep 2 (figs b x)) < 2 ^ 50000 := by
            have h1 := wr_rep_lt (b := b) (k := 2) (by omega) (figs_lt (b := b) (by omega) x)
            exact lt_50000 (Nat.lt_trans h1 (pow_lt_two b36 (by omega)))
          generalize wr b (rep 2 (figs b x)) = tw2 at *
          have ml : mv b x fr < 2 ^ 50000 := by
            have h1 := mv_lt (b := b) (by omega) x fr
            exact lt_50000 (Nat.lt_trans h1 (pow_lt_two b36 (by omega)))
          refine q_ext (ys := ([(x : Int), (x : Int) + 1, (x : Int) - 1, -(x : Int), (tw2 : Int), (mv b x fr : Int)] : List Int).map V.int) (e16 _ _ (e15 _ _ hl14)) (ev_var rfl) (el_lst (ea_cons (ev_var rfl) (ea_cons (ev_op (ev_var rfl) ev_c rv_I0) (ea_cons (ev_op (ev_var rfl) ev_c rv_I0) (ea_cons (ev_un (ev_var rfl) ru_neg) (ea_cons (ev_var rfl) (ea_cons (ev_fn (v := vi (mv b x fr)) (ea_cons (ev_var rfl) (ea_cons (ev_var rfl) (ea_cons (ev_var rfl) ea_nil))) fun _ _ => ⟨b, x, fr, rfl, by omega, b36, x1, x5, rfl⟩) ea_nil)))))) (show 6 ≤ 100000 by decide)) (by rw [List.length_map, List.length_map]; show Y.length + 6 ≤ 100000; omega) fun H17 e17 => ?_
          have e1217 := (e14.trans e15).trans (e16.trans e17)
          refine s_when (b := false) (et_is (et_not (et_B (says (trs (n := (tw2 : Int)) (ev_var rfl) (ev_var rfl) (ev_var rfl) (ev_var rfl) (by omega) b36 (by omega) (int_lt twl)) ev_c))) ?_) (fun z => nomatch z) fun _ H18 e18 => ⟨Y ++ [(x : Int), (x : Int) + 1, (x : Int) - 1, -(x : Int), (tw2 : Int), (mv b x fr : Int)], _, _, _, rfl, (Ex.mut e1217 nl).trans e18, ?_, ?_, ?_, npp, ?_⟩
          · show (!decide (trn b fc fr tw2 = true)) = false
            rw [tw]
            rfl
          · rw [e18 _ _ upd_same, List.map_append]
          · rw [List.length_append]
            show Y.length + 6 ≤ _
            omega
          · intro y hy
            rcases List.mem_append.mp hy with h | h
            · exact hYl y h
            · simp only [List.mem_cons, List.not_mem_nil, or_false] at h
              rcases h with rfl | rfl | rfl | rfl | rfl | rfl
              · exact int_lt x5
              · exact up_lt x2
              · exact Int.lt_of_le_of_lt (show (x : Int) - 1 ≤ (x : Int) by omega) (int_lt x5)
              · exact neg_lt x
              · exact int_lt twl
              · exact int_lt ml
          · refine e18 _ _ ?_
            rw [upd_ne npp]
            exact e17 _ _ (e16 _ _ (e15 _ _ hpp))
        · rintro pp σ' H14 ⟨Y, r13, r14, r15, rfl, e14, hl14, hY, hYl, npp, hpp⟩
          clear hpp npp
          have hYb : Y.length ≤ 100 := by
            have := List.length_take_le 2 TL
            rw [List.length_map] at hY
            omega
          refine s_forLn (ev_var rfl) (sq_of hl14) (fun _ σ' H' => ∃ r13 r16, σ' = [some (.ref a), some (vi wh), some (vi i), some (.int c), some (vi n), some (vi b), some (vi fc), some (vs' fr), some (.ref ll), some (.bl (nev b fc fr)), some (.ref sl), some (.ref tl), some (.ref l), r13, r14, r15, r16, none, none] ∧ Ex H14 H')
            (fun H15 e15 => ⟨_, _, rfl, e15⟩) (fun _ σ' H' _ ⟨_, _, _, e⟩ => sq_of (e _ _ hl14)) ?_ ?_
          · rintro j x σ' H15 hx ⟨r13, r16, rfl, e15⟩
            obtain ⟨y, hy, rfl⟩ := get_ints hx
            have hyl := hYl y (List.mem_of_getElem? hy)
            refine q_asg (v := .bl (trn b fc fr y.toNat)) (ev_andV (a := decide (0 < y.toNat)) (ev_is (ev_op (ev_var rfl) ev_c rv_I0) ?_) fun h0 => ?_) fun H16 e16 => ?_
            · show V.bl (decide ((0 : Int) < y)) = _
              by_cases z : 0 < y
              · rw [decide_eq_true z, decide_eq_true (by omega)]
              · rw [decide_eq_false z, decide_eq_false (by omega)]
            · have h1 : 0 < y.toNat := of_decide_eq_true h0
              have en : y = ((y.toNat : Nat) : Int) := by omega
              have hn2 : y.toNat < 2 ^ 50000 := by
                rw [en] at hyl
                exact_mod_cast hyl
              refine ev_is (ev_op (ev_fn (ea_cons (ev_var rfl) (ea_cons (ev_is (w := vi y.toNat) (ev_var rfl) (congrArg V.int en)) (ea_cons (ev_var rfl) ea_nil))) fun _ _ => ⟨b, y.toNat, fr, rfl, by omega, b36, h1, hn2, rfl⟩) (ev_op (ev_var rfl) (ev_is (w := vi y.toNat) (ev_var rfl) (congrArg V.int en)) (rv_I (.inl cf))) (rv_eq rfl)) ?_
              exact congrArg V.bl (dec_vi (mv b y.toNat fr) (fc * y.toNat))
            · refine s_when (b := false) (et_is (et_or (et_test (ev_op (ev_fldJ (ej_new (ei_make (ev_var rfl))) KT.cl NT (nf_get y)) (ev_var rfl) (rv_ne rfl))) fun _ => et_not (et_B (says (trs (n := y) (ev_var rfl) (ev_var rfl) (ev_var rfl) (ev_var rfl) (by omega) b36 (by omega) hyl) (ev_var rfl)))) ?_) (fun z => nomatch z) fun _ H17 e17 => ⟨_, _, rfl, (e15.trans e16).trans e17⟩
              rw [decide_eq_true rfl, decide_eq_true rfl]
              rfl
          · rintro σ' H15 ⟨r13, r16, rfl, e15⟩
            exact ⟨_, _, _, _, _, _, _, _, _, _, rfl, ex_l (e14.trans e15) hp12, (e14.trans e15) _ _ hq12⟩
      · rintro q σ' H7 ⟨r7, r8, r9, r10, r11, r12, r13, r14, r15, r16, rfl, hp, hq⟩
        exact ⟨_, _, _, _, _, _, _, _, _, _, _, _, _, _, _, rfl, hp⟩
    · rintro p σ' H2 ⟨r2, r3, r4, r5, r6, r7, r8, r9, r10, r11, r12, r13, r14, r15, r16, rfl, hp⟩
      have t1 : trn 10 3 false 285714 = true := by decide +kernel
      have t2 : trn 10 5 true 142857 = true := by decide +kernel
      refine s_ret (v := .bl true) (ev_is (ev_andV (a := true) (b := true) (ev_is (ev_op (trs (n := 285714) (b := 10) (f := 3) (fr := false) ev_c ev_c ev_c ev_c (by decide) (by decide) (by decide) (small_lt (by decide))) ev_c rv_isB) ?_) fun _ => ev_is (ev_op (trs (n := 142857) (b := 10) (f := 5) (fr := true) ev_c ev_c ev_c ev_c (by decide) (by decide) (by decide) (small_lt (by decide))) ev_c rv_isB) ?_) rfl) fun H3 e3 => k H3
      · show V.bl (decide (trn 10 3 false 285714 = true)) = V.bl true
        rw [t1]
        rfl
      · show V.bl (decide (trn 10 5 true 142857 = true)) = V.bl true
        rw [t2]
        rfl
end
end Tf

namespace Tf
open PySem PySem.Spec PyProof.Rows L2 Evl
theorem all_mk {l : PySem.W.OpenLaw} {w : World} {K : PySem.W.Frag} {h : Heap} {mg : Str → Option Value} {fa f0 f1 f2 f3 f4 f5 f6 f7 f8 f9 f10 f11 f12 f13 f14 f15 f16 f17 f18 f19 f20 f21 f22 f23 f24 : Addr} (X : K.In h) (G : h.Ns mainGlobals mg) (hfa : mg "law" = some (.ref fa))
    {aS : Addr} {tS1 tS2 : Tok} {nS : Nat} {odS : Option Addr} {slS : Array (Option Value)}
    {tM : Tok}
    {CA CT CN : Addr}
    (gCA : PySem.W.nsIn K mainGlobals "Answer" = some (some (.ref CA)))
    (gCT : PySem.W.nsIn K mainGlobals "Turns" = some (some (.ref CT)))
    (gCN : PySem.W.nsIn K mainGlobals "Never" = some (some (.ref CN)))
    {od0 an0 : Option Addr} {sl0 : Array (Option Value)} {oc0 kV0 dc0 pm0 cd0 ct0 : Value}
    (a0 : PySem.W.nsIn K mainGlobals "is_whole" = some (some (.ref f0)))
    (l0 : K.lookup f0 = some ⟨oc0, od0, .func (PySem.W.fnOf "is_whole" "is_whole" (defArgs s_is_whole) (defBody s_is_whole) (defScope s_is_whole) .none kV0 dc0 pm0 an0 cd0 ct0), sl0⟩) (c0 : PySem.W.codeIn K cd0 "is_whole" = true) (k0 : PySem.W.keepIn K (.ref f0) = true)
    {od1 an1 : Option Addr} {sl1 : Array (Option Value)} {oc1 kV1 dc1 pm1 cd1 ct1 : Value}
    (a1 : PySem.W.nsIn K mainGlobals "asked_base" = some (some (.ref f1)))
    (l1 : K.lookup f1 = some ⟨oc1, od1, .func (PySem.W.fnOf "asked_base" "asked_base" (defArgs s_asked_base) (defBody s_asked_base) (defScope s_asked_base) .none kV1 dc1 pm1 an1 cd1 ct1), sl1⟩) (c1 : PySem.W.codeIn K cd1 "asked_base" = true) (k1 : PySem.W.keepIn K (.ref f1) = true)
    {od2 an2 : Option Addr} {sl2 : Array (Option Value)} {oc2 kV2 dc2 pm2 cd2 ct2 : Value}
    (a2 : PySem.W.nsIn K mainGlobals "asked_side" = some (some (.ref f2)))
    (l2 : K.lookup f2 = some ⟨oc2, od2, .func (PySem.W.fnOf "asked_side" "asked_side" (defArgs s_asked_side) (defBody s_asked_side) (defScope s_asked_side) .none kV2 dc2 pm2 an2 cd2 ct2), sl2⟩) (c2 : PySem.W.codeIn K cd2 "asked_side" = true) (k2 : PySem.W.keepIn K (.ref f2) = true)
    {od3 an3 : Option Addr} {sl3 : Array (Option Value)} {oc3 kV3 dc3 pm3 cd3 ct3 : Value}
    (a3 : PySem.W.nsIn K mainGlobals "figures_of" = some (some (.ref f3)))
    (l3 : K.lookup f3 = some ⟨oc3, od3, .func (PySem.W.fnOf "figures_of" "figures_of" (defArgs s_figures_of) (defBody s_figures_of) (defScope s_figures_of) .none kV3 dc3 pm3 an3 cd3 ct3), sl3⟩) (c3 : PySem.W.codeIn K cd3 "figures_of" = true) (k3 : PySem.W.keepIn K (.ref f3) = true)
    {od4 an4 : Option Addr} {sl4 : Array (Option Value)} {oc4 kV4 dc4 pm4 cd4 ct4 : Value}
    (a4 : PySem.W.nsIn K mainGlobals "worth" = some (some (.ref f4)))
    (l4 : K.lookup f4 = some ⟨oc4, od4, .func (PySem.W.fnOf "worth" "worth" (defArgs s_worth) (defBody s_worth) (defScope s_worth) .none kV4 dc4 pm4 an4 cd4 ct4), sl4⟩) (c4 : PySem.W.codeIn K cd4 "worth" = true) (k4 : PySem.W.keepIn K (.ref f4) = true)
    {od5 an5 : Option Addr} {sl5 : Array (Option Value)} {oc5 kV5 dc5 pm5 cd5 ct5 : Value}
    (a5 : PySem.W.nsIn K mainGlobals "moved_of" = some (some (.ref f5)))
    (l5 : K.lookup f5 = some ⟨oc5, od5, .func (PySem.W.fnOf "moved_of" "moved_of" (defArgs s_moved_of) (defBody s_moved_of) (defScope s_moved_of) .none kV5 dc5 pm5 an5 cd5 ct5), sl5⟩) (c5 : PySem.W.codeIn K cd5 "moved_of" = true) (k5 : PySem.W.keepIn K (.ref f5) = true)
    {od6 an6 : Option Addr} {sl6 : Array (Option Value)} {oc6 kV6 dc6 pm6 cd6 ct6 : Value}
    (a6 : PySem.W.nsIn K mainGlobals "common" = some (some (.ref f6)))
    (l6 : K.lookup f6 = some ⟨oc6, od6, .func (PySem.W.fnOf "common" "common" (defArgs s_common) (defBody s_common) (defScope s_common) .none kV6 dc6 pm6 an6 cd6 ct6), sl6⟩) (c6 : PySem.W.codeIn K cd6 "common" = true) (k6 : PySem.W.keepIn K (.ref f6) = true)
    {od7 an7 : Option Addr} {sl7 : Array (Option Value)} {oc7 kV7 dc7 pm7 cd7 ct7 : Value}
    (a7 : PySem.W.nsIn K mainGlobals "often_back" = some (some (.ref f7)))
    (l7 : K.lookup f7 = some ⟨oc7, od7, .func (PySem.W.fnOf "often_back" "often_back" (defArgs s_often_back) (defBody s_often_back) (defScope s_often_back) .none kV7 dc7 pm7 an7 cd7 ct7), sl7⟩) (c7 : PySem.W.codeIn K cd7 "often_back" = true) (k7 : PySem.W.keepIn K (.ref f7) = true)
    {od8 an8 : Option Addr} {sl8 : Array (Option Value)} {oc8 kV8 dc8 pm8 cd8 ct8 : Value}
    (a8 : PySem.W.nsIn K mainGlobals "length_of" = some (some (.ref f8)))
    (l8 : K.lookup f8 = some ⟨oc8, od8, .func (PySem.W.fnOf "length_of" "length_of" (defArgs s_length_of) (defBody s_length_of) (defScope s_length_of) .none kV8 dc8 pm8 an8 cd8 ct8), sl8⟩) (c8 : PySem.W.codeIn K cd8 "length_of" = true) (k8 : PySem.W.keepIn K (.ref f8) = true)
    {od9 an9 : Option Addr} {sl9 : Array (Option Value)} {oc9 kV9 dc9 pm9 cd9 ct9 : Value}
    (a9 : PySem.W.findIn K (.ref CT) "__init__" = some (some (.ref f9))) (i9 : PySem.W.isFn K (.ref f9) = true)
    (l9 : K.lookup f9 = some ⟨oc9, od9, .func (PySem.W.fnOf "__init__" "Turns.__init__" (defArgs s_Turns___init__) (defBody s_Turns___init__) (defScope s_Turns___init__) .none kV9 dc9 pm9 an9 cd9 ct9), sl9⟩) (c9 : PySem.W.codeIn K cd9 "Turns.__init__" = true) (k9 : PySem.W.keepIn K (.ref f9) = true)
    {od10 an10 : Option Addr} {sl10 : Array (Option Value)} {oc10 kV10 dc10 pm10 cd10 ct10 : Value}
    (a10 : PySem.W.findIn K (.ref CT) "shows" = some (some (.ref f10))) (i10 : PySem.W.isFn K (.ref f10) = true)
    (l10 : K.lookup f10 = some ⟨oc10, od10, .func (PySem.W.fnOf "shows" "Turns.shows" (defArgs s_Turns_shows) (defBody s_Turns_shows) (defScope s_Turns_shows) .none kV10 dc10 pm10 an10 cd10 ct10), sl10⟩) (c10 : PySem.W.codeIn K cd10 "Turns.shows" = true) (k10 : PySem.W.keepIn K (.ref f10) = true)
    {od11 an11 : Option Addr} {sl11 : Array (Option Value)} {oc11 kV11 dc11 pm11 cd11 ct11 : Value}
    (a11 : PySem.W.findIn K (.ref CN) "shows" = some (some (.ref f11))) (i11 : PySem.W.isFn K (.ref f11) = true)
    (l11 : K.lookup f11 = some ⟨oc11, od11, .func (PySem.W.fnOf "shows" "Never.shows" (defArgs s_Never_shows) (defBody s_Never_shows) (defScope s_Never_shows) .none kV11 dc11 pm11 an11 cd11 ct11), sl11⟩) (c11 : PySem.W.codeIn K cd11 "Never.shows" = true) (k11 : PySem.W.keepIn K (.ref f11) = true)
    {od12 an12 : Option Addr} {sl12 : Array (Option Value)} {oc12 kV12 dc12 pm12 cd12 ct12 : Value}
    (a12 : PySem.W.nsIn K mainGlobals "asked_factor" = some (some (.ref f12)))
    (l12 : K.lookup f12 = some ⟨oc12, od12, .func (PySem.W.fnOf "asked_factor" "asked_factor" (defArgs s_asked_factor) (defBody s_asked_factor) (defScope s_asked_factor) .none kV12 dc12 pm12 an12 cd12 ct12), sl12⟩) (c12 : PySem.W.codeIn K cd12 "asked_factor" = true) (k12 : PySem.W.keepIn K (.ref f12) = true)
    {od13 an13 : Option Addr} {sl13 : Array (Option Value)} {oc13 kV13 dc13 pm13 cd13 ct13 : Value}
    (a13 : PySem.W.nsIn K mainGlobals "turned_one" = some (some (.ref f13)))
    (l13 : K.lookup f13 = some ⟨oc13, od13, .func (PySem.W.fnOf "turned_one" "turned_one" (defArgs s_turned_one) (defBody s_turned_one) (defScope s_turned_one) .none kV13 dc13 pm13 an13 cd13 ct13), sl13⟩) (c13 : PySem.W.codeIn K cd13 "turned_one" = true) (k13 : PySem.W.keepIn K (.ref f13) = true)
    {od14 an14 : Option Addr} {sl14 : Array (Option Value)} {oc14 kV14 dc14 pm14 cd14 ct14 : Value}
    (a14 : PySem.W.nsIn K mainGlobals "power" = some (some (.ref f14)))
    (l14 : K.lookup f14 = some ⟨oc14, od14, .func (PySem.W.fnOf "power" "power" (defArgs s_power) (defBody s_power) (defScope s_power) .none kV14 dc14 pm14 an14 cd14 ct14), sl14⟩) (c14 : PySem.W.codeIn K cd14 "power" = true) (k14 : PySem.W.keepIn K (.ref f14) = true)
    {od15 an15 : Option Addr} {sl15 : Array (Option Value)} {oc15 kV15 dc15 pm15 cd15 ct15 : Value}
    (a15 : PySem.W.nsIn K mainGlobals "all_of" = some (some (.ref f15)))
    (l15 : K.lookup f15 = some ⟨oc15, od15, .func (PySem.W.fnOf "all_of" "all_of" (defArgs s_all_of) (defBody s_all_of) (defScope s_all_of) .none kV15 dc15 pm15 an15 cd15 ct15), sl15⟩) (c15 : PySem.W.codeIn K cd15 "all_of" = true) (k15 : PySem.W.keepIn K (.ref f15) = true)
    {od16 an16 : Option Addr} {sl16 : Array (Option Value)} {oc16 kV16 dc16 pm16 cd16 ct16 : Value}
    (a16 : PySem.W.nsIn K mainGlobals "_law_number" = some (some (.ref f16)))
    (l16 : K.lookup f16 = some ⟨oc16, od16, .func (PySem.W.fnOf "_law_number" "_law_number" (defArgs s__law_number) (defBody s__law_number) (defScope s__law_number) .none kV16 dc16 pm16 an16 cd16 ct16), sl16⟩) (c16 : PySem.W.codeIn K cd16 "_law_number" = true) (k16 : PySem.W.keepIn K (.ref f16) = true)
    {od17 an17 : Option Addr} {sl17 : Array (Option Value)} {oc17 kV17 dc17 pm17 cd17 ct17 : Value}
    (a17 : PySem.W.nsIn K mainGlobals "_law_figures" = some (some (.ref f17)))
    (l17 : K.lookup f17 = some ⟨oc17, od17, .func (PySem.W.fnOf "_law_figures" "_law_figures" (defArgs s__law_figures) (defBody s__law_figures) (defScope s__law_figures) .none kV17 dc17 pm17 an17 cd17 ct17), sl17⟩) (c17 : PySem.W.codeIn K cd17 "_law_figures" = true) (k17 : PySem.W.keepIn K (.ref f17) = true)
    {od18 an18 : Option Addr} {sl18 : Array (Option Value)} {oc18 kV18 dc18 pm18 cd18 ct18 : Value}
    (a18 : PySem.W.nsIn K mainGlobals "_law_worth" = some (some (.ref f18)))
    (l18 : K.lookup f18 = some ⟨oc18, od18, .func (PySem.W.fnOf "_law_worth" "_law_worth" (defArgs s__law_worth) (defBody s__law_worth) (defScope s__law_worth) .none kV18 dc18 pm18 an18 cd18 ct18), sl18⟩) (c18 : PySem.W.codeIn K cd18 "_law_worth" = true) (k18 : PySem.W.keepIn K (.ref f18) = true)
    {od19 an19 : Option Addr} {sl19 : Array (Option Value)} {oc19 kV19 dc19 pm19 cd19 ct19 : Value}
    (a19 : PySem.W.nsIn K mainGlobals "_law_moved" = some (some (.ref f19)))
    (l19 : K.lookup f19 = some ⟨oc19, od19, .func (PySem.W.fnOf "_law_moved" "_law_moved" (defArgs s__law_moved) (defBody s__law_moved) (defScope s__law_moved) .none kV19 dc19 pm19 an19 cd19 ct19), sl19⟩) (c19 : PySem.W.codeIn K cd19 "_law_moved" = true) (k19 : PySem.W.keepIn K (.ref f19) = true)
    {od20 an20 : Option Addr} {sl20 : Array (Option Value)} {oc20 kV20 dc20 pm20 cd20 ct20 : Value}
    (a20 : PySem.W.nsIn K mainGlobals "_law_front" = some (some (.ref f20)))
    (l20 : K.lookup f20 = some ⟨oc20, od20, .func (PySem.W.fnOf "_law_front" "_law_front" (defArgs s__law_front) (defBody s__law_front) (defScope s__law_front) .none kV20 dc20 pm20 an20 cd20 ct20), sl20⟩) (c20 : PySem.W.codeIn K cd20 "_law_front" = true) (k20 : PySem.W.keepIn K (.ref f20) = true)
    {od21 an21 : Option Addr} {sl21 : Array (Option Value)} {oc21 kV21 dc21 pm21 cd21 ct21 : Value}
    (a21 : PySem.W.nsIn K mainGlobals "_law_behind" = some (some (.ref f21)))
    (l21 : K.lookup f21 = some ⟨oc21, od21, .func (PySem.W.fnOf "_law_behind" "_law_behind" (defArgs s__law_behind) (defBody s__law_behind) (defScope s__law_behind) .none kV21 dc21 pm21 an21 cd21 ct21), sl21⟩) (c21 : PySem.W.codeIn K cd21 "_law_behind" = true) (k21 : PySem.W.keepIn K (.ref f21) = true)
    {od22 an22 : Option Addr} {sl22 : Array (Option Value)} {oc22 kV22 dc22 pm22 cd22 ct22 : Value}
    (a22 : PySem.W.nsIn K mainGlobals "_law_length" = some (some (.ref f22)))
    (l22 : K.lookup f22 = some ⟨oc22, od22, .func (PySem.W.fnOf "_law_length" "_law_length" (defArgs s__law_length) (defBody s__law_length) (defScope s__law_length) .none kV22 dc22 pm22 an22 cd22 ct22), sl22⟩) (c22 : PySem.W.codeIn K cd22 "_law_length" = true) (k22 : PySem.W.keepIn K (.ref f22) = true)
    {od23 an23 : Option Addr} {sl23 : Array (Option Value)} {oc23 kV23 dc23 pm23 cd23 ct23 : Value}
    (a23 : PySem.W.nsIn K mainGlobals "_law_says" = some (some (.ref f23)))
    (l23 : K.lookup f23 = some ⟨oc23, od23, .func (PySem.W.fnOf "_law_says" "_law_says" (defArgs s__law_says) (defBody s__law_says) (defScope s__law_says) .none kV23 dc23 pm23 an23 cd23 ct23), sl23⟩) (c23 : PySem.W.codeIn K cd23 "_law_says" = true) (k23 : PySem.W.keepIn K (.ref f23) = true)
    {od24 an24 : Option Addr} {sl24 : Array (Option Value)} {oc24 kV24 dc24 pm24 cd24 ct24 : Value}
    (a24 : PySem.W.nsIn K mainGlobals "law" = some (some (.ref f24)))
    (l24 : K.lookup f24 = some ⟨oc24, od24, .func (PySem.W.fnOf "law" "law" (defArgs s_law) (defBody s_law) (defScope s_law) .none kV24 dc24 pm24 an24 cd24 ct24), sl24⟩) (c24 : PySem.W.codeIn K cd24 "law" = true) (k24 : PySem.W.keepIn K (.ref f24) = true)
    (z0 : PySem.W.nsIn K mainGlobals "isinstance" = some none)
    (z1 : PySem.W.nsIn K mainGlobals "int" = some none)
    (z2 : PySem.W.nsIn K mainGlobals "bool" = some none)
    (z3 : PySem.W.nsIn K mainGlobals "str" = some none)
    (z4 : PySem.W.nsIn K mainGlobals "min" = some none)
    (z5 : PySem.W.nsIn K mainGlobals "any" = some none)
    (z6 : PySem.W.nsIn K mainGlobals "abs" = some none)
    (z7 : PySem.W.nsIn K mainGlobals "sum" = some none)
    (z8 : PySem.W.nsIn K mainGlobals "range" = some none)
    (z9 : PySem.W.nsIn K mainGlobals "enumerate" = some none)
    (z10 : PySem.W.nsIn K mainGlobals "len" = some none)
    (z11 : PySem.W.nsIn K mainGlobals "ValueError" = some none)
    (gS : PySem.W.nsIn K mainGlobals "SIDES" = some (some (.ref aS)))
    (lS : K.lookup aS = some ⟨.type "tuple", odS, .seq #[.str "front" tS1, .str "behind" tS2] nS, slS⟩)
    (gM : PySem.W.nsIn K mainGlobals "MOST" = some (some (.int 3000 tM)))
    (pgA : PySem.W.plainGet K CA Str.empty = true)
    (hdA : PySem.W.hasDictIn K CA = true)
    (poA : PySem.W.plainOver K CA = true)
    (saA : PySem.W.findIn K (.ref CA) "__setattr__" = some (some (.builtin "object.__setattr__")))
    (haA : PySem.W.findIn K (.ref CA) "__class__" = some (some (.builtin "object.__class__")))
    (hmA : PySem.W.mroIn K CA (.type "object") = some true)
    (mkA : PySem.W.makesIn K CA = true)
    (kcA : PySem.W.keepIn K (.ref CA) = true)
    (pgT : PySem.W.plainGet K CT Str.empty = true)
    (hdT : PySem.W.hasDictIn K CT = true)
    (poT : PySem.W.plainOver K CT = true)
    (saT : PySem.W.findIn K (.ref CT) "__setattr__" = some (some (.builtin "object.__setattr__")))
    (haT : PySem.W.findIn K (.ref CT) "__class__" = some (some (.builtin "object.__class__")))
    (hmT : PySem.W.mroIn K CT (.type "object") = some true)
    (mkT : PySem.W.makesIn K CT = true)
    (kcT : PySem.W.keepIn K (.ref CT) = true)
    (pgN : PySem.W.plainGet K CN Str.empty = true)
    (hdN : PySem.W.hasDictIn K CN = true)
    (poN : PySem.W.plainOver K CN = true)
    (saN : PySem.W.findIn K (.ref CN) "__setattr__" = some (some (.builtin "object.__setattr__")))
    (haN : PySem.W.findIn K (.ref CN) "__class__" = some (some (.builtin "object.__class__")))
    (hmN : PySem.W.mroIn K CN (.type "object") = some true)
    (mkN : PySem.W.makesIn K CN = true)
    (kcN : PySem.W.keepIn K (.ref CN) = true)
    (hnO : PySem.W.specialIn K (.builtin "object.__class__") "__get__" = some (some (.builtin "getset_descriptor.__get__")))
    (htO : PySem.W.takesIn K (.builtin "object.__class__") = some true)
    (nuT : PySem.W.findIn K (.ref CT) "number" = some none)
    (inN : PySem.W.findIn K (.ref CN) "__init__" = some (some (.builtin "object.__init__")))
    (isA : PySem.W.isClsIn K CA = true)
    (isT : PySem.W.isClsIn K CT = true)
    (isN : PySem.W.isClsIn K CN = true)
    (tyA : PySem.W.typeIn K (.ref CA) = some (.type "type"))
    (tyT : PySem.W.typeIn K (.ref CT) = some (.type "type"))
    (tyN : PySem.W.typeIn K (.ref CN) = some (.type "type"))
    (z_ta : PySem.W.subIn K (.ref CT) (.ref CA) = some true)
    (z_na : PySem.W.subIn K (.ref CN) (.ref CA) = some true)
    (z_tt : PySem.W.subIn K (.ref CT) (.ref CT) = some true)
    (z_tn : PySem.W.subIn K (.ref CT) (.ref CN) = some false)
    (z_nt : PySem.W.subIn K (.ref CN) (.ref CT) = some false)
    (z_nn : PySem.W.subIn K (.ref CN) (.ref CN) = some true)
    : ∃ fd : FuncData, (∀ (s : Shared) (v : Value), BindsTo s fd ⟨[v], []⟩ [("_law_script", v)]) ∧ ∀ base : Heap, K.In base → base.Ns mainGlobals mg → FnOk l.prog w K mg base CX0 5 fa fd P_law (spLaw K) := by
  have e := hfa.symm.trans (PySem.W.mg_of X G a24)
  cases e
  have T : Nm mg := ⟨PySem.W.mg_none_of X G z0, PySem.W.mg_none_of X G z1, PySem.W.mg_none_of X G z2, PySem.W.mg_none_of X G z3, PySem.W.mg_none_of X G z4, PySem.W.mg_none_of X G z5, PySem.W.mg_none_of X G z6, PySem.W.mg_none_of X G z7, PySem.W.mg_none_of X G z8, PySem.W.mg_none_of X G z9, PySem.W.mg_none_of X G z10, PySem.W.mg_none_of X G z11⟩
  have S : Sides K mg aS := ⟨PySem.W.mg_of X G gS, fun H => .inr ⟨_, _, _, lS, rfl, rfl, (by show 2 ≤ sizeLine; decide), .cons ⟨_, rfl⟩ (.cons ⟨_, rfl⟩ .nil)⟩⟩
  have M : Most mg tM := ⟨PySem.W.mg_of X G gM⟩
  have KA : Kls K mg "Answer" CA := ⟨PySem.W.mg_of X G gCA, ⟨pgA, hdA, poA, saA⟩, haA, hnO, htO, hmA⟩
  have KT : Kls K mg "Turns" CT := ⟨PySem.W.mg_of X G gCT, ⟨pgT, hdT, poT, saT⟩, haT, hnO, htO, hmT⟩
  have KN : Kls K mg "Never" CN := ⟨PySem.W.mg_of X G gCN, ⟨pgN, hdN, poN, saN⟩, haN, hnO, htO, hmN⟩
  have NT : NoAttr K CT "number" := nuT
  have BN : Bare K CN := ⟨mkN, inN, hmN, kcN⟩
  have Z : Kits K CA CT CN := kits_by isA isT isN tyA tyT tyN z_ta z_na z_tt z_tn z_nt z_nn
  have F_is_whole := fun_mk (st := s_is_whole) l0 c0 k0
  have b_is_whole := F_is_whole.binds (ps := P_is_whole) fun _ _ _ _ _ _ us hl => match us, hl with | [_], _ => rfl
  have H_is_whole : ∀ base : Heap, Has l.prog w K mg base "is_whole" P_is_whole _ _ := fun base => ⟨⟨_, _, PySem.W.mg_of X G a0, k0, b_is_whole, ok_is_whole T F_is_whole⟩⟩
  have F_asked_base := fun_mk (st := s_asked_base) l1 c1 k1
  have b_asked_base := F_asked_base.binds (ps := P_asked_base) fun _ _ _ _ _ _ us hl => match us, hl with | [_], _ => rfl
  have H_asked_base : ∀ base : Heap, Has l.prog w K mg base "asked_base" P_asked_base _ _ := fun base => ⟨⟨_, _, PySem.W.mg_of X G a1, k1, b_asked_base, ok_asked_base F_asked_base (H_is_whole base)⟩⟩
  have F_asked_side := fun_mk (st := s_asked_side) l2 c2 k2
  have b_asked_side := F_asked_side.binds (ps := P_asked_side) fun _ _ _ _ _ _ us hl => match us, hl with | [_], _ => rfl
  have H_asked_side : ∀ base : Heap, Has l.prog w K mg base "asked_side" P_asked_side _ _ := fun base => ⟨⟨_, _, PySem.W.mg_of X G a2, k2, b_asked_side, ok_asked_side T S F_asked_side⟩⟩
  have F_figures_of := fun_mk (st := s_figures_of) l3 c3 k3
  have b_figures_of := F_figures_of.binds (ps := P_figures_of) fun _ _ _ _ _ _ us hl => match us, hl with | [_, _], _ => rfl
  have H_figures_of : ∀ base : Heap, Has l.prog w K mg base "figures_of" P_figures_of _ _ := fun base => ⟨⟨_, _, PySem.W.mg_of X G a3, k3, b_figures_of, ok_figures_of F_figures_of⟩⟩
  have F_worth := fun_mk (st := s_worth) l4 c4 k4
  have b_worth := F_worth.binds (ps := P_worth) fun _ _ _ _ _ _ us hl => match us, hl with | [_, _], _ => rfl
  have H_worth : ∀ base : Heap, Has l.prog w K mg base "worth" P_worth _ _ := fun base => ⟨⟨_, _, PySem.W.mg_of X G a4, k4, b_worth, ok_worth F_worth⟩⟩
  have F_moved_of := fun_mk (st := s_moved_of) l5 c5 k5
  have b_moved_of := F_moved_of.binds (ps := P_moved_of) fun _ _ _ _ _ _ us hl => match us, hl with | [_, _, _], _ => rfl
  have H_moved_of : ∀ base : Heap, Has l.prog w K mg base "moved_of" P_moved_of _ _ := fun base => ⟨⟨_, _, PySem.W.mg_of X G a5, k5, b_moved_of, ok_moved_of F_moved_of (H_figures_of base) (H_worth base)⟩⟩
  have F_common := fun_mk (st := s_common) l6 c6 k6
  have b_common := F_common.binds (ps := P_common) fun _ _ _ _ _ _ us hl => match us, hl with | [_, _], _ => rfl
  have H_common : ∀ base : Heap, Has l.prog w K mg base "common" P_common _ _ := fun base => ⟨⟨_, _, PySem.W.mg_of X G a6, k6, b_common, ok_common F_common⟩⟩
  have F_often_back := fun_mk (st := s_often_back) l7 c7 k7
  have b_often_back := F_often_back.binds (ps := P_often_back) fun _ _ _ _ _ _ us hl => match us, hl with | [_, _], _ => rfl
  have H_often_back : ∀ base : Heap, Has l.prog w K mg base "often_back" P_often_back _ _ := fun base => ⟨⟨_, _, PySem.W.mg_of X G a7, k7, b_often_back, ok_often_back F_often_back (H_common base)⟩⟩
  have F_length_of := fun_mk (st := s_length_of) l8 c8 k8
  have b_length_of := F_length_of.binds (ps := P_length_of) fun _ _ _ _ _ _ us hl => match us, hl with | [_, _, _, _], _ => rfl
  have H_length_of : ∀ base : Heap, Has l.prog w K mg base "length_of" P_length_of _ _ := fun base => ⟨⟨_, _, PySem.W.mg_of X G a8, k8, b_length_of, ok_length_of F_length_of (H_common base) (H_often_back base)⟩⟩
  have F_asked_factor := fun_mk (st := s_asked_factor) l12 c12 k12
  have b_asked_factor := F_asked_factor.binds (ps := P_asked_factor) fun _ _ _ _ _ _ us hl => match us, hl with | [_, _], _ => rfl
  have H_asked_factor : ∀ base : Heap, Has l.prog w K mg base "asked_factor" P_asked_factor _ _ := fun base => ⟨⟨_, _, PySem.W.mg_of X G a12, k12, b_asked_factor, ok_asked_factor F_asked_factor (H_is_whole base)⟩⟩
  have F_power := fun_mk (st := s_power) l14 c14 k14
  have b_power := F_power.binds (ps := P_power) fun _ _ _ _ _ _ us hl => match us, hl with | [_, _], _ => rfl
  have H_power : ∀ base : Heap, Has l.prog w K mg base "power" P_power _ _ := fun base => ⟨⟨_, _, PySem.W.mg_of X G a14, k14, b_power, ok_power F_power⟩⟩
  have F_turned_one := fun_mk (st := s_turned_one) l13 c13 k13
  have b_turned_one := F_turned_one.binds (ps := P_turned_one) fun _ _ _ _ _ _ us hl => match us, hl with | [_, _, _, _, _], _ => rfl
  have H_turned_one : ∀ base : Heap, Has l.prog w K mg base "turned_one" P_turned_one _ _ := fun base => ⟨⟨_, _, PySem.W.mg_of X G a13, k13, b_turned_one, ok_turned_one F_turned_one (H_power base)⟩⟩
  have F_all_of := fun_mk (st := s_all_of) l15 c15 k15
  have b_all_of := F_all_of.binds (ps := P_all_of) fun _ _ _ _ _ _ us hl => match us, hl with | [_, _, _, _], _ => rfl
  have H_all_of : ∀ base : Heap, Has l.prog w K mg base "all_of" P_all_of _ _ := fun base => ⟨⟨_, _, PySem.W.mg_of X G a15, k15, b_all_of, ok_all_of T M F_all_of (H_is_whole base) (H_asked_base base) (H_asked_factor base) (H_asked_side base) (H_length_of base) (H_turned_one base)⟩⟩
  have F_Turns___init__ := fun_mk (st := s_Turns___init__) l9 c9 k9
  have b_Turns___init__ := F_Turns___init__.binds (ps := P_Turns___init__) fun _ _ _ _ _ _ us hl => match us, hl with | [_, _], _ => rfl
  have H_Turns___init__ : ∀ base : Heap, HasMk l.prog w K mg base "Turns" CT P_Turns___init__ _ _ := fun base => ⟨⟨_, _, ⟨mkT, a9, i9, kcT⟩, b_Turns___init__, ok_Turns___init__ F_Turns___init__ KT NT⟩, KT.g⟩
  have F_Turns_shows := fun_mk (st := s_Turns_shows) l10 c10 k10
  have b_Turns_shows := F_Turns_shows.binds (ps := P_Turns_shows) fun _ _ _ _ _ _ us hl => match us, hl with | [_, _, _, _], _ => rfl
  have H_Turns_shows : ∀ base : Heap, HasM l.prog w K mg base CT "shows" P_Turns_shows _ _ := fun base => ⟨⟨_, _, ⟨a10, i10, k10⟩, b_Turns_shows, ok_Turns_shows F_Turns_shows KT NT (H_moved_of base)⟩, KT.cl⟩
  have F_Never_shows := fun_mk (st := s_Never_shows) l11 c11 k11
  have b_Never_shows := F_Never_shows.binds (ps := P_Never_shows) fun _ _ _ _ _ _ us hl => match us, hl with | [_, _, _, _], _ => rfl
  have H_Never_shows : ∀ base : Heap, HasM l.prog w K mg base CN "shows" P_Never_shows _ _ := fun base => ⟨⟨_, _, ⟨a11, i11, k11⟩, b_Never_shows, ok_Never_shows T F_Never_shows (H_length_of base)⟩, KN.cl⟩
  have F__law_number := fun_mk (st := s__law_number) l16 c16 k16
  have b__law_number := F__law_number.binds (ps := P__law_number) fun _ _ _ _ _ _ us hl => match us, hl with | [_, _, _], _ => rfl
  have H__law_number : ∀ base : Heap, Has l.prog w K mg base "_law_number" P__law_number _ _ := fun base => ⟨⟨_, _, PySem.W.mg_of X G a16, k16, b__law_number, ok__law_number T F__law_number⟩⟩
  have F__law_figures := fun_mk (st := s__law_figures) l17 c17 k17
  have b__law_figures := F__law_figures.binds (ps := P__law_figures) fun _ _ _ _ _ _ us hl => match us, hl with | [_, _], _ => rfl
  have H__law_figures : ∀ base : Heap, Has l.prog w K mg base "_law_figures" P__law_figures _ _ := fun base => ⟨⟨_, _, PySem.W.mg_of X G a17, k17, b__law_figures, ok__law_figures F__law_figures⟩⟩
  have F__law_worth := fun_mk (st := s__law_worth) l18 c18 k18
  have b__law_worth := F__law_worth.binds (ps := P__law_worth) fun _ _ _ _ _ _ us hl => match us, hl with | [_, _], _ => rfl
  have H__law_worth : ∀ base : Heap, Has l.prog w K mg base "_law_worth" P__law_worth _ _ := fun base => ⟨⟨_, _, PySem.W.mg_of X G a18, k18, b__law_worth, ok__law_worth F__law_worth⟩⟩
  have F__law_moved := fun_mk (st := s__law_moved) l19 c19 k19
  have b__law_moved := F__law_moved.binds (ps := P__law_moved) fun _ _ _ _ _ _ us hl => match us, hl with | [_, _, _], _ => rfl
  have H__law_moved : ∀ base : Heap, Has l.prog w K mg base "_law_moved" P__law_moved _ _ := fun base => ⟨⟨_, _, PySem.W.mg_of X G a19, k19, b__law_moved, ok__law_moved F__law_moved (H__law_figures base) (H__law_worth base)⟩⟩
  have F__law_front := fun_mk (st := s__law_front) l20 c20 k20
  have b__law_front := F__law_front.binds (ps := P__law_front) fun _ _ _ _ _ _ us hl => match us, hl with | [_, _, _], _ => rfl
  have H__law_front : ∀ base : Heap, Has l.prog w K mg base "_law_front" P__law_front _ _ := fun base => ⟨⟨_, _, PySem.W.mg_of X G a20, k20, b__law_front, ok__law_front F__law_front⟩⟩
  have F__law_behind := fun_mk (st := s__law_behind) l21 c21 k21
  have b__law_behind := F__law_behind.binds (ps := P__law_behind) fun _ _ _ _ _ _ us hl => match us, hl with | [_, _, _], _ => rfl
  have H__law_behind : ∀ base : Heap, Has l.prog w K mg base "_law_behind" P__law_behind _ _ := fun base => ⟨⟨_, _, PySem.W.mg_of X G a21, k21, b__law_behind, ok__law_behind T F__law_behind⟩⟩
  have F__law_length := fun_mk (st := s__law_length) l22 c22 k22
  have b__law_length := F__law_length.binds (ps := P__law_length) fun _ _ _ _ _ _ us hl => match us, hl with | [_, _, _, _], _ => rfl
  have H__law_length : ∀ base : Heap, Has l.prog w K mg base "_law_length" P__law_length _ _ := fun base => ⟨⟨_, _, PySem.W.mg_of X G a22, k22, b__law_length, ok__law_length F__law_length (H__law_front base) (H__law_behind base)⟩⟩
  have F__law_says := fun_mk (st := s__law_says) l23 c23 k23
  have b__law_says := F__law_says.binds (ps := P__law_says) fun _ _ _ _ _ _ us hl => match us, hl with | [_, _], _ => rfl
  have H__law_says : ∀ base : Heap, Has l.prog w K mg base "_law_says" P__law_says _ _ := fun base => ⟨⟨_, _, PySem.W.mg_of X G a23, k23, b__law_says, ok__law_says T F__law_says⟩⟩
  have F_law := fun_mk (st := s_law) l24 c24 k24
  exact ⟨PySem.W.fnOf "law" "law" (defArgs s_law) (defBody s_law) (defScope s_law) .none kV24 dc24 pm24 an24 cd24 ct24, fun s v => .of_eq rfl, fun base _ _ => ok_law T F_law KA KT KN NT BN Z (H__law_number base) (H__law_length base) (H__law_moved base) (H__law_figures base) (H__law_worth base) (H_all_of base) (H__law_says base) (H_Turns___init__ base) (H_Turns_shows base) (H_Never_shows base)⟩
end Tf
open PySem PySem.W PyProof.Rows
set_option maxRecDepth 100000 in
set_option maxHeartbeats 0 in
theorem PySem.Challenge.cw_turnfigures_k06_by_hand_holds : PySem.Challenge.rw_turnfigures_k06_by_hand.Holds := by
  w_on; o_law; k_head; (case hw => w_witness2)
  k_fill
  refine L2.walk_of (l := PySem.Challenge.rw_turnfigures_k06_by_hand) (n := 63) (k := 5) (x := "_law_script") (CX := fun _ => L2.CX0) (sp := fun w => Tf.spLaw _) rfl (by decide) rfl ⟨rfl, by decide, by decide⟩ (fun w h Y => PySem.W.kIn_of Y) ?F (fun _ _ a ns hl _ hS => ⟨a, ns, rfl, hS, hl, fun _ => rfl⟩) (fun _ _ _ _ _ h => h)
  case F =>
    intro w mg fa h KX G hmg
    refine' Tf.all_mk KX G hmg ?gCA ?gCT ?gCN ?a0 ?l0 ?c0 ?k0 ?a1 ?l1 ?c1 ?k1 ?a2 ?l2 ?c2 ?k2 ?a3 ?l3 ?c3 ?k3 ?a4 ?l4 ?c4 ?k4 ?a5 ?l5 ?c5 ?k5 ?a6 ?l6 ?c6 ?k6 ?a7 ?l7 ?c7 ?k7 ?a8 ?l8 ?c8 ?k8 ?a9 ?i9 ?l9 ?c9 ?k9 ?a10 ?i10 ?l10 ?c10 ?k10 ?a11 ?i11 ?l11 ?c11 ?k11 ?a12 ?l12 ?c12 ?k12 ?a13 ?l13 ?c13 ?k13 ?a14 ?l14 ?c14 ?k14 ?a15 ?l15 ?c15 ?k15 ?a16 ?l16 ?c16 ?k16 ?a17 ?l17 ?c17 ?k17 ?a18 ?l18 ?c18 ?k18 ?a19 ?l19 ?c19 ?k19 ?a20 ?l20 ?c20 ?k20 ?a21 ?l21 ?c21 ?k21 ?a22 ?l22 ?c22 ?k22 ?a23 ?l23 ?c23 ?k23 ?a24 ?l24 ?c24 ?k24 ?z0 ?z1 ?z2 ?z3 ?z4 ?z5 ?z6 ?z7 ?z8 ?z9 ?z10 ?z11 ?gS ?lS ?gM ?pgA ?hdA ?poA ?saA ?haA ?hmA ?mkA ?kcA ?pgT ?hdT ?poT ?saT ?haT ?hmT ?mkT ?kcT ?pgN ?hdN ?poN ?saN ?haN ?hmN ?mkN ?kcN ?hnO ?htO ?nuT ?inN ?isA ?isT ?isN ?tyA ?tyT ?tyN ?z_ta ?z_na ?z_tt ?z_tn ?z_nt ?z_nn
    (case gCA => k_is)
    (case gCT => k_is)
    (case gCN => k_is)
    (case a0 => k_is)
    (case l0 => k_is)
    (case c0 => k_is)
    (case k0 => k_is)
    (case a1 => k_is)
    (case l1 => k_is)
    (case c1 => k_is)
    (case k1 => k_is)
    (case a2 => k_is)
    (case l2 => k_is)
    (case c2 => k_is)
    (case k2 => k_is)
    (case a3 => k_is)
    (case l3 => k_is)
    (case c3 => k_is)
    (case k3 => k_is)
    (case a4 => k_is)
    (case l4 => k_is)
    (case c4 => k_is)
    (case k4 => k_is)
    (case a5 => k_is)
    (case l5 => k_is)
    (case c5 => k_is)
    (case k5 => k_is)
    (case a6 => k_is)
    (case l6 => k_is)
    (case c6 => k_is)
    (case k6 => k_is)
    (case a7 => k_is)
    (case l7 => k_is)
    (case c7 => k_is)
    (case k7 => k_is)
    (case a8 => k_is)
    (case l8 => k_is)
    (case c8 => k_is)
    (case k8 => k_is)
    (case a9 => k_is)
    (case i9 => k_is)
    (case l9 => k_is)
    (case c9 => k_is)
    (case k9 => k_is)
    (case a10 => k_is)
    (case i10 => k_is)
    (case l10 => k_is)
    (case c10 => k_is)
    (case k10 => k_is)
    (case a11 => k_is)
    (case i11 => k_is)
    (case l11 => k_is)
    (case c11 => k_is)
    (case k11 => k_is)
    (case a12 => k_is)
    (case l12 => k_is)
    (case c12 => k_is)
    (case k12 => k_is)
    (case a13 => k_is)
    (case l13 => k_is)
    (case c13 => k_is)
    (case k13 => k_is)
    (case a14 => k_is)
    (case l14 => k_is)
    (case c14 => k_is)
    (case k14 => k_is)
    (case a15 => k_is)
    (case l15 => k_is)
    (case c15 => k_is)
    (case k15 => k_is)
    (case a16 => k_is)
    (case l16 => k_is)
    (case c16 => k_is)
    (case k16 => k_is)
    (case a17 => k_is)
    (case l17 => k_is)
    (case c17 => k_is)
    (case k17 => k_is)
    (case a18 => k_is)
    (case l18 => k_is)
    (case c18 => k_is)
    (case k18 => k_is)
    (case a19 => k_is)
    (case l19 => k_is)
    (case c19 => k_is)
    (case k19 => k_is)
    (case a20 => k_is)
    (case l20 => k_is)
    (case c20 => k_is)
    (case k20 => k_is)
    (case a21 => k_is)
    (case l21 => k_is)
    (case c21 => k_is)
    (case k21 => k_is)
    (case a22 => k_is)
    (case l22 => k_is)
    (case c22 => k_is)
    (case k22 => k_is)
    (case a23 => k_is)
    (case l23 => k_is)
    (case c23 => k_is)
    (case k23 => k_is)
    (case a24 => k_is)
    (case l24 => k_is)
    (case c24 => k_is)
    (case k24 => k_is)
    (case z0 => k_is)
    (case z1 => k_is)
    (case z2 => k_is)
    (case z3 => k_is)
    (case z4 => k_is)
    (case z5 => k_is)
    (case z6 => k_is)
    (case z7 => k_is)
    (case z8 => k_is)
    (case z9 => k_is)
    (case z10 => k_is)
    (case z11 => k_is)
    (case gS => k_is)
    (case lS => k_is)
    (case gM => k_is)
    (case pgA => k_is)
    (case hdA => k_is)
    (case poA => k_is)
    (case saA => k_is)
    (case haA => k_is)
    (case hmA => k_is)
    (case mkA => k_is)
    (case kcA => k_is)
    (case pgT => k_is)
    (case hdT => k_is)
    (case poT => k_is)
    (case saT => k_is)
    (case haT => k_is)
    (case hmT => k_is)
    (case mkT => k_is)
    (case kcT => k_is)
    (case pgN => k_is)
    (case hdN => k_is)
    (case poN => k_is)
    (case saN => k_is)
    (case haN => k_is)
    (case hmN => k_is)
    (case mkN => k_is)
    (case kcN => k_is)
    (case hnO => k_is)
    (case htO => k_is)
    (case nuT => k_is)
    (case inN => k_is)
    (case isA => k_is)
    (case isT => k_is)
    (case isN => k_is)
    (case tyA => k_is)
    (case tyT => k_is)
    (case tyN => k_is)
    (case z_ta => k_is)
    (case z_na => k_is)
    (case z_tt => k_is)
    (case z_tn => k_is)
    (case z_nt => k_is)
    (case z_nn => k_is)
