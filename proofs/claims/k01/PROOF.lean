import PyProof.Rows.All
import Wide.All
import OpenK.AllK
import Wide.FinOn
import HandS.ForMost
import HandS.Evl
import HandS.Wide
import HandS.Style
import HandS.IsInst
import HandS.SortInts
import PySem.Challenge.RW_turnfigures_k01_whole_moved
set_option Elab.async false
set_option linter.all false
set_option maxRecDepth 100000
set_option maxHeartbeats 4000000

/-! # figures, plain -/
namespace Tf
def lowF (b : Nat) : Nat → Nat → List Nat
  | 0, _ => []
  | f + 1, n => if n = 0 then [] else n % b :: lowF b f (n / b)
/-- the figures, the least place first -/
def low (b n : Nat) : List Nat := lowF b n n
theorem div_lt {b n : Nat} (hb : 2 ≤ b) (hn : 0 < n) : n / b < n := Nat.div_lt_self hn hb
theorem lowF_eq {b : Nat} (hb : 2 ≤ b) : ∀ (f g n : Nat), n ≤ f → n ≤ g → lowF b f n = lowF b g n
  | 0, 0, _, _, _ => rfl
  | 0, g + 1, n, h, _ => by
    have e : n = 0 := by omega
    subst e
    rfl
  | f + 1, 0, n, _, h => by
    have e : n = 0 := by omega
    subst e
    rfl
  | f + 1, g + 1, n, h1, h2 => by
    unfold lowF
    by_cases e : n = 0
    · rw [if_pos e, if_pos e]
    · rw [if_neg e, if_neg e]
      have l := div_lt hb (Nat.pos_of_ne_zero e)
      rw [lowF_eq hb f g (n / b) (by omega) (by omega)]
theorem low_zero (b : Nat) : low b 0 = [] := rfl
theorem low_pos {b n : Nat} (hb : 2 ≤ b) (hn : 0 < n) : low b n = n % b :: low b (n / b) := by
  unfold low
  cases n with
  | zero => omega
  | succ k =>
    show (if k + 1 = 0 then [] else (k + 1) % b :: lowF b k ((k + 1) / b)) = _
    rw [if_neg (by omega)]
    have l := div_lt hb hn
    rw [lowF_eq hb k ((k + 1) / b) ((k + 1) / b) (by omega) (Nat.le_refl _)]
/-- the number of a row of figures -/
def wr (b : Nat) (ds : List Nat) : Nat := ds.foldl (fun a d => a * b + d) 0
theorem wr_fold (b : Nat) : ∀ (ds : List Nat) (a : Nat), ds.foldl (fun a d => a * b + d) a = a * b ^ ds.length + wr b ds
  | [], a => by simp [wr]
  | d :: ds, a => by
    rw [List.foldl_cons, wr_fold b ds (a * b + d)]
    show _ = a * b ^ (ds.length + 1) + (d :: ds).foldl (fun a d => a * b + d) 0
    rw [List.foldl_cons, wr_fold b ds (0 * b + d), Nat.pow_succ]
    have e : (a * b + d) * b ^ ds.length = a * (b ^ ds.length * b) + d * b ^ ds.length := by
      rw [Nat.add_mul, Nat.mul_assoc, Nat.mul_comm b (b ^ ds.length)]
    rw [e, Nat.zero_mul, Nat.zero_add]
    omega
theorem wr_nil (b : Nat) : wr b [] = 0 := rfl
theorem wr_cons (b d : Nat) (ds : List Nat) : wr b (d :: ds) = d * b ^ ds.length + wr b ds := by
  unfold wr
  rw [List.foldl_cons, wr_fold]
  simp [wr]
theorem wr_append (b : Nat) (xs ys : List Nat) : wr b (xs ++ ys) = wr b xs * b ^ ys.length + wr b ys := by
  unfold wr
  rw [List.foldl_append, wr_fold]
  rfl
theorem wr_snoc (b : Nat) (xs : List Nat) (d : Nat) : wr b (xs ++ [d]) = wr b xs * b + d := by
  unfold wr
  rw [List.foldl_append]
  rfl
theorem wr_take {b : Nat} {ds : List Nat} {i d : Nat} (h : ds[i]? = some d) : wr b (ds.take (i + 1)) = wr b (ds.take i) * b + d := by
  rw [List.take_add_one, h]
  exact wr_snoc b _ d
/-- the figures, the greatest place first -/
def figs (b n : Nat) : List Nat := (low b n).reverse
theorem figs_zero (b : Nat) : figs b 0 = [] := rfl
theorem figs_pos {b n : Nat} (hb : 2 ≤ b) (hn : 0 < n) : figs b n = figs b (n / b) ++ [n % b] := by
  unfold figs
  rw [low_pos hb hn, List.reverse_cons]
theorem wr_figs {b : Nat} (hb : 2 ≤ b) (n : Nat) : wr b (figs b n) = n := by
  induction n using Nat.strongRecOn with
  | _ n ih =>
    by_cases e : n = 0
    · subst e
      rfl
    · have hn := Nat.pos_of_ne_zero e
      rw [figs_pos hb hn, wr_snoc, ih _ (div_lt hb hn), Nat.mul_comm]
      exact Nat.div_add_mod n b
theorem figs_lt {b : Nat} (hb : 2 ≤ b) (n : Nat) : ∀ d ∈ figs b n, d < b := by
  induction n using Nat.strongRecOn with
  | _ n ih =>
    by_cases e : n = 0
    · subst e
      intro d hd
      cases hd
    · have hn := Nat.pos_of_ne_zero e
      rw [figs_pos hb hn]
      intro d hd
      rcases List.mem_append.mp hd with h | h
      · exact ih _ (div_lt hb hn) d h
      · have z : d = n % b := by simpa using h
        rw [z]
        exact Nat.mod_lt _ (by omega)
theorem figs_ne {b n : Nat} (hb : 2 ≤ b) (hn : 0 < n) : figs b n ≠ [] := by
  rw [figs_pos hb hn]
  simp
theorem figs_len_pos {b n : Nat} (hb : 2 ≤ b) (hn : 0 < n) : 0 < (figs b n).length := List.length_pos_iff.mpr (figs_ne hb hn)
theorem figs_head {b : Nat} (hb : 2 ≤ b) (n : Nat) : ∀ d, (figs b n)[0]? = some d → 0 < d := by
  induction n using Nat.strongRecOn with
  | _ n ih =>
    by_cases e : n = 0
    · subst e
      intro d hd
      cases hd
    · have hn := Nat.pos_of_ne_zero e
      intro d hd
      rw [figs_pos hb hn] at hd
      by_cases l : n / b = 0
      · rw [l, figs_zero] at hd
        have z : n % b = d := by simpa using hd
        have m := Nat.div_add_mod n b
        rw [l] at m
        omega
      · have lp := figs_len_pos (b := b) hb (Nat.pos_of_ne_zero l)
        rw [List.getElem?_append_left lp] at hd
        exact ih _ (div_lt hb hn) d hd
/-- a row of figures whose first one is above 0 is that of its number -/
theorem figs_wr {b : Nat} (hb : 2 ≤ b) : ∀ (k : Nat) (ds : List Nat), ds.length = k → (∀ d ∈ ds, d < b) → (∀ d, ds[0]? = some d → 0 < d) → figs b (wr b ds) = ds
  | 0, ds, hk, _, _ => by
    rw [List.length_eq_zero_iff.mp hk]
    rfl
  | k + 1, ds, hk, h1, h2 => by
    have hne : ds ≠ [] := fun e => by
      rw [e] at hk
      cases hk
    have hs := List.dropLast_concat_getLast hne
    have hlast : ds.getLast hne < b := h1 _ (List.getLast_mem hne)
    have hl : ds.dropLast.length = k := by
      rw [List.length_dropLast, hk]
      rfl
    have e : wr b ds = wr b ds.dropLast * b + ds.getLast hne := by
      conv => lhs; rw [← hs]
      exact wr_snoc b _ _
    have i1 : ∀ d ∈ ds.dropLast, d < b := fun d hd => h1 d (List.dropLast_subset _ hd)
    have i2 : ∀ d, ds.dropLast[0]? = some d → 0 < d := fun d hd => by
      refine h2 d ?_
      have l0 : 0 < ds.dropLast.length := (List.getElem?_eq_some_iff.mp hd).1
      rw [← hs, List.getElem?_append_left l0]
      exact hd
    have ih := figs_wr hb k ds.dropLast hl i1 i2
    have dv : wr b ds / b = wr b ds.dropLast := by
      rw [e, Nat.mul_comm, Nat.mul_add_div (by omega), Nat.div_eq_of_lt hlast, Nat.add_zero]
    have md : wr b ds % b = ds.getLast hne := by
      rw [e, Nat.mul_comm, Nat.mul_add_mod, Nat.mod_eq_of_lt hlast]
    have pos : 0 < wr b ds := by
      by_cases z : k = 0
      · subst z
        have z2 : ds.dropLast = [] := List.length_eq_zero_iff.mp hl
        rw [z2] at hs e
        have g : ds[0]? = some (ds.getLast hne) := (congrArg (fun l : List Nat => l[0]?) hs).symm
        have : 0 < ds.getLast hne := h2 _ g
        omega
      · have q : 0 < ds.dropLast.length := by omega
        have p0 : 0 < wr b ds.dropLast := by
          by_cases w : wr b ds.dropLast = 0
          · rw [w, figs_zero] at ih
            rw [← ih] at q
            cases q
          · exact Nat.pos_of_ne_zero w
        rw [e]
        have : b ≤ wr b ds.dropLast * b := Nat.le_mul_of_pos_left b p0
        omega
    rw [figs_pos hb pos, dv, md, ih]
    exact hs
theorem wr_lt {b : Nat} (hb : 2 ≤ b) : ∀ ds : List Nat, (∀ d ∈ ds, d < b) → wr b ds < b ^ ds.length
  | [], _ => by simp [wr_nil]
  | d :: ds, h => by
    rw [wr_cons, List.length_cons, Nat.pow_succ]
    have h1 := wr_lt hb ds fun x hx => h x (List.mem_cons_of_mem _ hx)
    have h2 : d + 1 ≤ b := h d List.mem_cons_self
    have h3 : (d + 1) * b ^ ds.length ≤ b * b ^ ds.length := Nat.mul_le_mul_right _ h2
    rw [Nat.add_mul, Nat.one_mul] at h3
    rw [Nat.mul_comm (b ^ ds.length) b]
    omega
/-- how many figures -/
theorem figs_len_le {b : Nat} (hb : 2 ≤ b) : ∀ (k n : Nat), n < b ^ k → (figs b n).length ≤ k
  | 0, n, h => by
    have e : n = 0 := by simpa using h
    subst e
    exact Nat.le_refl _
  | k + 1, n, h => by
    by_cases e : n = 0
    · subst e
      exact Nat.zero_le _
    · rw [figs_pos hb (Nat.pos_of_ne_zero e), List.length_append]
      have : n / b < b ^ k := by
        rw [Nat.div_lt_iff_lt_mul (by omega)]
        rw [Nat.pow_succ] at h
        exact h
      have := figs_len_le hb k (n / b) this
      show _ + 1 ≤ _
      omega
theorem figs_len_ge {b : Nat} (hb : 2 ≤ b) {k n : Nat} (h : b ^ k ≤ n) : k < (figs b n).length := by
  have h1 := wr_lt hb (figs b n) (figs_lt hb n)
  rw [wr_figs hb] at h1
  exact (Nat.pow_lt_pow_iff_right (by omega)).mp (Nat.lt_of_le_of_lt h h1)
theorem figs_len2 {b : Nat} (hb : 2 ≤ b) {k n : Nat} (h : n < 2 ^ k) : (figs b n).length ≤ k :=
  figs_len_le hb k n (Nat.lt_of_lt_of_le h (Nat.pow_le_pow_left hb k))
/-! ### a figure moved -/
def rotF (ds : List Nat) : List Nat := ds.drop (ds.length - 1) ++ ds.take (ds.length - 1)
def rotB (ds : List Nat) : List Nat := ds.drop 1 ++ ds.take 1
def rot (fr : Bool) (ds : List Nat) : List Nat := if fr then rotF ds else rotB ds
theorem rotB_rotF (ds : List Nat) : rotB (rotF ds) = ds := by
  unfold rotB rotF
  by_cases h : ds = []
  · subst h
    rfl
  · have l : 0 < ds.length := List.length_pos_iff.mpr h
    have e : (ds.drop (ds.length - 1)).length = 1 := by
      rw [List.length_drop]
      omega
    obtain ⟨x, hx⟩ := List.length_eq_one_iff.mp e
    have t := List.take_append_drop (ds.length - 1) ds
    rw [hx] at t
    rw [hx]
    exact t
theorem rotF_rotB (ds : List Nat) : rotF (rotB ds) = ds := by
  unfold rotB rotF
  by_cases h : ds = []
  · subst h
    rfl
  · have l : 0 < ds.length := List.length_pos_iff.mpr h
    have e1 : (ds.drop 1).length = ds.length - 1 := by rw [List.length_drop]
    have e2 : (ds.drop 1 ++ ds.take 1).length - 1 = (ds.drop 1).length := by
      rw [List.length_append, List.length_take, e1]
      omega
    rw [e2, List.drop_left, List.take_left]
    exact List.take_append_drop _ _
theorem rot_rot (fr : Bool) (ds : List Nat) : rot (!fr) (rot fr ds) = ds := by
  cases fr with
  | true => exact rotB_rotF ds
  | false => exact rotF_rotB ds
theorem rot_len (fr : Bool) (ds : List Nat) : (rot fr ds).length = ds.length := by
  cases fr with
  | true =>
    show (ds.drop (ds.length - 1) ++ ds.take (ds.length - 1)).length = _
    rw [List.length_append, List.length_drop, List.length_take]
    omega
  | false =>
    show (ds.drop 1 ++ ds.take 1).length = _
    rw [List.length_append, List.length_drop, List.length_take]
    omega
theorem rot_mem (fr : Bool) {ds : List Nat} {d : Nat} (h : d ∈ rot fr ds) : d ∈ ds := by
  cases fr with
  | true =>
    rcases List.mem_append.mp (show d ∈ ds.drop (ds.length - 1) ++ ds.take (ds.length - 1) from h) with h | h
    · exact List.mem_of_mem_drop h
    · exact List.mem_of_mem_take h
  | false =>
    rcases List.mem_append.mp (show d ∈ ds.drop 1 ++ ds.take 1 from h) with h | h
    · exact List.mem_of_mem_drop h
    · exact List.mem_of_mem_take h
/-- the number with a figure moved -/
def mv (b n : Nat) (fr : Bool) : Nat := wr b (rot fr (figs b n))
theorem mv_back {b : Nat} (hb : 2 ≤ b) (n : Nat) (fr : Bool) (h : ∀ d, (rot fr (figs b n))[0]? = some d → 0 < d) : mv b (mv b n fr) (!fr) = n := by
  unfold mv
  rw [figs_wr hb _ _ rfl (fun d hd => figs_lt hb n d (rot_mem fr hd)) h, rot_rot, wr_figs hb]
theorem mv_pos {b : Nat} (hb : 2 ≤ b) (n : Nat) (fr : Bool) (h : ∀ d, (rot fr (figs b n))[0]? = some d → 0 < d) (hn : 0 < n) : 0 < mv b n fr := by
  by_cases z : mv b n fr = 0
  · have e := mv_back hb n fr h
    rw [z] at e
    have : mv b 0 (!fr) = 0 := by cases fr <;> rfl
    omega
  · exact Nat.pos_of_ne_zero z
theorem mv_lt {b : Nat} (hb : 2 ≤ b) (n : Nat) (fr : Bool) : mv b n fr < b ^ (figs b n).length := by
  have h := wr_lt hb (rot fr (figs b n)) fun d hd => figs_lt hb n d (rot_mem fr hd)
  rw [rot_len] at h
  exact h
end Tf

namespace Tf
open PySem PySem.Spec PyProof.Rows L2 Evl
/-! ### a def of the module, by its promise -/
structure Has (P : Program) (w : World) (K : PySem.W.Frag) (mg : Str → Option Value) (base : Heap) (x : Str) (ps : List Str) (k : Nat) (sp : Sp) : Prop where
  ex : ∃ (f : Addr) (fd : FuncData), mg x = some (.ref f) ∧ PySem.W.keepIn K (.ref f) = true ∧ Binds K fd ps [] ∧ FnOk P w K mg base CX0 k f fd ps sp
theorem pe_fn {X : Cx} {x : Str} {ps : List Str} {j k : Nat} {sp : Sp} {p pos : Pos} {e : Expr} {es : List Expr} {t : TA} (h : Has X.prog X.w X.K X.mg X.base x ps k sp) (hr : Room j X.A) (hg : Gl X x) (ha : PA X (e :: es) t)
    (hk : k ≤ j := by decide) (hdb : (x == ("__debug__" : Str)) = false := by decide) (he : starEach (e :: es) X.env = (false, eval e X.env) :: starEach es X.env := by rfl) (hpl : (backTo pos (starEach es X.env)).any (·.1) = false := by rfl) :
    PE X (.Call (.Name x p) (e :: es) [] pos) (tCall sp [] E0 t) := by
  obtain ⟨f, fd, g, kp, b, F⟩ := h.ex
  exact pe_call F (hr.mono hk) hg g kp b .nil pass0 ha hdb he hpl
theorem pe_fn0 {X : Cx} {x : Str} {ps : List Str} {j k : Nat} {sp : Sp} {p pos : Pos} (h : Has X.prog X.w X.K X.mg X.base x ps k sp) (hr : Room j X.A) (hg : Gl X x)
    (hk : k ≤ j := by decide) (hdb : (x == ("__debug__" : Str)) = false := by decide) : PE X (.Call (.Name x p) [] [] pos) (tCall sp [] E0 tNil) := by
  obtain ⟨f, fd, g, kp, b, F⟩ := h.ex
  exact pe_call0 F (hr.mono hk) hg g kp b .nil pass0 hdb
/-! ### promises: a value told, a new list told -/
def spV (R : List V → Hp → V → Prop) : Sp := fun vs H Q _ => ∃ v, R vs H v ∧ RetV v H Q
def spL (R : List V → Hp → List V → Prop) : Sp := fun vs H Q _ => ∃ xs, R vs H xs ∧ RetL xs H Q
abbrev vi (n : Nat) : V := .int (n : Int)
abbrev vl (ns : List Nat) : List V := ns.map vi
theorem vl_app (xs ys : List Nat) : vl (xs ++ ys) = vl xs ++ vl ys := List.map_append
theorem vl_drop (ds : List Nat) (k : Nat) : vl (ds.drop k) = (vl ds).drop k := List.map_drop
theorem vl_take (ds : List Nat) (k : Nat) : vl (ds.take k) = (vl ds).take k := List.map_take
theorem vl_rev (ds : List Nat) : vl ds.reverse = (vl ds).reverse := List.map_reverse
theorem vl_len (ds : List Nat) : (vl ds).length = ds.length := List.length_map _
/-! ### lists met: new or old -/
section
variable {K : PySem.W.Frag} {σ : L2.St} {H H' : Hp} {ta tb tc te : TE} {x y z v : V} {xs ys : List V}
def EvS (te : TE) (σ : L2.St) (H : Hp) (xs : List V) : Prop := ∀ H1, Ex H H1 → ∀ Q : VK, (∀ p H2, Ex H1 H2 → H2 p = some (.lst xs) → Q (.ref p) H2) → te σ H1 Q
def EvQ (K : PySem.W.Frag) (te : TE) (σ : L2.St) (H : Hp) (xs : List V) : Prop := ∀ H1, Ex H H1 → ∀ Q : VK, (∀ p H2, Ex H1 H2 → SqL K H2 p xs → Q (.ref p) H2) → te σ H1 Q
theorem es_new (h : EvL te σ H xs) : EvS te σ H xs := fun H1 e Q q => h H1 e Q fun p H2 _ e2 hp => q p H2 e2 hp
theorem es_old {a : Addr} (h : Ev te σ H (.ref a)) (hx : H a = some (.lst xs)) : EvS te σ H xs := fun H1 e Q q => h H1 e Q fun H2 e2 => q a H2 e2 (e2 _ _ (e _ _ hx))
theorem eq_of (h : EvS te σ H xs) : EvQ K te σ H xs := fun H1 e Q q => h H1 e Q fun p H2 e2 hp => q p H2 e2 (sq_of hp)
theorem eq_new (h : EvL te σ H xs) : EvQ K te σ H xs := eq_of (es_new h)
theorem eq_old {a : Addr} (h : Ev te σ H (.ref a)) (hx : SqL K H a xs) : EvQ K te σ H xs := fun H1 e Q q => h H1 e Q fun H2 e2 => q a H2 e2 (ex_l e2 (ex_l e hx))
theorem EvS.mono (e : Ex H H') (h : EvS te σ H xs) : EvS te σ H' xs := fun H1 a Q q => h H1 (e.trans a) Q q
theorem EvQ.mono (e : Ex H H') (h : EvQ K te σ H xs) : EvQ K te σ H' xs := fun H1 a Q q => h H1 (e.trans a) Q q
theorem EvU.mono (e : Ex H H') (h : EvU te σ H xs) : EvU te σ H' xs := fun H1 a Q q => h H1 (e.trans a) Q q
theorem el_cat (ha : EvS ta σ H xs) (hb : EvS tb σ H ys) (hz : xs.length + ys.length ≤ 1000000) : EvL (tOp rCat ta tb) σ H (xs ++ ys) := fun H1 e Q q =>
  ha H1 e _ fun p H2 e2 hp => hb H2 (e.trans e2) _ fun p' H3 e3 hp' =>
    ⟨p, p', xs, ys, rfl, rfl, e3 _ _ hp, hp', Nat.le_trans hz (by decide), fun l hl => q l _ (fresh_back (e2.trans e3) hl) ((e2.trans e3).trans (Ex.new hl)) upd_same⟩
theorem el_rep {k : Nat} (ha : EvS ta σ H xs) (hb : Ev tb σ H (vi k)) (hk : k < 2 ^ 62) (hz : xs.length * k ≤ 1000000) : EvL (tOp rRep ta tb) σ H (List.replicate k xs).flatten := fun H1 e Q q =>
  ha H1 e _ fun p H2 e2 hp => hb H2 (e.trans e2) _ fun H3 e3 =>
    ⟨p, (k : Int), xs, rfl, rfl, e3 _ _ hp, by omega, by omega, Nat.le_trans hz (by decide), fun l hl => q l _ (fresh_back (e2.trans e3) hl) ((e2.trans e3).trans (Ex.new hl)) upd_same⟩
theorem el_cut {tl th : TO} {lo hi : Option Int} (h : EvQ K te σ H xs) (h1 : EvO tl σ H lo) (h2 : EvO th σ H hi) : EvL (tSl (rSlL K) te tl th) σ H (cutV xs lo hi) := fun H1 e _ q =>
  h H1 e _ fun a H2 e2 hx => h1 H2 (e.trans e2) _ fun H3 e3 => h2 H3 ((e.trans e2).trans e3) _ fun H4 e4 =>
    ⟨a, xs, rfl, ex_l (e3.trans e4) hx, fun p hp => q p _ (fresh_back ((e2.trans e3).trans e4) hp) (((e2.trans e3).trans e4).trans (Ex.new hp)) upd_same⟩
theorem el_rev (h : EvQ K te σ H xs) : EvL (tRevL K te) σ H xs.reverse := fun H1 e _ q =>
  h H1 e _ fun a H2 e2 hx => ⟨a, xs, rfl, hx, fun p hp => q p _ (fresh_back e2 hp) (e2.trans (Ex.new hp)) upd_same⟩
theorem ev_ix {i : Int} (ha : EvQ K ta σ H xs) (hb : Ev tb σ H (.int i)) (hv : atI xs i = some v) : Ev (tOp (rIxL K) ta tb) σ H v := fun H1 e _ q =>
  ha H1 e _ fun a H2 e2 hx => hb H2 (e.trans e2) _ fun H3 e3 => ⟨a, xs, i, v, rfl, rfl, ex_l e3 hx, hv, q H3 (e2.trans e3)⟩
theorem ev_ixU {i : Int} (ha : EvU ta σ H xs) (hb : Ev tb σ H (.int i)) (hv : atI xs i = some v) : Ev (tOp (rIxT K) ta tb) σ H v := fun H1 e _ q =>
  ha H1 e _ fun a H2 _ e2 hx => hb H2 (e.trans e2) _ fun H3 e3 => ⟨a, xs, i, v, rfl, rfl, ex_t e3 (st_of hx), hv, q H3 (e2.trans e3)⟩
theorem ev_len (ha : EvQ K ta σ H xs) : Ev (tCB (fun zs H Q => ∃ p ys, zs = [.ref p] ∧ (SqL K H p ys ∨ SqT K H p ys) ∧ Q (.int ys.length) H) (tCons ta tNil)) σ H (vi xs.length) := fun H1 e _ q =>
  ha H1 e _ fun a H2 e2 hx => ⟨a, xs, rfl, .inl hx, q H2 e2⟩
theorem ev_lenU (ha : EvU ta σ H xs) : Ev (tCB (fun zs H Q => ∃ p ys, zs = [.ref p] ∧ (SqL K H p ys ∨ SqT K H p ys) ∧ Q (.int ys.length) H) (tCons ta tNil)) σ H (vi xs.length) := fun H1 e _ q =>
  ha H1 e _ fun a H2 _ e2 hx => ⟨a, xs, rfl, .inr (st_of hx), q H2 e2⟩
theorem el_list (ha : EvQ K ta σ H xs) : EvL (tCB (fun zs H Q => ∃ p ys, zs = [.ref p] ∧ (SqL K H p ys ∨ SqT K H p ys) ∧ ∀ l, H l = none → Q (.ref l) (upd H l (.lst ys))) (tCons ta tNil)) σ H xs := fun H1 e _ q =>
  ha H1 e _ fun a H2 e2 hx => ⟨a, xs, rfl, .inl hx, fun p hp => q p _ (fresh_back e2 hp) (e2.trans (Ex.new hp)) upd_same⟩
theorem ev_any {bs : List Bool} (ha : EvQ K ta σ H (bs.map V.bl)) : Ev (tCB (rAny K) (tCons ta tNil)) σ H (.bl (bs.any id)) := fun H1 e _ q => ha H1 e _ fun a H2 e2 hx => ⟨a, bs, rfl, hx, q H2 e2⟩
theorem ev_all {bs : List Bool} (ha : EvQ K ta σ H (bs.map V.bl)) : Ev (tCB (rAll K) (tCons ta tNil)) σ H (.bl (bs.all id)) := fun H1 e _ q => ha H1 e _ fun a H2 e2 hx => ⟨a, bs, rfl, hx, q H2 e2⟩
theorem ev_sum {ns : List Int} (ha : EvQ K ta σ H (ns.map V.int)) : Ev (tCB (rSum K) (tCons ta tNil)) σ H (.int ns.sum) := fun H1 e _ q => ha H1 e _ fun a H2 e2 hx => ⟨a, ns, rfl, hx, q H2 e2⟩
theorem ev_abs {i : Int} (ha : Ev ta σ H (.int i)) : Ev (tCB (fun xs H Q => ∃ i, xs = [.int i] ∧ Q (.int (if i < 0 then -i else i)) H) (tCons ta tNil)) σ H (vi i.natAbs) := fun H1 e Q q =>
  ha H1 e _ fun H2 e2 => ⟨i, rfl, by
    have g := q H2 e2
    have w : (if i < 0 then -i else i) = (i.natAbs : Int) := by split <;> omega
    rw [w]
    exact g⟩
theorem el_if {t : TT} {b : Bool} (h : EvT t σ H b) (h1 : b = true → EvL ta σ H xs) (h2 : b = false → EvL tb σ H xs) : EvL (tIf t ta tb) σ H xs := fun H1 e Q q => h H1 e _ fun H2 e2 => by
  cases b with
  | true => exact iteT (h1 rfl H2 (e.trans e2) _ fun p H3 hp e3 h3 => q p H3 (fresh_back e2 hp) (e2.trans e3) h3)
  | false => exact iteF (h2 rfl H2 (e.trans e2) _ fun p H3 hp e3 h3 => q p H3 (fresh_back e2 hp) (e2.trans e3) h3)
theorem el_is {ys : List V} (h : EvL te σ H xs) (e : xs = ys) : EvL te σ H ys := by
  rw [← e]
  exact h
/-! isinstance -/
theorem ev_isi {t c : String} {b : Bool} (ha : Ev ta σ H x) (ht : ∀ H1, Ex H H1 → TyX K H1 x (.type t)) (hb : kitB t c = some b) : Ev (tCB (rIsi K) (tCons ta (tCons (tC (.ty c)) tNil))) σ H (.bl b) := fun H1 e _ q =>
  ha H1 e _ fun H2 e2 => ⟨x, .ty c, _, _, b, rfl, .ty c, ht H2 (e.trans e2), kit_ty hb, q H2 e2⟩
theorem ev_isiI {i : Int} {c : String} {b : Bool} (ha : Ev ta σ H (.int i)) (hb : kitB "int" c = some b) : Ev (tCB (rIsi K) (tCons ta (tCons (tC (.ty c)) tNil))) σ H (.bl b) := ev_isi ha (fun _ _ => .base (.int i)) hb
theorem ev_isiS {c : String} {b : Bool} (ha : EvS ta σ H xs) (hb : kitB "list" c = some b) : Ev (tCB (rIsi K) (tCons ta (tCons (tC (.ty c)) tNil))) σ H (.bl b) := fun H1 e _ q =>
  ha H1 e _ fun p H2 e2 hp => ⟨.ref p, .ty c, _, _, b, rfl, .ty c, .base (.lst hp), kit_ty hb, q H2 e2⟩
/-! chains -/
theorem ev_chain {r r' : R2} {a b : Bool} (ha : Ev ta σ H x) (hb : Ev tb σ H y) (hr : RV r x y H (.bl a)) (hc : Ev tc σ H z) (hr' : RV r' y z H (.bl b)) : Ev (tChain r r' ta tb tc) σ H (.bl (a && b)) := fun H1 e Q q =>
  ha H1 e _ fun H2 e2 => hb H2 (e.trans e2) _ fun H3 e3 => hr H3 ((e.trans e2).trans e3) _ fun H4 e4 => ⟨a, rfl, by
    have e14 := (e2.trans e3).trans e4
    cases a with
    | true =>
      refine iteT (hc H4 (e.trans e14) _ fun H5 e5 => hr' H5 ((e.trans e14).trans e5) _ fun H6 e6 => ?_)
      exact q H6 ((e14.trans e5).trans e6)
    | false => exact iteF (q H4 e14)⟩
/-! equality of lists of ints -/
def dI (ns : List Int) : List PyData := ns.map PyData.int
theorem dp_ints {H : Hp} : ∀ ns : List Int, DpAll K H (ns.map V.int) (dI ns)
  | [] => .nil
  | n :: ns => .cons (.int n) (dp_ints ns)
theorem lay_ints : ∀ ns : List Int, PyData.canLayAll0 (dI ns) = true
  | [] => by simp [dI, PyData.canLayAll0]
  | n :: ns => by
    show PyData.canLayAll0 (.int n :: dI ns) = true
    rw [PyData.canLayAll0, lay_ints ns]
    simp [PyData.canLay0]
theorem depth_ints : ∀ ns : List Int, PyData.depthAll (dI ns) = 0
  | [] => by simp [dI, PyData.depthAll]
  | n :: ns => by
    show PyData.depthAll (.int n :: dI ns) = 0
    rw [PyData.depthAll, depth_ints ns]
    simp [PyData.depth]
theorem shaped_ints (ns : List Int) : SeqAt.shaped (.list (dI ns)) = true := by
  unfold SeqAt.shaped
  rw [PyData.canLay0, lay_ints, PyData.depth, depth_ints]
  decide
theorem eqv_ints : ∀ ns ms : List Int, PyData.eqvAll (dI ns) (dI ms) = decide (ns = ms)
  | [], [] => by simp [dI, PyData.eqvAll]
  | [], m :: ms => by simp [dI, PyData.eqvAll]
  | n :: ns, [] => by simp [dI, PyData.eqvAll]
  | n :: ns, m :: ms => by
    show PyData.eqvAll (.int n :: dI ns) (.int m :: dI ms) = _
    rw [PyData.eqvAll, eqv_ints ns ms, PyData.eqv]
    by_cases h : n = m
    · subst h
      simp
    · simp [h]
theorem ev_eqL {ns ms : List Int} (ha : EvQ K ta σ H (ns.map V.int)) (hb : EvQ K tb σ H (ms.map V.int)) : Ev (tOp (rEqD K) ta tb) σ H (.bl (decide (ns = ms))) := fun H1 e Q q =>
  ha H1 e _ fun p H2 e2 hp => hb H2 (e.trans e2) _ fun p' H3 e3 hp' => ⟨.list (dI ns), .list (dI ms), .lst (ex_l e3 hp) (dp_ints ns), .lst hp' (dp_ints ms), shaped_ints ns, shaped_ints ms, by
    rw [PyData.eqv, eqv_ints]
    exact q H3 (e2.trans e3)⟩
theorem ev_neL {ns ms : List Int} (ha : EvQ K ta σ H (ns.map V.int)) (hb : EvQ K tb σ H (ms.map V.int)) : Ev (tOp (rNeD K) ta tb) σ H (.bl (!decide (ns = ms))) := fun H1 e Q q =>
  ha H1 e _ fun p H2 e2 hp => hb H2 (e.trans e2) _ fun p' H3 e3 hp' => ⟨.list (dI ns), .list (dI ms), .lst (ex_l e3 hp) (dp_ints ns), .lst hp' (dp_ints ms), shaped_ints ns, shaped_ints ms, by
    rw [PyData.eqv, eqv_ints]
    exact q H3 (e2.trans e3)⟩
theorem cutV_to (xs : List V) (k : Nat) : cutV xs none (some (k : Int)) = xs.take k := by
  unfold cutV
  rw [HT.sIx_none, HT.sIx_nat, List.drop_zero, Nat.sub_zero]
  by_cases h : k ≤ xs.length
  · rw [Nat.min_eq_left h]
  · rw [Nat.min_eq_right (by omega), List.take_length, List.take_of_length_le (by omega)]
theorem vl_ints (ns : List Nat) : vl ns = (ns.map fun n : Nat => (n : Int)).map V.int := by
  rw [List.map_map]
  rfl
theorem cast_inj : ∀ {ns ms : List Nat}, ns.map (fun n : Nat => (n : Int)) = ms.map (fun n : Nat => (n : Int)) → ns = ms
  | [], [], _ => rfl
  | [], _ :: _, h => by simp at h
  | _ :: _, [], h => by simp at h
  | n :: ns, m :: ms, h => by
    rw [List.map_cons, List.map_cons] at h
    injection h with h1 h2
    rw [cast_inj h2, Int.ofNat.inj h1]
theorem dec_cast (ns ms : List Nat) : decide (ns.map (fun n : Nat => (n : Int)) = ms.map (fun n : Nat => (n : Int))) = decide (ns = ms) := by
  by_cases h : ns = ms
  · rw [decide_eq_true h, h, decide_eq_true rfl]
  · rw [decide_eq_false h, decide_eq_false fun e => h (cast_inj e)]
theorem ev_eqN {ns ms : List Nat} (ha : EvQ K ta σ H (vl ns)) (hb : EvQ K tb σ H (vl ms)) : Ev (tOp (rEqD K) ta tb) σ H (.bl (decide (ns = ms))) := by
  rw [vl_ints] at ha hb
  exact ev_is (ev_eqL ha hb) (by rw [dec_cast])
theorem ev_neN {ns ms : List Nat} (ha : EvQ K ta σ H (vl ns)) (hb : EvQ K tb σ H (vl ms)) : Ev (tOp (rNeD K) ta tb) σ H (.bl (!decide (ns = ms))) := by
  rw [vl_ints] at ha hb
  exact ev_is (ev_neL ha hb) (by rw [dec_cast])
/-! calls by promises -/
theorem ev_fn {R : List V → Hp → V → Prop} {vs : List V} {t : TA} (h : EvA t σ H vs) (hR : ∀ H1, Ex H H1 → R vs H1 v) : Ev (tCall (spV R) [] E0 t) σ H v := fun H1 e Q q =>
  h H1 e _ fun H2 e2 => ⟨v, by rw [List.append_nil]; exact hR H2 (e.trans e2), fun H3 e3 => q H3 (e2.trans e3)⟩
theorem el_fn {R : List V → Hp → List V → Prop} {vs : List V} {t : TA} (h : EvA t σ H vs) (hR : ∀ H1, Ex H H1 → R vs H1 xs) : EvL (tCall (spL R) [] E0 t) σ H xs := fun H1 e Q q =>
  h H1 e _ fun H2 e2 => ⟨xs, by rw [List.append_nil]; exact hR H2 (e.trans e2), fun p H3 hp e3 h3 => q p H3 (fresh_back e2 hp) (e2.trans e3) h3⟩
/-- an argument that is a new list, the last one -/
theorem ev_fnL {R : List V → Hp → V → Prop} (h : Ev ta σ H x) (hl : EvS tb σ H xs) (hR : ∀ p H1, Ex H H1 → H1 p = some (.lst xs) → R [x, .ref p] H1 v) : Ev (tCall (spV R) [] E0 (tCons ta (tCons tb tNil))) σ H v := fun H1 e Q q =>
  h H1 e _ fun H2 e2 => hl H2 (e.trans e2) _ fun p H3 e3 hp => ⟨v, hR p H3 ((e.trans e2).trans e3) hp, fun H4 e4 => q H4 ((e2.trans e3).trans e4)⟩
end
/-! ### loops -/
section
variable {K : PySem.W.Frag} {σ : L2.St} {H H' : Hp} {te : TE} {D : Ends} {tu tz : TS} {xs : List V}
/-- for i, x in enumerate(..) -/
theorem q_forE {j l : Nat} (h : EvQ K te σ H xs) (Pv : Addr → Nat → L2.St → Hp → Prop) (h0 : ∀ p H1, Ex H H1 → SqL K H1 p xs → Pv p 0 σ H1) (hl : ∀ p i σ' H', i ≤ xs.length → Pv p i σ' H' → SqL K H' p xs)
    (hs : ∀ p i x σ' H', xs[i]? = some x → Pv p i σ' H' → ∀ H2, Ex H' H2 → tu { D with nx := Pv p (i + 1), ct := Pv p (i + 1), bk := tz D } ((σ'.set j (some (vi i))).set l (some x)) H2) (hd : ∀ p σ' H', Pv p xs.length σ' H' → tz D σ' H') :
    tSeq (tFor (iEnum K (tCons te tNil)) (gTup K 2 (gCons (gName j) (gCons (gName l) gNil))) tu) tz D σ H :=
  h H (Ex.refl H) _ fun a H1 e ha => ⟨a, xs, rfl, ha, fun i m σ' H' => m = xs.length - i ∧ i ≤ xs.length ∧ Pv a i σ' H', ⟨xs.length, by simp, Nat.zero_le _, h0 a H1 e ha⟩, by
    rintro i m σ' H' ⟨rfl, hi, p⟩
    have q := hl a i σ' H' hi p
    by_cases hlt : i < xs.length
    · refine .inr ⟨⟨xs, xs[i], q, by simp [hlt]⟩, Pv a (i + 1), fun σ2 H2 p' => ⟨xs.length - (i + 1), by omega, rfl, hlt, p'⟩, fun x H2 y => ?_⟩
      obtain ⟨T, x', rfl, nT, rfl, f⟩ := y
      exact ⟨T, [vi i, x'], rfl, st_of upd_same, rfl, vi i, [x'], rfl, x', [], rfl, rfl, hs a i x' σ' H' (f xs q) p _ (Ex.new nT)⟩
    · have e' : i = xs.length := by omega
      subst e'
      exact .inl ⟨⟨xs, q, Nat.le_refl _⟩, hd a σ' H' p⟩⟩
/-- a word between: what follows is shown once -/
theorem q_mid {M : L2.St → Hp → Prop} (h : tu { D with nx := M } σ H) (k : ∀ σ' H', M σ' H' → tz D σ' H') : tCut tu tz D σ H := ⟨M, h, k⟩
/-- comprehensions over range(a, b) -/
theorem el_lcR2 {ta : TA} {t : TT} {j : Nat} {vs : List Nat} {lo hi : Int} {n : Nat} (f : Nat → Bool) (v : Nat → V) (h : EvA ta σ H [.int lo, .int hi]) (hn : 0 ≤ lo ∧ lo ≤ 100000 ∧ -100000 ≤ hi ∧ hi ≤ 100000) (hz : (hi - lo).toNat = n) (hc : n ≤ 40000) (hw : ∀ x, wipe ((wipe σ vs).set j (some x)) vs = wipe σ vs)
    (ht : ∀ (i : Nat) H1, Ex H H1 → i < n → EvT t ((wipe σ vs).set j (some (.int (lo + (i : Int))))) H1 (f i)) (he : ∀ (i : Nat) H1, Ex H H1 → i < n → f i = true → Ev te ((wipe σ vs).set j (some (.int (lo + (i : Int))))) H1 (v i)) :
    EvL (tLc (iRng2 ta) (gName j) t te vs) σ H (given n f v) := fun H0 e Q q => h H0 e _ fun H1 e1 => ⟨lo, hi, rfl, ⟨by omega, by omega, by omega, by omega⟩, fun Dl hD => by
  rw [hz]
  exact lc_range (lo := lo) (n := n) (Cw H1 f v Dl) ⟨hD, Ex.new hD, upd_same⟩ (fun i H' hi p => ⟨hw _, cw_turn p (by omega) (ht i H1 (e.trans e1) hi) (fun hf => he i H1 (e.trans e1) hi hf)⟩) (fun H' p => q Dl H' (fresh_back e1 p.1) (e1.trans p.2.1) p.2.2)⟩
/-! lists of tuples -/
def Tups (H : Hp) : List V → List (List V) → Prop := Paired fun r t => ∃ a, r = V.ref a ∧ H a = some (.tup t)
theorem Tups.mono {H H' : Hp} (e : Ex H H') : ∀ {rs : List V} {ts : List (List V)}, Tups H rs ts → Tups H' rs ts
  | _, _, .nil => .nil
  | _, _, .cons ⟨a, h1, h2⟩ t => .cons ⟨a, h1, e _ _ h2⟩ (Tups.mono e t)
theorem Tups.app {H : Hp} : ∀ {rs qs : List V} {ts us : List (List V)}, Tups H rs ts → Tups H qs us → Tups H (rs ++ qs) (ts ++ us)
  | _, _, _, _, .nil, s => s
  | _, _, _, _, .cons r t, s => .cons r (Tups.app t s)
theorem Tups.len {H : Hp} : ∀ {rs : List V} {ts : List (List V)}, Tups H rs ts → rs.length = ts.length
  | _, _, .nil => rfl
  | _, _, .cons _ t => by rw [List.length_cons, List.length_cons, Tups.len t]
theorem Tups.get {H : Hp} : ∀ {rs : List V} {ts : List (List V)} {i : Nat} {r : V}, Tups H rs ts → rs[i]? = some r → ∃ a t, r = V.ref a ∧ ts[i]? = some t ∧ H a = some (.tup t)
  | _, _, _, _, .nil, h => by simp at h
  | _, _, 0, r, .cons ⟨a, h1, h2⟩ _, h => ⟨a, _, (Option.some.inj h).symm.trans h1, rfl, h2⟩
  | _, _, i + 1, r, .cons _ t, h => Tups.get (i := i) t h
def EvLT (te : TE) (σ : L2.St) (H : Hp) (ts : List (List V)) : Prop := ∀ H1, Ex H H1 → ∀ Q : VK, (∀ p rs H2, H1 p = none → Ex H1 H2 → H2 p = some (.lst rs) → Tups H2 rs ts → Q (.ref p) H2) → te σ H1 Q
def EvAT (ta : TA) (σ : L2.St) (H : Hp) (ts : List (List V)) : Prop := ∀ H1, Ex H H1 → ∀ Q : List V → Hp → Prop, (∀ rs H2, Ex H1 H2 → Tups H2 rs ts → Q rs H2) → ta σ H1 Q
theorem eat_nil : EvAT tNil σ H [] := fun H1 _ _ q => q [] H1 (Ex.refl H1) .nil
theorem eat_cons {tr : TA} {t : List V} {ts : List (List V)} (h : EvU te σ H t) (hr : EvAT tr σ H ts) : EvAT (tCons te tr) σ H (t :: ts) := fun H1 e _ q =>
  h H1 e _ fun p H2 _ e2 hp => hr H2 (e.trans e2) _ fun rs H3 e3 hs => q _ H3 (e2.trans e3) (.cons ⟨p, rfl, e3 _ _ hp⟩ hs)
theorem elt_lst {ta : TA} {ts : List (List V)} (h : EvAT ta σ H ts) (hz : ts.length ≤ 100000) : EvLT (tLst ta) σ H ts := fun H1 e _ q =>
  h H1 e _ fun rs H2 e2 hs => ⟨sz_of (by rw [hs.len]; exact hz), fun p hp => q p rs _ (fresh_back e2 hp) (e2.trans (Ex.new hp)) upd_same (hs.mono (Ex.new hp))⟩
theorem elt_cat {ta tb : TE} {a : Addr} {rs : List V} {ts us : List (List V)} (ha : Ev ta σ H (.ref a)) (h1 : H a = some (.lst rs)) (h2 : Tups H rs ts) (hb : EvLT tb σ H us) (hz : ts.length + us.length ≤ 100000) : EvLT (tOp rCat ta tb) σ H (ts ++ us) := fun H1 e Q q =>
  ha H1 e _ fun H2 e2 => hb H2 (e.trans e2) _ fun p qs H3 _ e3 hp hq => by
    have e03 := (e.trans e2).trans e3
    refine ⟨a, p, rs, qs, rfl, rfl, e03 _ _ h1, hp, sz_of (by rw [h2.len, hq.len]; exact hz), fun l hl => ?_⟩
    exact q l (rs ++ qs) _ (fresh_back (e2.trans e3) hl) ((e2.trans e3).trans (Ex.new hl)) upd_same (((h2.mono e03).app hq).mono (Ex.new hl))
theorem s_asgLT {i : Nat} {ts : List (List V)} (h : EvLT te σ H ts) (k : ∀ p rs H1, H p = none → Ex H H1 → H1 p = some (.lst rs) → Tups H1 rs ts → D.nx (σ.set i (some (.ref p))) H1) : tAsg te (gName i) D σ H := h H (Ex.refl H) _ fun p rs H1 hp e h1 h2 => k p rs H1 hp e h1 h2
theorem q_asgLT {i : Nat} {ts : List (List V)} (h : EvLT te σ H ts) (k : ∀ p rs H1, H p = none → Ex H H1 → H1 p = some (.lst rs) → Tups H1 rs ts → tz D (σ.set i (some (.ref p))) H1) : tSeq (tAsg te (gName i)) tz D σ H := s_asgLT (D := { D with nx := tz D }) h k
/-- for a, b, .. in a list of tuples: H0 is the heap at the first turn -/
theorem s_forTT {ts : List (List V)} {n : Nat} {gs : TGs} (h : EvLT te σ H ts) (hn : ∀ t ∈ ts, t.length = n) (Pv : Hp → Nat → L2.St → Hp → Prop) (h0 : ∀ H0, Ex H H0 → Pv H0 0 σ H0) (hl : ∀ H0 i σ' H', Pv H0 i σ' H' → Ex H0 H')
    (hs : ∀ H0 i t σ' H', Ex H H0 → ts[i]? = some t → Pv H0 i σ' H' → gs t σ' H' fun σ2 H2 => tu { D with nx := Pv H0 (i + 1), ct := Pv H0 (i + 1), bk := D.nx } σ2 H2) (hd : ∀ H0 σ' H', Ex H H0 → Pv H0 ts.length σ' H' → D.nx σ' H') :
    tFor (iList K te) (gTup K n gs) tu D σ H := h H (Ex.refl H) _ fun p rs H1 _ e h1 h2 => ⟨p, rfl, ⟨rs, sq_of h1⟩, for_list (xs := rs) (Pv H1) (h0 H1 e) (fun i σ' H' _ hp => sq_of (hl H1 i σ' H' hp _ _ h1)) (fun i x σ' H' hx hp => by
      obtain ⟨a, t, rfl, ht, ha⟩ := h2.get hx
      exact ⟨a, t, rfl, st_of (hl H1 i σ' H' hp _ _ ha), hn t (List.mem_of_getElem? ht), hs H1 i t σ' H' e ht hp⟩) (fun σ' H' hp => by
      rw [h2.len] at hp
      exact hd H1 σ' H' e hp)⟩
theorem q_forTT {ts : List (List V)} {n : Nat} {gs : TGs} (h : EvLT te σ H ts) (hn : ∀ t ∈ ts, t.length = n) (Pv : Hp → Nat → L2.St → Hp → Prop) (h0 : ∀ H0, Ex H H0 → Pv H0 0 σ H0) (hl : ∀ H0 i σ' H', Pv H0 i σ' H' → Ex H0 H')
    (hs : ∀ H0 i t σ' H', Ex H H0 → ts[i]? = some t → Pv H0 i σ' H' → gs t σ' H' fun σ2 H2 => tu { D with nx := Pv H0 (i + 1), ct := Pv H0 (i + 1), bk := tz D } σ2 H2) (hd : ∀ H0 σ' H', Ex H H0 → Pv H0 ts.length σ' H' → tz D σ' H') :
    tSeq (tFor (iList K te) (gTup K n gs) tu) tz D σ H := s_forTT (D := { D with nx := tz D }) h hn Pv h0 hl hs hd
theorem elt_old {a : Addr} {rs : List V} {ts : List (List V)} (ha : Ev te σ H (.ref a)) (h1 : H a = some (.lst rs)) (h2 : Tups H rs ts) : ∀ H1, Ex H H1 → ∀ Q : VK, (∀ p rs H2, Ex H1 H2 → H2 p = some (.lst rs) → Tups H2 rs ts → Q (.ref p) H2) → te σ H1 Q := fun H1 e Q q =>
  ha H1 e _ fun H2 e2 => q a rs H2 e2 (e2 _ _ (e _ _ h1)) (h2.mono (e.trans e2))
theorem et_yes : EvT tYes σ H true := fun H1 _ _ q => q H1 (Ex.refl H1)
theorem given_all (n : Nat) (v : Nat → V) : given n (fun _ => true) v = (List.range n).map v := by
  unfold given
  rw [List.filter_eq_self.mpr (fun _ _ => rfl)]
end
end Tf

namespace Tf
open PySem PySem.Spec PyProof.Rows L2 Evl
def topS (i : Nat) : Stmt := PySem.Challenge.pw_turnfigures_k01_whole_moved.main.body.getD i (.Pass ⟨0, 0, 0, 0⟩)
/-- names that are still the built-in ones -/
structure Nm (mg : Str → Option Value) : Prop where
  n_isinstance : mg "isinstance" = none
  n_int : mg "int" = none
  n_bool : mg "bool" = none
  n_str : mg "str" = none
  n_list : mg "list" = none
  n_all : mg "all" = none
  n_any : mg "any" = none
  n_abs : mg "abs" = none
  n_sum : mg "sum" = none
  n_range : mg "range" = none
  n_enumerate : mg "enumerate" = none
end Tf

namespace Tf
open PySem PySem.Spec PyProof.Rows L2 Evl
/-! ### texts of sides -/
def sd (fr : Bool) : Str := if fr then "front" else "behind"
abbrev vs' (fr : Bool) : V := .str (sd fr)
theorem sd_eq (fr : Bool) : decide (V.str (sd fr) = V.str "front") = fr := by
  cases fr <;> decide +kernel
theorem tyx_mono {K : PySem.W.Frag} {H H' : Hp} {x : V} {t : Value} (e : Ex H H') (h : TyX K H x t) : TyX K H' x t := by
  cases h with
  | base h =>
    cases h with
    | non => exact .base .non
    | bl x => exact .base (.bl x)
    | int i => exact .base (.int i)
    | str x => exact .base (.str x)
    | flt x => exact .base (.flt x)
    | lst h => exact .base (.lst (e _ _ h))
    | frz h => exact .base (.frz (e _ _ h))
    | tup h => exact .base (.tup (e _ _ h))
    | dK h => exact .base (.dK (e _ _ h))
    | dT h => exact .base (.dT (e _ _ h))
    | ins h a b c d f => exact .base (.ins (e _ _ h) a b c d f)
  | byt b => exact .byt b
  | set h => exact .set (e _ _ h)
  | kList h c => exact .kList h c
  | kTuple h c => exact .kTuple h c
  | kDict h c => exact .kDict h c
  | fTuple h => exact .fTuple (e _ _ h)
  | fDict h => exact .fDict (e _ _ h)
section
variable {P : Program} {w : World} {K : PySem.W.Frag} {mg : Str → Option Value} {base : Heap}
abbrev s_is_whole : Stmt := topS 8
abbrev N_is_whole : List Str := ["thing"]
abbrev P_is_whole : List Str := ["thing"]
theorem sc_is_whole : FnScope N_is_whole P_is_whole (defScope s_is_whole) := ⟨rfl, rfl, rfl, by decide +kernel, rfl, by decide +kernel, by decide +kernel⟩

def R_is_whole (K : PySem.W.Frag) : List V → Hp → V → Prop := fun vs H v => ∃ (x : V) (t : String) (b c : Bool), vs = [x] ∧ TyX K H x (.type t) ∧ kitB t "int" = some b ∧ kitB t "bool" = some c ∧ v = .bl (b && !c)
theorem r_whole {K : PySem.W.Frag} {H : Hp} (i : Int) : R_is_whole K [.int i] H (.bl true) := ⟨.int i, "int", true, false, rfl, .base (.int i), by decide +kernel, by decide +kernel, rfl⟩
theorem ok_is_whole {f : Addr} {fd : FuncData} (T : Nm mg) (F : Fun K "is_whole" "is_whole" s_is_whole f fd) : FnOk P w K mg base CX0 1 f fd P_is_whole (spV (R_is_whole K)) := by
  refine F.ok sc_is_whole (fun vs H Q E h => ?_) (fun cdv A outer s H vs Q E hr h => ?_)
  · obtain ⟨v, ⟨x, t, b, c, rfl, _⟩, _⟩ := h
    rfl
  · obtain ⟨v, ⟨x, t, b, c, rfl, hx, hb, hc, rfl⟩, k⟩ := h
    refine ⟨_, (pss_one (ps_ret (pe_and (pe_callB call_isi (by rfl) T.n_isinstance (by decide +kernel) (pa_cons (pv 0) (pa_cons (pe_bltn (v := .ty "int") (by rfl) T.n_int (by decide +kernel) rfl) pa_nil))) (pe_one (pe_not (pe_callB call_isi (by rfl) T.n_isinstance (by decide +kernel) (pa_cons (pv 0) (pa_cons (pe_bltn (v := .ty "bool") (by rfl) T.n_bool (by decide +kernel) rfl) pa_nil)))))))), ?_⟩
    refine s_ret (ev_andV (ev_isi (ev_var rfl) (fun H1 e => tyx_mono e hx) hb) fun _ => ev_notV (ev_isi (ev_var rfl) (fun H1 e => tyx_mono e hx) hc)) k
abbrev s_asked_base : Stmt := topS 9
abbrev N_asked_base : List Str := ["base"]
abbrev P_asked_base : List Str := ["base"]
theorem sc_asked_base : FnScope N_asked_base P_asked_base (defScope s_asked_base) := ⟨rfl, rfl, rfl, by decide +kernel, rfl, by decide +kernel, by decide +kernel⟩

def R_asked_base : List V → Hp → V → Prop := fun vs _ v => ∃ b : Nat, vs = [vi b] ∧ 3 ≤ b ∧ b ≤ 36 ∧ v = .non
theorem ok_asked_base {f : Addr} {fd : FuncData} (F : Fun K "asked_base" "asked_base" s_asked_base f fd) (h_is_whole : Has P w K mg base "is_whole" P_is_whole 1 (spV (R_is_whole K))) : FnOk P w K mg base CX0 2 f fd P_asked_base (spV R_asked_base) := by
  refine F.ok sc_asked_base (fun vs H Q E h => ?_) (fun cdv A outer s H vs Q E hr h => ?_)
  · obtain ⟨v, ⟨b, rfl, _⟩, _⟩ := h
    rfl
  · obtain ⟨v, ⟨b, rfl, h1, h2, rfl⟩, k⟩ := h
    refine ⟨_, (pss_one (ps_if (PW.pt (pw_or (pt_not (pt_val (pe_fn h_is_whole hr (by rfl) (pa_cons (pv 0) pa_nil)))) (pw_or1 (pt_not (pt_chain op_le op_le pe_int (pv 0) pe_int))))) (pss_one ps_never) pss_nil)), ?_⟩
    refine s_when (b := false) (et_is (et_or (et_not (et_B (ev_fn (ea_cons (ev_var rfl) ea_nil) fun _ _ => r_whole _))) fun _ => et_not (et_test (ev_chain ev_c (ev_var rfl) rv_I0 ev_c rv_I0))) ?_) (fun z => nomatch z) (fun _ H1 e1 => k H1 e1)
    have a1 : decide ((3 : Int) ≤ (b : Int)) = true := decide_eq_true (by omega)
    have a2 : decide ((b : Int) ≤ (36 : Int)) = true := decide_eq_true (by omega)
    rw [a1, a2]
    rfl
abbrev s_asked_number : Stmt := topS 10
abbrev N_asked_number : List Str := ["number"]
abbrev P_asked_number : List Str := ["number"]
theorem sc_asked_number : FnScope N_asked_number P_asked_number (defScope s_asked_number) := ⟨rfl, rfl, rfl, by decide +kernel, rfl, by decide +kernel, by decide +kernel⟩

def R_asked_number : List V → Hp → V → Prop := fun vs _ v => ∃ n : Nat, vs = [vi n] ∧ 1 ≤ n ∧ v = .non
theorem ok_asked_number {f : Addr} {fd : FuncData} (F : Fun K "asked_number" "asked_number" s_asked_number f fd) (h_is_whole : Has P w K mg base "is_whole" P_is_whole 1 (spV (R_is_whole K))) : FnOk P w K mg base CX0 2 f fd P_asked_number (spV R_asked_number) := by
  refine F.ok sc_asked_number (fun vs H Q E h => ?_) (fun cdv A outer s H vs Q E hr h => ?_)
  · obtain ⟨v, ⟨b, rfl, _⟩, _⟩ := h
    rfl
  · obtain ⟨v, ⟨n, rfl, h1, rfl⟩, k⟩ := h
    refine ⟨_, (pss_one (ps_if (PW.pt (pw_or (pt_not (pt_val (pe_fn h_is_whole hr (by rfl) (pa_cons (pv 0) pa_nil)))) (pw_or1 (pt_cmpR op_lt (pv 0) pe_int (nomark _))))) (pss_one ps_never) pss_nil)), ?_⟩
    refine s_when (b := false) (et_is (et_or (et_not (et_B (ev_fn (ea_cons (ev_var rfl) ea_nil) fun _ _ => r_whole _))) fun _ => et_test (ev_op (ev_var rfl) ev_c rv_I0)) ?_) (fun z => nomatch z) (fun _ H1 e1 => k H1 e1)
    rw [decide_eq_false (show ¬ ((n : Int) < 1) by omega)]
    rfl
abbrev s_asked_side : Stmt := topS 11
abbrev N_asked_side : List Str := ["side"]
abbrev P_asked_side : List Str := ["side"]
theorem sc_asked_side : FnScope N_asked_side P_asked_side (defScope s_asked_side) := ⟨rfl, rfl, rfl, by decide +kernel, rfl, by decide +kernel, by decide +kernel⟩

def R_asked_side : List V → Hp → V → Prop := fun vs _ v => ∃ fr : Bool, vs = [vs' fr] ∧ v = .non
/-- the module's SIDES -/
structure Sides (K : PySem.W.Frag) (mg : Str → Option Value) (a : Addr) : Prop where
  g : mg "SIDES" = some (.ref a)
  t : ∀ H : Hp, SqT K H a [.str "front", .str "behind"]
theorem in_sides (fr : Bool) : inV (.str (sd fr)) [.str "front", .str "behind"] = true := by
  cases fr <;> decide +kernel
theorem ok_asked_side {f aS : Addr} {fd : FuncData} (T : Nm mg) (S : Sides K mg aS) (F : Fun K "asked_side" "asked_side" s_asked_side f fd) : FnOk P w K mg base CX0 1 f fd P_asked_side (spV R_asked_side) := by
  refine F.ok sc_asked_side (fun vs H Q E h => ?_) (fun cdv A outer s H vs Q E hr h => ?_)
  · obtain ⟨v, ⟨b, rfl, _⟩, _⟩ := h
    rfl
  · obtain ⟨v, ⟨fr, rfl, rfl⟩, k⟩ := h
    refine ⟨_, (pss_one (ps_if (PW.pt (pw_or (pt_not (pt_val (pe_callB call_isi (by rfl) T.n_isinstance (by decide +kernel) (pa_cons (pv 0) (pa_cons (pe_bltn (v := .ty "str") (by rfl) T.n_str (by decide +kernel) rfl) pa_nil))))) (pw_or1 (pt_cmpR op_notIn_seq (pv 0) (pe_glob (v := .ref aS) rfl S.g rfl) (by rfl))))) (pss_one ps_never) pss_nil)), ?_⟩
    refine s_when (b := false) (et_is (et_or (et_not (et_B (ev_isi (b := true) (ev_var rfl) (fun H1 e => .base (.str _)) (by decide +kernel)))) fun _ => et_test (ev_op (ev_var rfl) ev_c (rv_niT (S.t _) rfl rfl))) ?_) (fun z => nomatch z) (fun _ H1 e1 => k H1 e1)
    rw [in_sides]
    rfl
abbrev s_figures_of : Stmt := topS 12
abbrev N_figures_of : List Str := ["base", "number", "found"]
abbrev P_figures_of : List Str := ["base", "number"]
theorem sc_figures_of : FnScope N_figures_of P_figures_of (defScope s_figures_of) := ⟨rfl, rfl, rfl, by decide +kernel, rfl, by decide +kernel, by decide +kernel⟩

def R_figs : List V → Hp → List V → Prop := fun vs _ xs => ∃ b n : Nat, vs = [vi b, vi n] ∧ 2 ≤ b ∧ b ≤ 36 ∧ n < 2 ^ 50000 ∧ xs = vl (figs b n)
theorem ok_figures_of {f : Addr} {fd : FuncData} (F : Fun K "figures_of" "figures_of" s_figures_of f fd) : FnOk P w K mg base CX0 1 f fd P_figures_of (spL R_figs) := by
  refine F.ok sc_figures_of (fun vs H Q E h => ?_) (fun cdv A outer s H vs Q E hr h => ?_)
  · obtain ⟨v, ⟨b, n, rfl, _⟩, _⟩ := h
    rfl
  · obtain ⟨xs, ⟨b, n, rfl, hb, hb2, hn, rfl⟩, k⟩ := h
    refine ⟨_, (pss_cons (ps_set (i := 2) sc_figures_of.nd rfl (.inl rfl) (pe_lst pa_nil))
      (pss_cons (ps_while PassesOwn.never (pt_cmpR op_gt (pv 1) pe_int (nomark _)) (pss_cons (ps_expr (pe_bm PySem.F.plainAttrs_list PySem.F.slot_list_append PySem.F.type_list_append mt_append (pv 2) (pa_cons (pe_op op_mod (pv 1) (pv 0)) pa_nil)))
      (pss_one (ps_set (i := 1) sc_figures_of.nd rfl (.inl rfl) (pe_op op_fdiv (pv 1) (pv 0))))))
      (pss_one (ps_ret (pe_revL (pv 2)))))), ?_⟩
    refine q_asgL (el_lst ea_nil (Nat.zero_le _)) fun p H1 np e1 hp => ?_
    have hlen : (low b n).length ≤ 50000 := by
      have := figs_len2 hb hn
      unfold figs at this
      rw [List.length_reverse] at this
      exact this
    refine q_while (fun m σ H' => ∃ acc : List Nat, σ = [some (vi b), some (vi m), some (.ref p)] ∧ Ex H H' ∧ H' p = some (.lst (vl acc)) ∧ acc ++ low b m = low b n) n ⟨[], rfl, e1, hp, rfl⟩ ?_
    rintro m σ' H' ⟨acc, rfl, e2, hp2, ha⟩
    refine ⟨_, et_test (ev_op (ev_var rfl) ev_c rv_I0), fun hm H3 e3 => ⟨_, fun σ2 H2 z => z, ?_⟩, fun hm H3 e3 => ?_⟩
    · have hm' : 0 < m := by
        have := of_decide_eq_true hm
        omega
      have hl := low_pos (b := b) hb hm'
      rw [hl] at ha
      have hacc : acc.length < 100000 := by
        have := congrArg List.length ha
        rw [List.length_append] at this
        omega
      refine q_app (e3 _ _ hp2) (ev_var rfl) (ev_op (ev_var rfl) (ev_var rfl) (rv_I (show (0 : Int) < (b : Int) by omega))) (by rw [List.length_map]; exact hacc) fun H4 e4 => ?_
      refine s_asg (ev_op (ev_var rfl) (ev_var rfl) (rv_I ⟨show (0 : Int) < (b : Int) by omega, show (b : Int) < 1073741824 by omega⟩)) fun H5 e5 => ?_
      refine ⟨m / b, div_lt hb hm', acc ++ [m % b], rfl, ?_, ?_, ?_⟩
      · exact (Ex.mut ((e2.trans e3).trans e4) np).trans e5
      · rw [e5 _ _ upd_same, vl_app]
        rfl
      · rw [List.append_assoc]
        exact ha
    · have hm' : m = 0 := by
        have := of_decide_eq_false hm
        omega
      subst hm'
      rw [low_zero, List.append_nil] at ha
      subst ha
      refine s_retL (xs := vl (figs b n)) ?_ fun q H4 nq e4 hq => k q H4 (fresh_back (e2.trans e3) nq) ((e2.trans e3).trans e4) hq
      have := el_rev (K := K) (te := tVar 2) (σ := [some (vi b), some (vi 0), some (.ref p)]) (eq_old (ev_var rfl) (sq_of (e3 _ _ hp2)))
      unfold vl figs
      rw [List.map_reverse]
      exact this
abbrev s_figures : Stmt := topS 13
abbrev N_figures : List Str := ["base", "number"]
abbrev P_figures : List Str := ["base", "number"]
theorem sc_figures : FnScope N_figures P_figures (defScope s_figures) := ⟨rfl, rfl, rfl, by decide +kernel, rfl, by decide +kernel, by decide +kernel⟩

def R_figures : List V → Hp → List V → Prop := fun vs _ xs => ∃ b n : Nat, vs = [vi b, vi n] ∧ 3 ≤ b ∧ b ≤ 36 ∧ 1 ≤ n ∧ n < 2 ^ 50000 ∧ xs = vl (figs b n)
theorem ok_figures {f : Addr} {fd : FuncData} (F : Fun K "figures" "figures" s_figures f fd) (h_asked_base : Has P w K mg base "asked_base" P_asked_base 2 (spV R_asked_base)) (h_asked_number : Has P w K mg base "asked_number" P_asked_number 2 (spV R_asked_number))
    (h_figures_of : Has P w K mg base "figures_of" P_figures_of 1 (spL R_figs)) : FnOk P w K mg base CX0 3 f fd P_figures (spL R_figures) := by
  refine F.ok sc_figures (fun vs H Q E h => ?_) (fun cdv A outer s H vs Q E hr h => ?_)
  · obtain ⟨v, ⟨b, n, rfl, _⟩, _⟩ := h
    rfl
  · obtain ⟨xs, ⟨b, n, rfl, h1, h2, h3, h4, rfl⟩, k⟩ := h
    refine ⟨_, (pss_cons (ps_expr (pe_fn h_asked_base hr (by rfl) (pa_cons (pv 0) pa_nil)))
      (pss_cons (ps_expr (pe_fn h_asked_number hr (by rfl) (pa_cons (pv 1) pa_nil)))
      (pss_one (ps_ret (pe_fn h_figures_of hr (by rfl) (pa_cons (pv 0) (pa_cons (pv 1) pa_nil))))))), ?_⟩
    refine q_drop (ev_fn (v := .non) (ea_cons (ev_var rfl) ea_nil) fun _ _ => ⟨b, rfl, h1, h2, rfl⟩) fun H1 e1 => ?_
    refine q_drop (ev_fn (v := .non) (ea_cons (ev_var rfl) ea_nil) fun _ _ => ⟨n, rfl, h3, rfl⟩) fun H2 e2 => ?_
    exact s_retL (el_fn (ea_cons (ev_var rfl) (ea_cons (ev_var rfl) ea_nil)) fun _ _ => ⟨b, n, rfl, by omega, h2, h4, rfl⟩) fun q H4 nq e4 hq => k q H4 (fresh_back (e1.trans e2) nq) ((e1.trans e2).trans e4) hq
abbrev s_worth : Stmt := topS 14
abbrev N_worth : List Str := ["base", "row", "found", "figure"]
abbrev P_worth : List Str := ["base", "row"]
theorem sc_worth : FnScope N_worth P_worth (defScope s_worth) := ⟨rfl, rfl, rfl, by decide +kernel, rfl, by decide +kernel, by decide +kernel⟩

def R_worth (K : PySem.W.Frag) : List V → Hp → V → Prop := fun vs H v => ∃ (b : Nat) (a : Addr) (ds : List Nat), vs = [vi b, .ref a] ∧ b ≤ 36 ∧ SqL K H a (vl ds) ∧ v = vi (wr b ds)
theorem get_vl {ds : List Nat} {i : Nat} {x : V} (h : (vl ds)[i]? = some x) : ∃ d, ds[i]? = some d ∧ x = vi d := by
  rw [List.getElem?_map] at h
  cases e : ds[i]? with
  | none =>
    rw [e] at h
    cases h
  | some d =>
    rw [e] at h
    exact ⟨d, rfl, (Option.some.inj h).symm⟩
theorem ok_worth {f : Addr} {fd : FuncData} (F : Fun K "worth" "worth" s_worth f fd) : FnOk P w K mg base CX0 1 f fd P_worth (spV (R_worth K)) := by
  refine F.ok sc_worth (fun vs H Q E h => ?_) (fun cdv A outer s H vs Q E hr h => ?_)
  · obtain ⟨v, ⟨b, a, ds, rfl, _⟩, _⟩ := h
    rfl
  · obtain ⟨v, ⟨b, a, ds, rfl, hb, hS, rfl⟩, k⟩ := h
    refine ⟨_, (pss_cons (ps_set (i := 2) sc_worth.nd rfl (.inl rfl) pe_int)
      (pss_cons (ps_for PassesOwn.never rfl (pi_list (pv 1)) (pg_name (i := 3) sc_worth.nd rfl (.inl rfl)) (pss_one (ps_set (i := 2) sc_worth.nd rfl (.inl rfl) (pe_op op_add (pe_op op_mul (pv 2) (pv 0)) (pv 3)))))
      (pss_one (ps_ret (pv 2))))), ?_⟩
    refine q_asg ev_c fun H1 e1 => ?_
    refine q_forLn (ev_var rfl) (ex_l e1 hS) (fun i σ H' => ∃ x, σ = [some (vi b), some (.ref a), some (vi (wr b (ds.take i))), x] ∧ Ex H H') (fun H2 e2 => ⟨none, rfl, e1.trans e2⟩) (fun i σ' H' _ ⟨x, _, e⟩ => ex_l e hS) ?_ ?_
    · rintro i x σ' H' hx ⟨y, rfl, e2⟩
      obtain ⟨d, hd, rfl⟩ := get_vl hx
      refine s_asg (ev_op (ev_op (ev_var rfl) (ev_var rfl) (rv_I (.inr ⟨?_, ?_⟩))) (ev_var rfl) rv_I0) fun H3 e3 => ⟨some (vi d), ?_, e2.trans e3⟩
      · show (-(2 ^ 64) : Int) < (b : Int)
        omega
      · show (b : Int) < 2 ^ 64
        omega
      · rw [wr_take hd]
        rfl
    · rintro σ' H' ⟨x, rfl, e2⟩
      refine s_ret (ev_var rfl) fun H3 e3 => ?_
      rw [List.length_map, List.take_length]
      exact k H3 (e2.trans e3)
abbrev s_number_of : Stmt := topS 15
abbrev N_number_of : List Str := ["base", "row", "one"]
abbrev P_number_of : List Str := ["base", "row"]
theorem sc_number_of : FnScope N_number_of P_number_of (defScope s_number_of) := ⟨rfl, rfl, rfl, by decide +kernel, rfl, by decide +kernel, by decide +kernel⟩

def R_number_of (K : PySem.W.Frag) : List V → Hp → V → Prop := fun vs H v => ∃ (b : Nat) (a : Addr) (ds : List Nat), vs = [vi b, .ref a] ∧ 3 ≤ b ∧ b ≤ 36 ∧ H a = some (.lst (vl ds)) ∧ ds.length ≤ 20000 ∧ (∀ d ∈ ds, d < b) ∧ (∃ d, ds[0]? = some d ∧ 0 < d) ∧ v = vi (wr b ds)
theorem ok_number_of {f : Addr} {fd : FuncData} (T : Nm mg) (F : Fun K "number_of" "number_of" s_number_of f fd) (h_asked_base : Has P w K mg base "asked_base" P_asked_base 2 (spV R_asked_base)) (h_is_whole : Has P w K mg base "is_whole" P_is_whole 1 (spV (R_is_whole K)))
    (h_worth : Has P w K mg base "worth" P_worth 1 (spV (R_worth K))) : FnOk P w K mg base CX0 3 f fd P_number_of (spV (R_number_of K)) := by
  refine F.ok sc_number_of (fun vs H Q E h => ?_) (fun cdv A outer s H vs Q E hr h => ?_)
  · obtain ⟨v, ⟨b, a, ds, rfl, _⟩, _⟩ := h
    rfl
  · obtain ⟨v, ⟨b, a, ds, rfl, h1, h2, hS, hl, hlt, ⟨d0, hd0, hd1⟩, rfl⟩, k⟩ := h
    refine ⟨_, (pss_cons (ps_expr (pe_fn h_asked_base hr (by rfl) (pa_cons (pv 0) pa_nil)))
      (pss_cons (ps_if (PW.pt (pw_or (pt_not (pt_val (pe_callB call_isi (by rfl) T.n_isinstance (by decide +kernel) (pa_cons (pv 1) (pa_cons (pe_bltn (v := .ty "list") (by rfl) T.n_list (by decide +kernel) rfl) pa_nil))))) (pw_or (pt_cmpR (op_eqD hr.units) (pv 1) (pe_lst pa_nil) (nomark _)) (pw_or1 (pt_not (pt_val (pe_callB (cr_all rfl) (by rfl) T.n_all (by decide +kernel) (pa_cons (pe_lc (own := [("one", 2)]) (g := gName 2) (tt := tYes) rfl sc_number_of.nd (pi_list (pv 1)) (blkOk_by (own := [("one", 2)]) (N := N_number_of) (sc := defScope s_number_of) (by decide +kernel)) (fun _ _ _ _ _ => pg_name (i := 2) sc_number_of.nd rfl (.inl rfl)) (fun _ _ _ _ _ => pts_nil) (fun _ _ _ _ _ => (pe_and (pe_fn h_is_whole hr (by rfl) (pa_cons (pv 2) pa_nil)) (pe_one (pe_chain op_le op_lt pe_int (pv 2) (pv 0)))))) pa_nil)))))))) (pss_one ps_never) pss_nil)
      (pss_cons (ps_if (pt_cmpR op_eq (pe_ix ix_list (pv 1) pe_int (fun _ _ => rfl)) pe_int (nomark _)) (pss_one ps_never) pss_nil)
      (pss_one (ps_ret (pe_fn h_worth hr (by rfl) (pa_cons (pv 0) (pa_cons (pv 1) pa_nil)))))))), ?_⟩
    refine q_drop (ev_fn (v := .non) (ea_cons (ev_var rfl) ea_nil) fun _ _ => ⟨b, rfl, h1, h2, rfl⟩) fun H1 e1 => ?_
    have hne : ds ≠ [] := fun z => by
      rw [z] at hd0
      cases hd0
    have hS1 := e1 _ _ hS
    refine q_when (b := false) (et_is (et_or (et_not (et_B (ev_isiS (b := true) (es_old (ev_var rfl) hS1) (by decide +kernel)))) fun _ => et_or (et_test (ev_eqN (ms := []) (eq_of (es_old (ev_var rfl) hS1)) (eq_new (el_lst ea_nil (Nat.zero_le _))))) fun _ =>
      et_not (et_B (ev_all (bs := ds.map fun _ => true) (eq_new ?_)))) ?_) (fun z => nomatch z) fun _ H2 e2 => ?_
    · have g := el_lcL (K := K) (te := ?te) (tl := tVar 1) (t := tYes) (j := 2) (vs := [2]) (σ := [some (vi b), some (.ref a), none]) (fun _ => true) (fun _ => V.bl true) (ev_var rfl) (sq_of hS1) (by rw [List.length_map]; omega) (fun x => rfl) (fun i x H3 e3 _ => et_yes) (fun i x H3 e3 hx _ => ?_)
      · rw [given_all, List.length_map] at g
        have e : (List.range ds.length).map (fun _ => V.bl true) = (ds.map fun _ => true).map V.bl := by
          rw [List.map_map]
          apply List.ext_getElem
          · simp
          · intro i q1 q2
            simp
        rw [e] at g
        exact g
      · obtain ⟨d, hd, rfl⟩ := get_vl hx
        have hdb := hlt d (List.mem_of_getElem? hd)
        refine ev_is (ev_andV (ev_fn (ea_cons (ev_var rfl) ea_nil) fun _ _ => r_whole _) fun _ => ev_chain ev_c (ev_var rfl) rv_I0 (ev_var rfl) rv_I0) ?_
        rw [decide_eq_true (show (0 : Int) ≤ (d : Int) by omega), decide_eq_true (show (d : Int) < (b : Int) by omega)]
        rfl
    · rw [decide_eq_false hne]
      have : (ds.map fun _ => true).all id = true := by simp
      rw [this]
      rfl
    · have hS2 := e2 _ _ hS1
      refine q_when (b := false) (et_is (et_test (ev_op (ev_ix (eq_of (es_old (ev_var rfl) hS2)) ev_c (atI_nat (j := 0) (v := vi d0) (by rw [List.getElem?_map, hd0]; rfl))) ev_c (rv_eq rfl))) ?_) (fun z => nomatch z) fun _ H3 e3 => ?_
      · refine decide_eq_false fun z => ?_
        have := V.int.inj z
        omega
      · refine s_ret (ev_fn (ea_cons (ev_var rfl) (ea_cons (ev_var rfl) ea_nil)) fun H4 e4 => ⟨b, a, ds, rfl, h2, sq_of (e4 _ _ (e3 _ _ hS2)), rfl⟩) fun H4 e4 => k H4 (((e1.trans e2).trans e3).trans e4)
/-! slices of rows -/
theorem cut_last (ds : List Nat) : cutV (vl ds) (some (-1)) none = vl (ds.drop (ds.length - 1)) := by
  unfold cutV
  rw [HT.sIx_none, List.length_map]
  have e : HT.sIx ds.length 0 (some (-1)) = ds.length - 1 := by
    show (if (-1 : Int) < 0 then (-1 + (ds.length : Int)).toNat else min (-1 : Int).toNat ds.length) = _
    rw [if_pos (by decide)]
    omega
  rw [e, List.take_of_length_le (by rw [List.length_drop, List.length_map]; omega), vl_drop]
theorem cut_init (ds : List Nat) : cutV (vl ds) none (some (-1)) = vl (ds.take (ds.length - 1)) := by
  unfold cutV
  rw [HT.sIx_none, List.length_map, List.drop_zero]
  have e : HT.sIx ds.length ds.length (some (-1)) = ds.length - 1 := by
    show (if (-1 : Int) < 0 then (-1 + (ds.length : Int)).toNat else min (-1 : Int).toNat ds.length) = _
    rw [if_pos (by decide)]
    omega
  rw [e, vl_take, Nat.sub_zero]
theorem cut_from (ds : List Nat) (k : Nat) : cutV (vl ds) (some (k : Int)) none = vl (ds.drop k) := by
  unfold cutV
  rw [HT.sIx_none, HT.sIx_nat, List.length_map, List.take_of_length_le (by rw [List.length_drop, List.length_map]; omega), vl_drop]
  by_cases h : k ≤ ds.length
  · rw [Nat.min_eq_left h]
  · rw [Nat.min_eq_right (by omega), List.drop_of_length_le (by simp), List.drop_of_length_le (by simp; omega)]
theorem cut_to (ds : List Nat) (k : Nat) : cutV (vl ds) none (some (k : Int)) = vl (ds.take k) := by
  unfold cutV
  rw [HT.sIx_none, HT.sIx_nat, List.length_map, List.drop_zero, Nat.sub_zero, vl_take]
  by_cases h : k ≤ ds.length
  · rw [Nat.min_eq_left h]
  · rw [Nat.min_eq_right (by omega), List.take_of_length_le (by simp), List.take_of_length_le (by simp; omega)]
abbrev s_moved_of : Stmt := topS 16
abbrev N_moved_of : List Str := ["base", "number", "side", "row", "turned"]
abbrev P_moved_of : List Str := ["base", "number", "side"]
theorem sc_moved_of : FnScope N_moved_of P_moved_of (defScope s_moved_of) := ⟨rfl, rfl, rfl, by decide +kernel, rfl, by decide +kernel, by decide +kernel⟩

def R_moved_of : List V → Hp → V → Prop := fun vs _ v => ∃ (b n : Nat) (fr : Bool), vs = [vi b, vi n, vs' fr] ∧ 2 ≤ b ∧ b ≤ 36 ∧ n < 2 ^ 50000 ∧ v = vi (mv b n fr)
theorem ok_moved_of {f : Addr} {fd : FuncData} (F : Fun K "moved_of" "moved_of" s_moved_of f fd) (h_figures_of : Has P w K mg base "figures_of" P_figures_of 1 (spL R_figs)) (h_worth : Has P w K mg base "worth" P_worth 1 (spV (R_worth K))) :
    FnOk P w K mg base CX0 2 f fd P_moved_of (spV R_moved_of) := by
  refine F.ok sc_moved_of (fun vs H Q E h => ?_) (fun cdv A outer s H vs Q E hr h => ?_)
  · obtain ⟨v, ⟨b, n, fr, rfl, _⟩, _⟩ := h
    rfl
  · obtain ⟨v, ⟨b, n, fr, rfl, h1, h2, hn, rfl⟩, k⟩ := h
    refine ⟨_, (pss_cons (ps_set (i := 3) sc_moved_of.nd rfl (.inl rfl) (pe_fn h_figures_of hr (by rfl) (pa_cons (pv 0) (pa_cons (pv 1) pa_nil))))
      (pss_cons (ps_set (i := 4) sc_moved_of.nd rfl (.inl rfl) (pe_ifExp (pt_cmpR op_eq (pv 2) pe_str (nomark _)) (pe_op op_cat (pe_slice sl_list (pv 3) (po_some (pe_un un_neg pe_int)) po_none) (pe_slice sl_list (pv 3) po_none (po_some (pe_un un_neg pe_int)))) (pe_op op_cat (pe_slice sl_list (pv 3) (po_some pe_int) po_none) (pe_slice sl_list (pv 3) po_none (po_some pe_int)))))
      (pss_one (ps_ret (pe_fn h_worth hr (by rfl) (pa_cons (pv 0) (pa_cons (pv 4) pa_nil))))))), ?_⟩
    refine q_asgL (el_fn (ea_cons (ev_var rfl) (ea_cons (ev_var rfl) ea_nil)) fun _ _ => ⟨b, n, rfl, h1, h2, hn, rfl⟩) fun p H1 np e1 hp => ?_
    have hlen := figs_len2 h1 hn
    refine q_asgL (xs := vl (rot fr (figs b n))) (el_if (b := fr) (et_is (et_test (ev_op (ev_var rfl) ev_c (rv_eq rfl))) (sd_eq fr)) (fun hb => ?_) (fun hb => ?_)) fun q H2 nq e2 hq => ?_
    · subst hb
      refine el_is (el_cat (es_new (el_cut (eq_old (ev_var rfl) (sq_of hp)) (eo_some (ev_un ev_c ru_neg)) eo_none)) (es_new (el_cut (eq_old (ev_var rfl) (sq_of hp)) eo_none (eo_some (ev_un ev_c ru_neg)))) ?_) ?_
      · have q1 := cutV_length (vl (figs b n)) (some (-1)) none
        have q2 := cutV_length (vl (figs b n)) none (some (-1))
        rw [List.length_map] at q1 q2
        omega
      · rw [cut_last, cut_init, ← vl_app]
        rfl
    · subst hb
      refine el_is (el_cat (es_new (el_cut (eq_old (ev_var rfl) (sq_of hp)) (eo_some ev_c) eo_none)) (es_new (el_cut (eq_old (ev_var rfl) (sq_of hp)) eo_none (eo_some ev_c))) ?_) ?_
      · have q1 := cutV_length (vl (figs b n)) (some 1) none
        have q2 := cutV_length (vl (figs b n)) none (some 1)
        rw [List.length_map] at q1 q2
        omega
      · rw [show (1 : Int) = ((1 : Nat) : Int) from rfl, cut_from, cut_to, ← vl_app]
        rfl
    · exact s_ret (ev_fn (ea_cons (ev_var rfl) (ea_cons (ev_var rfl) ea_nil)) fun H3 e3 => ⟨b, q, _, rfl, h2, sq_of (e3 _ _ hq), rfl⟩) fun H3 e3 => k H3 ((e1.trans e2).trans e3)
abbrev s_moved : Stmt := topS 17
abbrev N_moved : List Str := ["base", "number", "side"]
abbrev P_moved : List Str := ["base", "number", "side"]
theorem sc_moved : FnScope N_moved P_moved (defScope s_moved) := ⟨rfl, rfl, rfl, by decide +kernel, rfl, by decide +kernel, by decide +kernel⟩

def R_moved : List V → Hp → V → Prop := fun vs _ v => ∃ (b n : Nat) (fr : Bool), vs = [vi b, vi n, vs' fr] ∧ 3 ≤ b ∧ b ≤ 36 ∧ 1 ≤ n ∧ n < 2 ^ 50000 ∧ v = vi (mv b n fr)
theorem ok_moved {f : Addr} {fd : FuncData} (F : Fun K "moved" "moved" s_moved f fd) (h_asked_base : Has P w K mg base "asked_base" P_asked_base 2 (spV R_asked_base)) (h_asked_number : Has P w K mg base "asked_number" P_asked_number 2 (spV R_asked_number))
    (h_asked_side : Has P w K mg base "asked_side" P_asked_side 1 (spV R_asked_side)) (h_moved_of : Has P w K mg base "moved_of" P_moved_of 2 (spV R_moved_of)) : FnOk P w K mg base CX0 3 f fd P_moved (spV R_moved) := by
  refine F.ok sc_moved (fun vs H Q E h => ?_) (fun cdv A outer s H vs Q E hr h => ?_)
  · obtain ⟨v, ⟨b, n, fr, rfl, _⟩, _⟩ := h
    rfl
  · obtain ⟨v, ⟨b, n, fr, rfl, h1, h2, h3, h4, rfl⟩, k⟩ := h
    refine ⟨_, (pss_cons (ps_expr (pe_fn h_asked_base hr (by rfl) (pa_cons (pv 0) pa_nil)))
      (pss_cons (ps_expr (pe_fn h_asked_number hr (by rfl) (pa_cons (pv 1) pa_nil)))
      (pss_cons (ps_expr (pe_fn h_asked_side hr (by rfl) (pa_cons (pv 2) pa_nil)))
      (pss_one (ps_ret (pe_fn h_moved_of hr (by rfl) (pa_cons (pv 0) (pa_cons (pv 1) (pa_cons (pv 2) pa_nil))))))))), ?_⟩
    refine q_drop (ev_fn (v := .non) (ea_cons (ev_var rfl) ea_nil) fun _ _ => ⟨b, rfl, h1, h2, rfl⟩) fun H1 e1 => ?_
    refine q_drop (ev_fn (v := .non) (ea_cons (ev_var rfl) ea_nil) fun _ _ => ⟨n, rfl, h3, rfl⟩) fun H2 e2 => ?_
    refine q_drop (ev_fn (v := .non) (ea_cons (ev_var rfl) ea_nil) fun _ _ => ⟨fr, rfl, rfl⟩) fun H3 e3 => ?_
    exact s_ret (ev_fn (ea_cons (ev_var rfl) (ea_cons (ev_var rfl) (ea_cons (ev_var rfl) ea_nil))) fun _ _ => ⟨b, n, fr, rfl, by omega, h2, h4, rfl⟩) fun H4 e4 => k H4 (((e1.trans e2).trans e3).trans e4)
end
end Tf

namespace Tf
open PySem PySem.Spec PyProof.Rows L2 Evl
/-! ### the law's own helpers -/
def lnum (c a wh : Int) : Int :=
  let c' := if (10 : Int) ^ 60 ≤ (c.natAbs : Int) then c % 10 ^ 18 else c
  if (10 : Int) ^ 18 ≤ c' then c' / (1 + a % 7)
  else
    let bl := ((c' + 977 * a) * 48271 + wh) % 2147483647
    bl * (c' + 31 * a + 7) * (bl + c' + 5) * (bl * bl + 11) / (1009 + a)
theorem div_abs_le {x y : Int} (hy : 0 < y) : (x / y).natAbs ≤ x.natAbs := by
  have h1 := Int.ediv_mul_le x (Int.ne_of_gt hy)
  have h2 := Int.lt_ediv_add_one_mul_self x hy
  by_cases hx : 0 ≤ x
  · have a := Int.ediv_nonneg hx (Int.le_of_lt hy)
    have b := Int.ediv_le_self y hx
    omega
  · have a : x / y < 0 := Int.ediv_neg_of_neg_of_pos (by omega) hy
    have b : x ≤ x / y := by
      have c : x / y * y ≤ x / y * 1 := Int.mul_le_mul_of_nonpos_left (by omega) (by omega)
      have d := Int.emod_lt_of_pos x hy
      have f := Int.mul_ediv_add_emod x y
      rw [Int.mul_comm] at f
      by_cases g : x / y = -1
      · omega
      · have y1 : (x / y + 1) * y ≤ (x / y + 1) * 1 := Int.mul_le_mul_of_nonpos_left (by omega) (by omega)
        omega
    omega
section
variable {P : Program} {w : World} {K : PySem.W.Frag} {mg : Str → Option Value} {base : Heap}
abbrev s__law_number : Stmt := topS 19
abbrev N__law_number : List Str := ["_law_cell", "_law_at", "_law_whole", "_law_blend", "_law_more"]
abbrev P__law_number : List Str := ["_law_cell", "_law_at", "_law_whole"]
theorem sc__law_number : FnScope N__law_number P__law_number (defScope s__law_number) := ⟨rfl, rfl, rfl, by decide +kernel, rfl, by decide +kernel, by decide +kernel⟩

def R_lnum : List V → Hp → V → Prop := fun vs _ v => ∃ c a wh : Int, vs = [.int c, .int a, .int wh] ∧ 0 ≤ a ∧ a ≤ 1000 ∧ v = .int (lnum c a wh) 
theorem ok__law_number {f : Addr} {fd : FuncData} (T : Nm mg) (F : Fun K "_law_number" "_law_number" s__law_number f fd) : FnOk P w K mg base CX0 1 f fd P__law_number (spV R_lnum) := by
  refine F.ok sc__law_number (fun vs H Q E h => ?_) (fun cdv A outer s H vs Q E hr h => ?_)
  · obtain ⟨v, ⟨c, a, wh, rfl, _⟩, _⟩ := h
    rfl
  · obtain ⟨v, ⟨c, a, wh, rfl, h1, h2, rfl⟩, k⟩ := h
    refine ⟨_, (pss_cut (ps_if (pt_cmpR op_ge (pe_callB call_abs (by rfl) T.n_abs (by decide +kernel) (pa_cons (pv 0) pa_nil)) (pe_op op_pow pe_int pe_int) (nomark _)) (pss_one (ps_set (i := 0) sc__law_number.nd rfl (.inl rfl) (pe_op op_mod (pv 0) (pe_op op_pow pe_int pe_int)))) pss_nil)
      (pss_cons (ps_if (pt_cmpR op_ge (pv 0) (pe_op op_pow pe_int pe_int) (nomark _)) (pss_one (ps_ret (pe_op op_fdiv (pv 0) (pe_op op_add pe_int (pe_op op_mod (pv 1) pe_int))))) pss_nil)
      (pss_cons (ps_set (i := 3) sc__law_number.nd rfl (.inl rfl) (pe_op op_mod (pe_op op_add (pe_op op_mul (pe_op op_add (pv 0) (pe_op op_mul pe_int (pv 1))) pe_int) (pv 2)) pe_int))
      (pss_cons (ps_set (i := 4) sc__law_number.nd rfl (.inl rfl) (pe_op op_mul (pv 3) (pe_op op_add (pe_op op_add (pv 0) (pe_op op_mul pe_int (pv 1))) pe_int)))
      (pss_one (ps_ret (pe_op op_fdiv (pe_op op_mul (pe_op op_mulW (pv 4) (pe_op op_add (pe_op op_add (pv 3) (pv 0)) pe_int)) (pe_op op_add (pe_op op_mul (pv 3) (pv 3)) pe_int)) (pe_op op_add pe_int (pv 1))))))))), ?_⟩
    refine q_mid (M := fun σ' H' => σ' = [some (.int (if (10 : Int) ^ 60 ≤ (c.natAbs : Int) then c % 10 ^ 18 else c)), some (.int a), some (.int wh), none, none] ∧ Ex H H') ?_ ?_
    · refine s_when (et_test (ev_op (ev_abs (ev_var rfl)) (ev_op ev_c ev_c (rv_I ⟨by decide, by decide, by decide⟩)) rv_I0)) (fun hb H1 e1 => ?_) (fun hb H1 e1 => ?_)
      · refine s_asg (ev_op (ev_var rfl) (ev_op ev_c ev_c (rv_I ⟨by decide, by decide, by decide⟩)) (rv_I (by decide +kernel))) fun H2 e2 => ⟨?_, e1.trans e2⟩
        rw [if_pos (show (10 : Int) ^ 60 ≤ (c.natAbs : Int) from of_decide_eq_true hb)]
        rfl
      · refine ⟨?_, e1⟩
        rw [if_neg (show ¬ (10 : Int) ^ 60 ≤ (c.natAbs : Int) from of_decide_eq_false hb)]
        rfl
    · rintro σ' H' ⟨rfl, e1⟩
      unfold lnum at k
      have hc : ∀ d : Int, d = (if (10 : Int) ^ 60 ≤ (c.natAbs : Int) then c % 10 ^ 18 else c) → d.natAbs < 10 ^ 60 := by
        rintro d rfl
        split
        · have a1 := Int.emod_nonneg c (show (10 : Int) ^ 18 ≠ 0 by decide)
          have a2 := Int.emod_lt_of_pos c (show (0 : Int) < 10 ^ 18 by decide)
          omega
        · omega
      generalize hd : (if (10 : Int) ^ 60 ≤ (c.natAbs : Int) then c % 10 ^ 18 else c) = d at *
      have hd2 := hc d rfl
      refine q_when (et_test (ev_op (ev_var rfl) (ev_op ev_c ev_c (rv_I ⟨by decide, by decide, by decide⟩)) rv_I0)) (fun hb H2 e2 => ?_) (fun hb H2 e2 => ?_)
      · have m1 := Int.emod_nonneg a (show (7 : Int) ≠ 0 by decide)
        have m2 := Int.emod_lt_of_pos a (show (0 : Int) < 7 by decide)
        refine s_ret (ev_op (ev_var rfl) (ev_op ev_c (ev_op (ev_var rfl) ev_c (rv_I (by decide))) rv_I0) (rv_I ⟨by omega, by omega⟩)) fun H3 e3 => ?_
        have g := k H3 ((e1.trans e2).trans e3)
        rw [if_pos (show (10 : Int) ^ 18 ≤ d from of_decide_eq_true hb)] at g
        exact g
      · have g := fun H3 (e3 : Ex H H3) => k H3 e3
        simp only [if_neg (show ¬ (10 : Int) ^ 18 ≤ d from of_decide_eq_false hb)] at g
        refine q_asg (ev_op (ev_op (ev_op (ev_op (ev_var rfl) (ev_op ev_c (ev_var rfl) (rv_I (.inl ⟨by decide, by decide⟩))) rv_I0) ev_c (rv_I (.inr ⟨by decide, by decide⟩))) (ev_var rfl) rv_I0) ev_c (rv_I (by decide))) fun H3 e3 => ?_
        have n1 := Int.emod_nonneg ((d + 977 * a) * 48271 + wh) (show (2147483647 : Int) ≠ 0 by decide)
        have n2 := Int.emod_lt_of_pos ((d + 977 * a) * 48271 + wh) (show (0 : Int) < 2147483647 by decide)
        generalize ((d + 977 * a) * 48271 + wh) % 2147483647 = bl at *
        have nb : bl * bl ≤ 2147483647 * 2147483647 := Int.mul_le_mul (by omega) (by omega) n1 (by omega)
        have nb0 : 0 ≤ bl * bl := Int.mul_nonneg n1 n1
        refine q_asg (ev_op (ev_var rfl) (ev_op (ev_op (ev_var rfl) (ev_op ev_c (ev_var rfl) (rv_I (.inl ⟨by decide, by decide⟩))) rv_I0) ev_c rv_I0) (rv_I (.inl ⟨by omega, by omega⟩))) fun H4 e4 => ?_
        have w1 : (bl * (d + 31 * a + 7)).natAbs < 2 ^ (31 + 201) := wide_lt (by omega) (by omega)
        refine s_ret (ev_op (ev_op (ev_op (ev_var rfl) (ev_op (ev_op (ev_var rfl) (ev_var rfl) rv_I0) ev_c rv_I0) (rv_I (wide_mul (a := 31 + 201) (b := 201) w1 (by omega) (by decide) (by decide) (by decide)))) (ev_op (ev_op (ev_var rfl) (ev_var rfl) (rv_I (.inl ⟨by omega, by omega⟩))) ev_c rv_I0) (rv_I (.inr ⟨by omega, by omega⟩))) (ev_op ev_c (ev_var rfl) rv_I0) (rv_I ⟨by omega, by omega⟩)) fun H5 e5 => ?_
        exact g H5 ((((e1.trans e2).trans e3).trans e4).trans e5)
abbrev s__law_figures : Stmt := topS 20
abbrev N__law_figures : List Str := ["_law_base", "_law_number_here", "_law_found"]
abbrev P__law_figures : List Str := ["_law_base", "_law_number_here"]
theorem sc__law_figures : FnScope N__law_figures P__law_figures (defScope s__law_figures) := ⟨rfl, rfl, rfl, by decide +kernel, rfl, by decide +kernel, by decide +kernel⟩

theorem ok__law_figures {f : Addr} {fd : FuncData} (F : Fun K "_law_figures" "_law_figures" s__law_figures f fd) : FnOk P w K mg base CX0 1 f fd P__law_figures (spL R_figs) := by
  refine F.ok sc__law_figures (fun vs H Q E h => ?_) (fun cdv A outer s H vs Q E hr h => ?_)
  · obtain ⟨v, ⟨b, n, rfl, _⟩, _⟩ := h
    rfl
  · obtain ⟨xs, ⟨b, n, rfl, hb, hb2, hn, rfl⟩, k⟩ := h
    refine ⟨_, (pss_cons (ps_set (i := 2) sc__law_figures.nd rfl (.inl rfl) (pe_lst pa_nil))
      (pss_cons (ps_while PassesOwn.never (pt_cmpR op_gt (pv 1) pe_int (nomark _)) (pss_cons (ps_set (i := 2) sc__law_figures.nd rfl (.inl rfl) (pe_op op_cat (pe_lst (pa_cons (pe_op op_mod (pv 1) (pv 0)) pa_nil)) (pv 2)))
      (pss_one (ps_set (i := 1) sc__law_figures.nd rfl (.inl rfl) (pe_op op_fdiv (pv 1) (pv 0))))))
      (pss_one (ps_ret (pv 2))))), ?_⟩
    refine q_asgL (el_lst ea_nil (Nat.zero_le _)) fun p H1 np e1 hp => ?_
    have hlen := figs_len2 hb hn
    refine q_while (fun m σ H' => ∃ (acc : List Nat) (p : Addr), σ = [some (vi b), some (vi m), some (.ref p)] ∧ Ex H H' ∧ H p = none ∧ H' p = some (.lst (vl acc)) ∧ figs b m ++ acc = figs b n) n ⟨[], p, rfl, e1, np, hp, List.append_nil _⟩ ?_
    rintro m σ' H' ⟨acc, p, rfl, e2, np, hp2, ha⟩
    refine ⟨_, et_test (ev_op (ev_var rfl) ev_c rv_I0), fun hm H3 e3 => ⟨_, fun σ2 H2 z => z, ?_⟩, fun hm H3 e3 => ?_⟩
    · have hm' : 0 < m := by
        have := of_decide_eq_true hm
        omega
      have hl := figs_pos (b := b) hb hm'
      rw [hl] at ha
      have hacc : acc.length < 100000 := by
        have := congrArg List.length ha
        rw [List.length_append] at this
        omega
      refine q_asgL (el_cat (es_new (el_lst (ea_cons (ev_op (ev_var rfl) (ev_var rfl) (rv_I (show (0 : Int) < (b : Int) by omega))) ea_nil) (show 1 ≤ 100000 by decide))) (es_old (ev_var rfl) (e3 _ _ hp2)) (by rw [List.length_map]; simp only [List.length_cons, List.length_nil]; omega)) fun p2 H4 np2 e4 hp4 => ?_
      refine s_asg (ev_op (ev_var rfl) (ev_var rfl) (rv_I ⟨show (0 : Int) < (b : Int) by omega, show (b : Int) < 1073741824 by omega⟩)) fun H5 e5 => ?_
      refine ⟨m / b, div_lt hb hm', (m % b) :: acc, p2, rfl, ?_, ?_, ?_, ?_⟩
      · exact ((e2.trans e3).trans e4).trans e5
      · exact fresh_back (e2.trans e3) np2
      · exact e5 _ _ hp4
      · rw [List.append_assoc] at ha
        exact ha
    · have hm' : m = 0 := by
        have := of_decide_eq_false hm
        omega
      subst hm'
      rw [figs_zero, List.nil_append] at ha
      subst ha
      exact s_ret (ev_var rfl) fun H4 e4 => k p H4 np ((e2.trans e3).trans e4) (e4 _ _ (e3 _ _ hp2))
abbrev s__law_worth : Stmt := topS 21
abbrev N__law_worth : List Str := ["_law_base", "_law_row", "_law_found", "_law_figure"]
abbrev P__law_worth : List Str := ["_law_base", "_law_row"]
theorem sc__law_worth : FnScope N__law_worth P__law_worth (defScope s__law_worth) := ⟨rfl, rfl, rfl, by decide +kernel, rfl, by decide +kernel, by decide +kernel⟩

theorem ok__law_worth {f : Addr} {fd : FuncData} (F : Fun K "_law_worth" "_law_worth" s__law_worth f fd) : FnOk P w K mg base CX0 1 f fd P__law_worth (spV (R_worth K)) := by
  refine F.ok sc__law_worth (fun vs H Q E h => ?_) (fun cdv A outer s H vs Q E hr h => ?_)
  · obtain ⟨v, ⟨b, a, ds, rfl, _⟩, _⟩ := h
    rfl
  · obtain ⟨v, ⟨b, a, ds, rfl, hb, hS, rfl⟩, k⟩ := h
    refine ⟨_, (pss_cons (ps_set (i := 2) sc__law_worth.nd rfl (.inl rfl) pe_int)
      (pss_cons (ps_for PassesOwn.never rfl (pi_list (pv 1)) (pg_name (i := 3) sc__law_worth.nd rfl (.inl rfl)) (pss_one (ps_set (i := 2) sc__law_worth.nd rfl (.inl rfl) (pe_op op_add (pe_op op_mul (pv 2) (pv 0)) (pv 3)))))
      (pss_one (ps_ret (pv 2))))), ?_⟩
    refine q_asg ev_c fun H1 e1 => ?_
    refine q_forLn (ev_var rfl) (ex_l e1 hS) (fun i σ H' => ∃ x, σ = [some (vi b), some (.ref a), some (vi (wr b (ds.take i))), x] ∧ Ex H H') (fun H2 e2 => ⟨none, rfl, e1.trans e2⟩) (fun i σ' H' _ ⟨x, _, e⟩ => ex_l e hS) ?_ ?_
    · rintro i x σ' H' hx ⟨y, rfl, e2⟩
      obtain ⟨d, hd, rfl⟩ := get_vl hx
      refine s_asg (ev_op (ev_op (ev_var rfl) (ev_var rfl) (rv_I (.inr ⟨?_, ?_⟩))) (ev_var rfl) rv_I0) fun H3 e3 => ⟨some (vi d), ?_, e2.trans e3⟩
      · show (-(2 ^ 64) : Int) < (b : Int)
        omega
      · show (b : Int) < 2 ^ 64
        omega
      · rw [wr_take hd]
        rfl
    · rintro σ' H' ⟨x, rfl, e2⟩
      refine s_ret (ev_var rfl) fun H3 e3 => ?_
      rw [List.length_map, List.take_length]
      exact k H3 (e2.trans e3)
abbrev s__law_moved : Stmt := topS 22
abbrev N__law_moved : List Str := ["_law_base", "_law_number_here", "_law_side", "_law_row"]
abbrev P__law_moved : List Str := ["_law_base", "_law_number_here", "_law_side"]
theorem sc__law_moved : FnScope N__law_moved P__law_moved (defScope s__law_moved) := ⟨rfl, rfl, rfl, by decide +kernel, rfl, by decide +kernel, by decide +kernel⟩

def R_lmoved : List V → Hp → V → Prop := fun vs _ v => ∃ (b n : Nat) (fr : Bool), vs = [vi b, vi n, vs' fr] ∧ 2 ≤ b ∧ b ≤ 36 ∧ 1 ≤ n ∧ n < 2 ^ 50000 ∧ v = vi (mv b n fr)
theorem drop_last {ds : List Nat} {d : Nat} (h : ds[ds.length - 1]? = some d) : ds.drop (ds.length - 1) = [d] := by
  have l := (List.getElem?_eq_some_iff.mp h).1
  rw [List.drop_eq_getElem_cons l, List.drop_of_length_le (by omega)]
  rw [List.getElem?_eq_getElem l] at h
  rw [Option.some.inj h]
theorem take_first {ds : List Nat} {d : Nat} (h : ds[0]? = some d) : ds.take 1 = [d] := by
  cases ds with
  | nil => cases h
  | cons x r => rw [← Option.some.inj h]; rfl
theorem atI_lastN {ds : List Nat} {d : Nat} (h : ds[ds.length - 1]? = some d) : atI (vl ds) (-1) = some (vi d) := by
  have t := List.take_append_drop (ds.length - 1) ds
  rw [drop_last h] at t
  rw [← t, vl_app]
  exact atI_last _ _
theorem atI_natN {ds : List Nat} {i d : Nat} (h : ds[i]? = some d) : atI (vl ds) (i : Int) = some (vi d) := atI_nat (by rw [List.getElem?_map, h]; rfl)
theorem ok__law_moved {f : Addr} {fd : FuncData} (F : Fun K "_law_moved" "_law_moved" s__law_moved f fd) (h__law_figures : Has P w K mg base "_law_figures" P__law_figures 1 (spL R_figs)) (h__law_worth : Has P w K mg base "_law_worth" P__law_worth 1 (spV (R_worth K))) :
    FnOk P w K mg base CX0 2 f fd P__law_moved (spV R_lmoved) := by
  refine F.ok sc__law_moved (fun vs H Q E h => ?_) (fun cdv A outer s H vs Q E hr h => ?_)
  · obtain ⟨v, ⟨b, n, fr, rfl, _⟩, _⟩ := h
    rfl
  · obtain ⟨v, ⟨b, n, fr, rfl, h1, h2, h3, hn, rfl⟩, k⟩ := h
    refine ⟨_, (pss_cons (ps_set (i := 3) sc__law_moved.nd rfl (.inl rfl) (pe_fn h__law_figures hr (by rfl) (pa_cons (pv 0) (pa_cons (pv 1) pa_nil))))
      (pss_cons (ps_if (pt_cmpR op_eq (pv 2) pe_str (nomark _)) (pss_one (ps_ret (pe_fn h__law_worth hr (by rfl) (pa_cons (pv 0) (pa_cons (pe_op op_cat (pe_lst (pa_cons (pe_ix ix_list (pv 3) (pe_un un_neg pe_int) (fun _ _ => rfl)) pa_nil)) (pe_slice sl_list (pv 3) po_none (po_some (pe_un un_neg pe_int)))) pa_nil))))) pss_nil)
      (pss_one (ps_ret (pe_fn h__law_worth hr (by rfl) (pa_cons (pv 0) (pa_cons (pe_op op_cat (pe_slice sl_list (pv 3) (po_some pe_int) po_none) (pe_lst (pa_cons (pe_ix ix_list (pv 3) pe_int (fun _ _ => rfl)) pa_nil))) pa_nil))))))), ?_⟩
    refine q_asgL (el_fn (ea_cons (ev_var rfl) (ea_cons (ev_var rfl) ea_nil)) fun _ _ => ⟨b, n, rfl, h1, h2, hn, rfl⟩) fun p H1 np e1 hp => ?_
    have hlen := figs_len2 h1 hn
    have hpos := figs_len_pos h1 (show 0 < n by omega)
    obtain ⟨dl, hdl⟩ : ∃ d, (figs b n)[(figs b n).length - 1]? = some d := ⟨_, List.getElem?_eq_getElem (by omega)⟩
    obtain ⟨df, hdf⟩ : ∃ d, (figs b n)[0]? = some d := ⟨_, List.getElem?_eq_getElem (by omega)⟩
    refine q_when (b := fr) (et_is (et_test (ev_op (ev_var rfl) ev_c (rv_eq rfl))) (sd_eq fr)) (fun hb H2 e2 => ?_) (fun hb H2 e2 => ?_)
    · subst hb
      refine s_ret (ev_fnL (ev_var rfl) (es_new (el_is (ys := vl (rot true (figs b n))) (el_cat (es_new (el_lst (ea_cons (ev_ix (eq_old (ev_var rfl) (sq_of (e2 _ _ hp))) (ev_un ev_c ru_neg) (atI_lastN hdl)) ea_nil) (show 1 ≤ 100000 by decide))) (es_new (el_cut (eq_old (ev_var rfl) (sq_of (e2 _ _ hp))) eo_none (eo_some (ev_un ev_c ru_neg)))) ?_) ?_)) fun q H3 e3 hq => ⟨b, q, _, rfl, h2, sq_of hq, rfl⟩) fun H3 e3 => k H3 ((e1.trans e2).trans e3)
      · have q2 := cutV_length (vl (figs b n)) none (some (-1))
        rw [List.length_map] at q2
        simp only [List.length_cons, List.length_nil]
        omega
      · rw [cut_init, show ([vi dl] : List V) = vl [dl] from rfl, ← vl_app, ← drop_last hdl]
        rfl
    · subst hb
      refine s_ret (ev_fnL (ev_var rfl) (es_new (el_is (ys := vl (rot false (figs b n))) (el_cat (es_new (el_cut (eq_old (ev_var rfl) (sq_of (e2 _ _ hp))) (eo_some ev_c) eo_none)) (es_new (el_lst (ea_cons (ev_ix (eq_old (ev_var rfl) (sq_of (e2 _ _ hp))) ev_c (atI_natN hdf)) ea_nil) (show 1 ≤ 100000 by decide))) ?_) ?_)) fun q H3 e3 hq => ⟨b, q, _, rfl, h2, sq_of hq, rfl⟩) fun H3 e3 => k H3 ((e1.trans e2).trans e3)
      · have q2 := cutV_length (vl (figs b n)) (some 1) none
        rw [List.length_map] at q2
        simp only [List.length_cons, List.length_nil]
        omega
      · rw [show (1 : Int) = ((1 : Nat) : Int) from rfl, cut_from, show ([vi df] : List V) = vl [df] from rfl, ← vl_app, ← take_first hdf]
        rfl
end
end Tf

namespace Tf
open PySem PySem.Spec PyProof.Rows L2 Evl
/-! ### the law -/
def spLaw (K : PySem.W.Frag) : Sp := fun vs H Q _ => ∃ (a : Addr) (ns : List Int), vs = [.ref a] ∧ SqL K H a (ns.map V.int) ∧ ns.length ≤ 63 ∧ ∀ H', Q (.bl true) H'
def tt4 (i : Nat) : Nat := if i % 4 = 0 then 10 else if i % 4 = 1 then 5000 else if i % 4 = 2 then 10 ^ 12 else 10 ^ 60
theorem tt4_at (i : Nat) : atI [V.int 10, .int 5000, .int (10 ^ (12 : Int).toNat), .int (10 ^ (60 : Int).toNat)] ((i : Int) % 4) = some (vi (tt4 i)) := by
  have e : (i : Int) % 4 = ((i % 4 : Nat) : Int) := by omega
  rw [e]
  have h : i % 4 < 4 := Nat.mod_lt _ (by decide)
  unfold tt4
  generalize i % 4 = j at *
  match j, h with
  | 0, _ => exact atI_nat (j := 0) rfl
  | 1, _ => exact atI_nat (j := 1) rfl
  | 2, _ => exact atI_nat (j := 2) rfl
  | 3, _ => exact atI_nat (j := 3) rfl
theorem tt4_pos (i : Nat) : 0 < tt4 i ∧ tt4 i ≤ 10 ^ 60 := by
  unfold tt4
  split
  · exact ⟨by decide, by decide⟩
  · split
    · exact ⟨by decide, by decide⟩
    · split <;> exact ⟨by decide, by decide⟩
/-- the first figure behind the move -/
theorem first_F {ds : List Nat} {d : Nat} (h : ds[ds.length - 1]? = some d) : (rot true ds)[0]? = some d := by
  show (ds.drop (ds.length - 1) ++ ds.take (ds.length - 1))[0]? = some d
  rw [drop_last h]
  rfl
theorem first_B {ds : List Nat} {d : Nat} (hl : 0 < ds.length) (h : (ds ++ ds)[1]? = some d) : (rot false ds)[0]? = some d := by
  show (ds.drop 1 ++ ds.take 1)[0]? = some d
  match ds, hl with
  | [x], _ => exact h
  | x :: y :: r, _ => exact h
section
variable {P : Program} {w : World} {K : PySem.W.Frag} {mg : Str → Option Value} {base : Heap}
abbrev s_law : Stmt := topS 23
abbrev N_law : List Str := ["_law_script", "_law_whole", "_law_at", "_law_cell", "_law_base", "_law_number_here", "_law_row", "_law_again", "_law_found", "_law_handed", "_law_side", "_law_other", "_law_there", "_law_first", "_law_one"]
abbrev P_law : List Str := ["_law_script"]
theorem sc_law : FnScope N_law P_law (defScope s_law) := ⟨rfl, rfl, rfl, by decide +kernel, rfl, by decide +kernel, by decide +kernel⟩

theorem ok_law {f : Addr} {fd : FuncData} (T : Nm mg) (F : Fun K "law" "law" s_law f fd) (h__law_number : Has P w K mg base "_law_number" P__law_number 1 (spV R_lnum)) (h__law_figures : Has P w K mg base "_law_figures" P__law_figures 1 (spL R_figs))
    (h__law_moved : Has P w K mg base "_law_moved" P__law_moved 2 (spV R_lmoved)) (h_figures : Has P w K mg base "figures" P_figures 3 (spL R_figures)) (h_number_of : Has P w K mg base "number_of" P_number_of 3 (spV (R_number_of K)))
    (h_moved : Has P w K mg base "moved" P_moved 3 (spV R_moved)) : FnOk P w K mg base CX0 4 f fd P_law (spLaw K) := by
  refine F.ok sc_law (fun vs H Q E h => ?_) (fun cdv A outer s H vs Q E hr h => ?_)
  · obtain ⟨a, ns, rfl, _⟩ := h
    rfl
  · obtain ⟨a, ns, rfl, hS, hlen, k⟩ := h
    refine ⟨_, (pss_cons (ps_set (i := 1) sc_law.nd rfl (.inl rfl) (pe_op op_mod (pe_callB call_abs (by rfl) T.n_abs (by decide +kernel) (pa_cons (pe_callB (cr_sum rfl) (by rfl) T.n_sum (by decide +kernel) (pa_cons (pe_slice sl_list (pv 0) po_none (po_some pe_int)) pa_nil)) pa_nil)) (pe_op op_pow pe_int pe_int)))
      (pss_cons (ps_for PassesOwn.never rfl (pi_enum (by rfl) T.n_enumerate (pa_cons (pe_op op_cat (pe_slice sl_list (pv 0) po_none (po_some pe_int)) (pe_lst (pa_cons pe_int (pa_cons pe_int pa_nil)))) pa_nil)) (pg_tup rfl (pgs_cons (pg_name (i := 2) sc_law.nd rfl (.inl rfl)) (pgs_cons (pg_name (i := 3) sc_law.nd rfl (.inl rfl)) pgs_nil))) (pss_cons (ps_set (i := 4) sc_law.nd rfl (.inl rfl) (pe_op op_add pe_int (pe_op op_mod (pe_op op_add (pv 1) (pv 2)) pe_int)))
      (pss_cons (ps_set (i := 5) sc_law.nd rfl (.inl rfl) (pe_op op_add pe_int (pe_op op_mod (pe_callB call_abs (by rfl) T.n_abs (by decide +kernel) (pa_cons (pe_fn h__law_number hr (by rfl) (pa_cons (pv 3) (pa_cons (pe_op op_add (pv 2) pe_int) (pa_cons (pv 1) pa_nil)))) pa_nil)) (pe_ix ix_tup (pe_tup (pa_cons pe_int (pa_cons pe_int (pa_cons (pe_op op_pow pe_int pe_int) (pa_cons (pe_op op_pow pe_int pe_int) pa_nil))))) (pe_op op_mod (pv 2) pe_int) (fun _ _ => rfl)))))
      (pss_cons (ps_set (i := 6) sc_law.nd rfl (.inl rfl) (pe_fn h__law_figures hr (by rfl) (pa_cons (pv 4) (pa_cons (pv 5) pa_nil))))
      (pss_cons (ps_for PassesOwn.never rfl (pi_range1 (by rfl) T.n_range (pa_cons pe_int pa_nil)) (pg_name (i := 7) sc_law.nd rfl (.inl rfl)) (pss_cons (ps_set (i := 8) sc_law.nd rfl (.inl rfl) (pe_fn h_figures hr (by rfl) (pa_cons (pv 4) (pa_cons (pv 5) pa_nil))))
      (pss_cons (ps_if (PW.pt (pw_or (pt_not (pt_val (pe_callB call_isi (by rfl) T.n_isinstance (by decide +kernel) (pa_cons (pv 8) (pa_cons (pe_bltn (v := .ty "list") (by rfl) T.n_list (by decide +kernel) rfl) pa_nil))))) (pw_or (pt_cmpR (op_neD hr.units) (pv 8) (pv 6) (nomark _)) (pw_or1 (pt_val (pe_callB (cr_any rfl) (by rfl) T.n_any (by decide +kernel) (pa_cons (pe_lc (own := [("_law_one", 14)]) (g := gName 14) (tt := tYes) rfl sc_law.nd (pi_list (pv 8)) (blkOk_by (own := [("_law_one", 14)]) (N := N_law) (sc := defScope s_law) (by decide +kernel)) (fun _ _ _ _ _ => pg_name (i := 14) sc_law.nd rfl (.inl rfl)) (fun _ _ _ _ _ => pts_nil) (fun _ _ _ _ _ => (pe_callB (show CallR _ (.builtin "isinstance") (rIsi K) from call_isi) (by rfl) T.n_isinstance (by decide +kernel) (pa_cons (pv 14) (pa_cons (pe_bltn (v := .ty "bool") (by rfl) T.n_bool (by decide +kernel) rfl) pa_nil))))) pa_nil))))))) (pss_one (ps_ret pe_bl)) pss_nil)
      (pss_one (ps_expr (pe_bm PySem.F.plainAttrs_list PySem.F.slot_list_append PySem.F.type_list_append mt_append (pv 8) (pa_cons pe_int pa_nil)))))))
      (pss_cons (ps_set (i := 9) sc_law.nd rfl (.inl rfl) (pe_callTy call_list_of (by rfl) T.n_list (by decide +kernel) (pa_cons (pv 6) pa_nil)))
      (pss_cons (ps_if (PW.pt (pw_or (pt_cmpR op_ne (pe_fn h_number_of hr (by rfl) (pa_cons (pv 4) (pa_cons (pv 9) pa_nil))) (pv 5) (nomark _)) (pw_or1 (pt_cmpR (op_neD hr.units) (pv 9) (pv 6) (nomark _))))) (pss_one (ps_ret pe_bl)) pss_nil)
      (pss_one (ps_for PassesOwn.never rfl (pi_list (pe_lst (pa_cons (pe_tup (pa_cons pe_str (pa_cons pe_str pa_nil))) (pa_cons (pe_tup (pa_cons pe_str (pa_cons pe_str pa_nil))) pa_nil)))) (pg_tup rfl (pgs_cons (pg_name (i := 10) sc_law.nd rfl (.inl rfl)) (pgs_cons (pg_name (i := 11) sc_law.nd rfl (.inl rfl)) pgs_nil))) (pss_cons (ps_set (i := 12) sc_law.nd rfl (.inl rfl) (pe_fn h_moved hr (by rfl) (pa_cons (pv 4) (pa_cons (pv 5) (pa_cons (pv 10) pa_nil)))))
      (pss_cons (ps_if (PW.pt (pw_or (pt_val (pe_callB call_isi (by rfl) T.n_isinstance (by decide +kernel) (pa_cons (pv 12) (pa_cons (pe_bltn (v := .ty "bool") (by rfl) T.n_bool (by decide +kernel) rfl) pa_nil)))) (pw_or1 (pt_cmpR op_ne (pv 12) (pe_fn h__law_moved hr (by rfl) (pa_cons (pv 4) (pa_cons (pv 5) (pa_cons (pv 10) pa_nil)))) (nomark _))))) (pss_one (ps_ret pe_bl)) pss_nil)
      (pss_cons (ps_set (i := 13) sc_law.nd rfl (.inl rfl) (pe_ifExp (pt_cmpR op_eq (pv 10) pe_str (nomark _)) (pe_ix ix_list (pv 6) (pe_un un_neg pe_int) (fun _ _ => rfl)) (pe_ix ix_list (pe_op op_cat (pv 6) (pv 6)) pe_int (fun _ _ => rfl))))
      (pss_one (ps_if (PW.pt (pw_and (pt_cmpR op_gt (pv 13) pe_int (nomark _)) (pw_and1 (pt_cmpR op_ne (pe_fn h_moved hr (by rfl) (pa_cons (pv 4) (pa_cons (pv 12) (pa_cons (pv 11) pa_nil)))) (pv 5) (nomark _))))) (pss_one (ps_ret pe_bl)) pss_nil))))))))))))))
      (pss_one (ps_ret (pe_and (pe_cmpR op_eq (pe_fn h_moved hr (by rfl) (pa_cons pe_int (pa_cons pe_int (pa_cons pe_str pa_nil)))) pe_int (nomark _)) (pe_and (pe_cmpR op_eq (pe_fn h_moved hr (by rfl) (pa_cons pe_int (pa_cons pe_int (pa_cons pe_str pa_nil)))) pe_int (nomark _)) (pe_one (pe_cmpR (op_eqD hr.units) (pe_fn h_figures hr (by rfl) (pa_cons pe_int (pa_cons pe_int pa_nil))) (pe_lst (pa_cons pe_int (pa_cons pe_int pa_nil))) (nomark _))))))))), ?_⟩
    -- _law_whole
    refine q_asg (v := vi ((ns.take 63).sum.natAbs % 10 ^ 60)) (ev_is (ev_op (ev_abs (ev_sum (ns := ns.take 63) (eq_new (el_is (el_cut (eq_old (ev_var rfl) hS) eo_none (eo_some ev_c)) ?_)))) (ev_op ev_c ev_c (rv_I ⟨by decide, by decide, by decide⟩)) (rv_I (by decide +kernel))) ?_) fun H1 e1 => ?_
    · rw [show (63 : Int) = ((63 : Nat) : Int) from rfl, cutV_to, List.map_take]
    · rfl
    generalize (ns.take 63).sum.natAbs % 10 ^ 60 = wh
    have hS1 := ex_l e1 hS
    obtain ⟨L, hL⟩ : ∃ L : List Int, L = ns.take 8 ++ [4, 77] := ⟨_, rfl⟩
    refine q_forE (xs := L.map V.int) (eq_new (el_is (el_cat (es_new (el_cut (eq_old (ev_var rfl) hS1) eo_none (eo_some ev_c))) (es_new (el_lst (ea_cons ev_c (ea_cons ev_c ea_nil)) (show 2 ≤ 100000 by decide))) ?_) ?_))
      (fun p i σ' H' => ∃ r2 r3 r4 r5 r6 r7 r8 r9 r10 r11 r12 r13 r14, σ' = [some (.ref a), some (vi wh), r2, r3, r4, r5, r6, r7, r8, r9, r10, r11, r12, r13, r14] ∧ SqL K H' p (L.map V.int))
      (fun p H2 e2 hp => ⟨none, none, none, none, none, none, none, none, none, none, none, none, none, rfl, hp⟩)
      (fun p i σ' H' _ ⟨_, _, _, _, _, _, _, _, _, _, _, _, _, _, z⟩ => z) ?_ ?_
    · have q1 := cutV_length (ns.map V.int) none (some 8)
      rw [List.length_map] at q1
      simp only [List.length_cons, List.length_nil]
      omega
    · rw [show (8 : Int) = ((8 : Nat) : Int) from rfl, cutV_to, ← List.map_take, show ([V.int 4, V.int 77] : List V) = [(4 : Int), 77].map V.int from rfl, ← List.map_append, hL]
    · rintro p i x σ' H2 hx ⟨r2, r3, r4, r5, r6, r7, r8, r9, r10, r11, r12, r13, r14, rfl, hp⟩ H3 e3
      obtain ⟨c, hc, rfl⟩ : ∃ c : Int, L[i]? = some c ∧ x = .int c := by
        rw [List.getElem?_map] at hx
        cases e : L[i]? with
        | none => rw [e] at hx; cases hx
        | some c => rw [e] at hx; exact ⟨c, rfl, (Option.some.inj hx).symm⟩
      have hi : i < 10 := by
        have := (List.getElem?_eq_some_iff.mp hc).1
        rw [hL, List.length_append, List.length_take] at this
        simp only [List.length_cons, List.length_nil] at this
        omega
      replace hp := ex_l e3 hp
      -- _law_base
      refine q_asg (v := vi (3 + (wh + i) % 34)) (ev_is (ev_op ev_c (ev_op (ev_op (ev_var rfl) (ev_var rfl) rv_I0) ev_c (rv_I (by decide))) rv_I0) rfl) fun H4 e4 => ?_
      have hb : 3 ≤ 3 + (wh + i) % 34 ∧ 3 + (wh + i) % 34 ≤ 36 := by omega
      generalize 3 + (wh + i) % 34 = b at *
      -- _law_number_here
      refine q_asg (v := vi (1 + (lnum c ((i : Int) + 1) wh).natAbs % tt4 i)) (ev_is (ev_op ev_c (ev_op (ev_abs (ev_fn (ea_cons (ev_var rfl) (ea_cons (ev_op (ev_var rfl) ev_c rv_I0) (ea_cons (ev_var rfl) ea_nil))) fun _ _ => ⟨c, (i : Int) + 1, wh, rfl, by omega, by omega, rfl⟩))
        (ev_ixU (eu_tup (ea_cons ev_c (ea_cons ev_c (ea_cons (ev_op ev_c ev_c (rv_I ⟨by decide, by decide, by decide⟩)) (ea_cons (ev_op ev_c ev_c (rv_I ⟨by decide, by decide, by decide⟩)) ea_nil)))) (show 4 ≤ 100000 by decide)) (ev_op (ev_var rfl) ev_c (rv_I (by decide))) (tt4_at i)) (rv_I ?_)) rv_I0) rfl) fun H5 e5 => ?_
      · have := (tt4_pos i).1
        show (0 : Int) < (tt4 i : Int)
        omega
      have hn : 1 ≤ 1 + (lnum c ((i : Int) + 1) wh).natAbs % tt4 i ∧ 1 + (lnum c ((i : Int) + 1) wh).natAbs % tt4 i < 2 ^ 200 := by
        have h1 := tt4_pos i
        have h2 := Nat.mod_lt (lnum c ((i : Int) + 1) wh).natAbs h1.1
        have h3 : (10 : Nat) ^ 60 + 1 < 2 ^ 200 := by decide
        omega
      generalize 1 + (lnum c ((i : Int) + 1) wh).natAbs % tt4 i = n at *
      have hn5 : n < 2 ^ 50000 := Nat.lt_of_lt_of_le hn.2 (Nat.pow_le_pow_right (by decide) (by decide))
      have hfl := figs_len2 (b := b) (by omega) hn.2
      have hfp := figs_len_pos (b := b) (n := n) (by omega) (by omega)
      -- _law_row
      refine q_asgL (el_fn (ea_cons (ev_var rfl) (ea_cons (ev_var rfl) ea_nil)) fun _ _ => ⟨b, n, rfl, by omega, hb.2, hn5, rfl⟩) fun q H6 nq e6 hq => ?_
      replace hp := ex_l ((e4.trans e5).trans e6) hp
      -- for _law_again in range(2)
      refine q_forR1 (n := 2) (ea_cons ev_c ea_nil) ⟨by decide, by decide⟩ (fun _ σ' H' => ∃ r7 r8 r14, σ' = [some (.ref a), some (vi wh), some (vi i), some (.int c), some (vi b), some (vi n), some (.ref q), r7, r8, r9, r10, r11, r12, r13, r14] ∧ Ex H6 H')
        (fun H7 e7 => ⟨r7, r8, r14, rfl, e7⟩) ?_ ?_
      · rintro j σ' H7 hj ⟨r7, r8, r14, rfl, e7⟩
        refine q_asgL (el_fn (ea_cons (ev_var rfl) (ea_cons (ev_var rfl) ea_nil)) fun _ _ => ⟨b, n, rfl, hb.1, hb.2, hn.1, hn5, rfl⟩) fun l H8 nl e8 hl => ?_
        have hq8 := e8 _ _ (e7 _ _ hq)
        refine q_when (b := false) (et_is (et_or (et_not (et_B (ev_isiS (b := true) (es_old (ev_var rfl) hl) (by decide +kernel)))) fun _ => et_or (et_test (ev_neN (eq_of (es_old (ev_var rfl) hl)) (eq_of (es_old (ev_var rfl) hq8)))) fun _ =>
          et_B (ev_any (bs := (figs b n).map fun _ => false) (eq_new (el_is (el_lcL (fun _ => true) (fun _ => V.bl false) (ev_var rfl) (sq_of hl) (by rw [List.length_map]; omega) (fun x => rfl) (fun i x H3 e3 _ => et_yes) (fun i x H3 e3 hx _ => ?_)) ?_)))) ?_) (fun z => nomatch z) fun _ H9 e9 => ?_
        · obtain ⟨d, hd, rfl⟩ := get_vl hx
          exact ev_isiI (ev_var rfl) (by decide +kernel)
        · rw [given_all, List.length_map, List.map_map]
          apply List.ext_getElem
          · simp
          · intro i q1 q2
            simp
        · rw [decide_eq_true rfl]
          have : ((figs b n).map fun _ => false).any id = false := by simp
          rw [this]
          rfl
        · refine s_app (e9 _ _ hl) (ev_var rfl) ev_c (by rw [List.length_map]; omega) fun H10 e10 => ⟨_, _, _, rfl, ?_⟩
          exact Ex.mut (((e7.trans e8).trans e9).trans e10) (fresh_back e7 nl)
      · rintro σ' H7 ⟨r7, r8, r14, rfl, e7⟩
        have hq7 := e7 _ _ hq
        -- _law_handed
        refine q_asgL (el_list (eq_old (ev_var rfl) (sq_of hq7))) fun l H8 nl e8 hl => ?_
        have hq8 := e8 _ _ hq7
        have hhead : ∃ d, (figs b n)[0]? = some d ∧ 0 < d := by
          have g : (figs b n)[0]? = some (figs b n)[0] := List.getElem?_eq_getElem hfp
          exact ⟨_, g, figs_head (by omega) n _ g⟩
        refine q_when (b := false) (et_is (et_or (et_test (ev_op (ev_fn (ea_cons (ev_var rfl) (ea_cons (ev_var rfl) ea_nil)) fun H9 e9 => ⟨b, l, figs b n, rfl, hb.1, hb.2, e9 _ _ hl, by omega, figs_lt (by omega) n, hhead, rfl⟩) (ev_var rfl) (rv_ne rfl))) fun _ =>
          et_test (ev_neN (eq_of (es_old (ev_var rfl) hl)) (eq_of (es_old (ev_var rfl) hq8)))) ?_) (fun z => nomatch z) fun _ H9 e9 => ?_
        · rw [wr_figs (by omega), decide_eq_true rfl, decide_eq_true rfl]
          rfl
        -- the two sides
        have hq9 := e9 _ _ hq8
        replace hp := ex_l ((e7.trans e8).trans e9) hp
        refine s_forTT (ts := [[vs' true, vs' false], [vs' false, vs' true]]) (elt_lst (eat_cons (eu_tup (ea_cons ev_c (ea_cons ev_c ea_nil)) (show 2 ≤ 100000 by decide)) (eat_cons (eu_tup (ea_cons ev_c (ea_cons ev_c ea_nil)) (show 2 ≤ 100000 by decide)) eat_nil)) (show 2 ≤ 100000 by decide))
          (by intro t ht; simp at ht; rcases ht with rfl | rfl <;> rfl)
          (fun H0 _ σ' H' => ∃ r10 r11 r12 r13, σ' = [some (.ref a), some (vi wh), some (vi i), some (.int c), some (vi b), some (vi n), some (.ref q), r7, r8, some (.ref l), r10, r11, r12, r13, r14] ∧ Ex H0 H')
          (fun H0 e0 => ⟨_, _, _, _, rfl, Ex.refl _⟩) (fun H0 i σ' H' ⟨_, _, _, _, _, z⟩ => z) ?_ ?_
        · rintro H0 j t σ' H10 e0 ht ⟨r10, r11, r12, r13, rfl, e10⟩
          obtain ⟨fr, rfl⟩ : ∃ fr : Bool, t = [vs' fr, vs' (!fr)] := by
            match j, ht with
            | 0, ht => exact ⟨true, (Option.some.inj ht).symm⟩
            | 1, ht => exact ⟨false, (Option.some.inj ht).symm⟩
          refine ⟨vs' fr, [vs' (!fr)], rfl, vs' (!fr), [], rfl, rfl, ?_⟩
          have hq10 := e10 _ _ (e0 _ _ hq9)
          refine q_asg (ev_fn (ea_cons (ev_var rfl) (ea_cons (ev_var rfl) (ea_cons (ev_var rfl) ea_nil))) fun _ _ => ⟨b, n, fr, rfl, hb.1, hb.2, hn.1, hn5, rfl⟩) fun H11 e11 => ?_
          refine q_when (b := false) (et_is (et_or (et_B (ev_isiI (b := false) (ev_var rfl) (by decide +kernel))) fun _ => et_test (ev_op (ev_var rfl) (ev_fn (ea_cons (ev_var rfl) (ea_cons (ev_var rfl) (ea_cons (ev_var rfl) ea_nil))) fun _ _ => ⟨b, n, fr, rfl, by omega, hb.2, hn.1, hn5, rfl⟩) (rv_ne rfl))) ?_) (fun z => nomatch z) fun _ H12 e12 => ?_
          · rw [decide_eq_true rfl]
            rfl
          have hq12 := e12 _ _ (e11 _ _ hq10)
          obtain ⟨d, hd⟩ : ∃ d, (rot fr (figs b n))[0]? = some d := ⟨_, List.getElem?_eq_getElem (by rw [rot_len]; exact hfp)⟩
          refine q_asg (v := vi d) (ev_if (b := fr) (et_is (et_test (ev_op (ev_var rfl) ev_c (rv_eq rfl))) (sd_eq fr)) (fun hf => ?_) (fun hf => ?_)) fun H13 e13 => ?_
          · subst hf
            obtain ⟨dl, hdl⟩ : ∃ d, (figs b n)[(figs b n).length - 1]? = some d := ⟨_, List.getElem?_eq_getElem (by omega)⟩
            have := first_F hdl
            rw [this] at hd
            have hd' := Option.some.inj hd
            subst hd'
            exact ev_ix (eq_old (ev_var rfl) (sq_of hq12)) (ev_un ev_c ru_neg) (atI_lastN hdl)
          · subst hf
            obtain ⟨dl, hdl⟩ : ∃ d, (figs b n ++ figs b n)[1]? = some d := ⟨_, List.getElem?_eq_getElem (by rw [List.length_append]; omega)⟩
            have := first_B hfp hdl
            rw [this] at hd
            have hd' := Option.some.inj hd
            subst hd'
            refine ev_ix (eq_new (el_is (el_cat (es_old (ev_var rfl) hq12) (es_old (ev_var rfl) hq12) (by rw [List.length_map]; omega)) (vl_app _ _).symm)) ev_c (atI_natN hdl)
          have fin : ∀ H14, Ex H13 H14 → ∃ r10 r11 r12 r13, ([some (.ref a), some (vi wh), some (vi i), some (.int c), some (vi b), some (vi n), some (.ref q), r7, r8, some (.ref l), some (vs' fr), some (vs' !fr), some (vi (mv b n fr)), some (vi d), r14] : L2.St) = [some (.ref a), some (vi wh), some (vi i), some (.int c), some (vi b), some (vi n), some (.ref q), r7, r8, some (.ref l), r10, r11, r12, r13, r14] ∧ Ex H0 H14 := fun H14 e14 => ⟨_, _, _, _, rfl, (((e10.trans e11).trans e12).trans e13).trans e14⟩
          refine s_when (b := false) (et_is (a := decide (0 < d) && false) (et_and (et_is (et_test (ev_op (ev_var rfl) ev_c rv_I0)) ?_) fun hd0 => et_is (et_test (ev_op (ev_fn (v := vi n) (ea_cons (ev_var rfl) (ea_cons (ev_var rfl) (ea_cons (ev_var rfl) ea_nil))) fun _ _ => ?_) (ev_var rfl) (rv_ne rfl))) ?_) ?_) (fun z => nomatch z) fun _ H14 e14 => fin H14 e14
          · by_cases z : 0 < d
            · rw [decide_eq_true z, decide_eq_true (show (0 : Int) < (d : Int) by omega)]
            · rw [decide_eq_false z, decide_eq_false (show ¬ (0 : Int) < (d : Int) by omega)]
          · have hd1 : ∀ d', (rot fr (figs b n))[0]? = some d' → 0 < d' := fun d' h' => by
              rw [hd] at h'
              rw [← Option.some.inj h']
              exact of_decide_eq_true hd0
            refine ⟨b, mv b n fr, !fr, rfl, hb.1, hb.2, mv_pos (by omega) n fr hd1 (by omega), ?_, ?_⟩
            · have h1 := mv_lt (b := b) (by omega) n fr
              have h2 : b ^ (figs b n).length ≤ (2 ^ 6) ^ 200 := Nat.le_trans (Nat.pow_le_pow_left (by omega) _) (Nat.pow_le_pow_right (by decide) hfl)
              have h3 : ((2 : Nat) ^ 6) ^ 200 ≤ 2 ^ 50000 := by
                rw [← Nat.pow_mul]
                exact Nat.pow_le_pow_right (by decide) (by decide)
              exact Nat.lt_of_lt_of_le h1 (Nat.le_trans h2 h3)
            · rw [mv_back (by omega) n fr hd1]
          · rw [decide_eq_true rfl]
            rfl
          · rw [Bool.and_false]
        · rintro H0 σ' H10 e0 ⟨r10, r11, r12, r13, rfl, e10⟩
          exact ⟨_, _, _, _, _, _, _, _, _, _, _, _, _, rfl, ex_l (e0.trans e10) hp⟩
    · rintro p σ' H2 ⟨r2, r3, r4, r5, r6, r7, r8, r9, r10, r11, r12, r13, r14, rfl, hp⟩
      refine s_ret (v := .bl true) (ev_is (ev_andV (ev_is (ev_op (ev_fn (v := vi 714285) (ea_cons ev_c (ea_cons ev_c (ea_cons ev_c ea_nil))) fun _ _ => ⟨10, 142857, true, rfl, by decide, by decide, by decide, ?_, ?_⟩) ev_c (rv_eq rfl)) (w := .bl true) ?_) fun _ =>
        ev_andV (b := true) (ev_is (ev_op (ev_fn (v := vi 21) (ea_cons ev_c (ea_cons ev_c (ea_cons ev_c ea_nil))) fun _ _ => ⟨10, 102, false, rfl, by decide, by decide, by decide, ?_, ?_⟩) ev_c (rv_eq rfl)) (w := .bl true) ?_) fun _ =>
        ev_is (ev_eqN (ns := [15, 15]) (ms := [15, 15]) (eq_new (el_fn (ea_cons ev_c (ea_cons ev_c ea_nil)) fun _ _ => ⟨16, 255, rfl, by decide, by decide, by decide, ?_, ?_⟩)) (eq_new (el_lst (ea_cons ev_c (ea_cons ev_c ea_nil)) (show 2 ≤ 100000 by decide)))) ?_) ?_) fun H3 e3 => k H3
      · exact Nat.lt_of_lt_of_le (show 142857 < 2 ^ 18 by decide) (Nat.pow_le_pow_right (by decide) (by decide))
      · decide +kernel
      · decide +kernel
      · exact Nat.lt_of_lt_of_le (show 102 < 2 ^ 18 by decide) (Nat.pow_le_pow_right (by decide) (by decide))
      · decide +kernel
      · decide +kernel
      · exact Nat.lt_of_lt_of_le (show 255 < 2 ^ 18 by decide) (Nat.pow_le_pow_right (by decide) (by decide))
      · decide +kernel
      · decide +kernel
      · rfl
end
end Tf

namespace Tf
open PySem PySem.Spec PyProof.Rows L2 Evl
theorem all_mk {l : PySem.W.OpenLaw} {w : World} {K : PySem.W.Frag} {h : Heap} {mg : Str → Option Value} {fa f0 f1 f2 f3 f4 f5 f6 f7 f8 f9 f10 f11 f12 f13 f14 : Addr} (X : K.In h) (G : h.Ns mainGlobals mg) (hfa : mg "law" = some (.ref fa))
    {aS : Addr} {tS1 tS2 : Tok} {nS : Nat} {odS : Option Addr} {slS : Array (Option Value)}
    {od0 an0 : Option Addr} {sl0 : Array (Option Value)} {oc0 kV0 dc0 pm0 cd0 ct0 : Value}
    (a0 : PySem.W.nsIn K mainGlobals "is_whole" = some (some (.ref f0)))
    (l0 : K.lookup f0 = some ⟨oc0, od0, .func (PySem.W.fnOf "is_whole" "is_whole" (defArgs s_is_whole) (defBody s_is_whole) (defScope s_is_whole) .none kV0 dc0 pm0 an0 cd0 ct0), sl0⟩) (c0 : PySem.W.codeIn K cd0 "is_whole" = true) (k0 : PySem.W.keepIn K (.ref f0) = true)
    {od1 an1 : Option Addr} {sl1 : Array (Option Value)} {oc1 kV1 dc1 pm1 cd1 ct1 : Value}
    (a1 : PySem.W.nsIn K mainGlobals "asked_base" = some (some (.ref f1)))
    (l1 : K.lookup f1 = some ⟨oc1, od1, .func (PySem.W.fnOf "asked_base" "asked_base" (defArgs s_asked_base) (defBody s_asked_base) (defScope s_asked_base) .none kV1 dc1 pm1 an1 cd1 ct1), sl1⟩) (c1 : PySem.W.codeIn K cd1 "asked_base" = true) (k1 : PySem.W.keepIn K (.ref f1) = true)
    {od2 an2 : Option Addr} {sl2 : Array (Option Value)} {oc2 kV2 dc2 pm2 cd2 ct2 : Value}
    (a2 : PySem.W.nsIn K mainGlobals "asked_number" = some (some (.ref f2)))
    (l2 : K.lookup f2 = some ⟨oc2, od2, .func (PySem.W.fnOf "asked_number" "asked_number" (defArgs s_asked_number) (defBody s_asked_number) (defScope s_asked_number) .none kV2 dc2 pm2 an2 cd2 ct2), sl2⟩) (c2 : PySem.W.codeIn K cd2 "asked_number" = true) (k2 : PySem.W.keepIn K (.ref f2) = true)
    {od3 an3 : Option Addr} {sl3 : Array (Option Value)} {oc3 kV3 dc3 pm3 cd3 ct3 : Value}
    (a3 : PySem.W.nsIn K mainGlobals "asked_side" = some (some (.ref f3)))
    (l3 : K.lookup f3 = some ⟨oc3, od3, .func (PySem.W.fnOf "asked_side" "asked_side" (defArgs s_asked_side) (defBody s_asked_side) (defScope s_asked_side) .none kV3 dc3 pm3 an3 cd3 ct3), sl3⟩) (c3 : PySem.W.codeIn K cd3 "asked_side" = true) (k3 : PySem.W.keepIn K (.ref f3) = true)
    {od4 an4 : Option Addr} {sl4 : Array (Option Value)} {oc4 kV4 dc4 pm4 cd4 ct4 : Value}
    (a4 : PySem.W.nsIn K mainGlobals "figures_of" = some (some (.ref f4)))
    (l4 : K.lookup f4 = some ⟨oc4, od4, .func (PySem.W.fnOf "figures_of" "figures_of" (defArgs s_figures_of) (defBody s_figures_of) (defScope s_figures_of) .none kV4 dc4 pm4 an4 cd4 ct4), sl4⟩) (c4 : PySem.W.codeIn K cd4 "figures_of" = true) (k4 : PySem.W.keepIn K (.ref f4) = true)
    {od5 an5 : Option Addr} {sl5 : Array (Option Value)} {oc5 kV5 dc5 pm5 cd5 ct5 : Value}
    (a5 : PySem.W.nsIn K mainGlobals "figures" = some (some (.ref f5)))
    (l5 : K.lookup f5 = some ⟨oc5, od5, .func (PySem.W.fnOf "figures" "figures" (defArgs s_figures) (defBody s_figures) (defScope s_figures) .none kV5 dc5 pm5 an5 cd5 ct5), sl5⟩) (c5 : PySem.W.codeIn K cd5 "figures" = true) (k5 : PySem.W.keepIn K (.ref f5) = true)
    {od6 an6 : Option Addr} {sl6 : Array (Option Value)} {oc6 kV6 dc6 pm6 cd6 ct6 : Value}
    (a6 : PySem.W.nsIn K mainGlobals "worth" = some (some (.ref f6)))
    (l6 : K.lookup f6 = some ⟨oc6, od6, .func (PySem.W.fnOf "worth" "worth" (defArgs s_worth) (defBody s_worth) (defScope s_worth) .none kV6 dc6 pm6 an6 cd6 ct6), sl6⟩) (c6 : PySem.W.codeIn K cd6 "worth" = true) (k6 : PySem.W.keepIn K (.ref f6) = true)
    {od7 an7 : Option Addr} {sl7 : Array (Option Value)} {oc7 kV7 dc7 pm7 cd7 ct7 : Value}
    (a7 : PySem.W.nsIn K mainGlobals "number_of" = some (some (.ref f7)))
    (l7 : K.lookup f7 = some ⟨oc7, od7, .func (PySem.W.fnOf "number_of" "number_of" (defArgs s_number_of) (defBody s_number_of) (defScope s_number_of) .none kV7 dc7 pm7 an7 cd7 ct7), sl7⟩) (c7 : PySem.W.codeIn K cd7 "number_of" = true) (k7 : PySem.W.keepIn K (.ref f7) = true)
    {od8 an8 : Option Addr} {sl8 : Array (Option Value)} {oc8 kV8 dc8 pm8 cd8 ct8 : Value}
    (a8 : PySem.W.nsIn K mainGlobals "moved_of" = some (some (.ref f8)))
    (l8 : K.lookup f8 = some ⟨oc8, od8, .func (PySem.W.fnOf "moved_of" "moved_of" (defArgs s_moved_of) (defBody s_moved_of) (defScope s_moved_of) .none kV8 dc8 pm8 an8 cd8 ct8), sl8⟩) (c8 : PySem.W.codeIn K cd8 "moved_of" = true) (k8 : PySem.W.keepIn K (.ref f8) = true)
    {od9 an9 : Option Addr} {sl9 : Array (Option Value)} {oc9 kV9 dc9 pm9 cd9 ct9 : Value}
    (a9 : PySem.W.nsIn K mainGlobals "moved" = some (some (.ref f9)))
    (l9 : K.lookup f9 = some ⟨oc9, od9, .func (PySem.W.fnOf "moved" "moved" (defArgs s_moved) (defBody s_moved) (defScope s_moved) .none kV9 dc9 pm9 an9 cd9 ct9), sl9⟩) (c9 : PySem.W.codeIn K cd9 "moved" = true) (k9 : PySem.W.keepIn K (.ref f9) = true)
    {od10 an10 : Option Addr} {sl10 : Array (Option Value)} {oc10 kV10 dc10 pm10 cd10 ct10 : Value}
    (a10 : PySem.W.nsIn K mainGlobals "_law_number" = some (some (.ref f10)))
    (l10 : K.lookup f10 = some ⟨oc10, od10, .func (PySem.W.fnOf "_law_number" "_law_number" (defArgs s__law_number) (defBody s__law_number) (defScope s__law_number) .none kV10 dc10 pm10 an10 cd10 ct10), sl10⟩) (c10 : PySem.W.codeIn K cd10 "_law_number" = true) (k10 : PySem.W.keepIn K (.ref f10) = true)
    {od11 an11 : Option Addr} {sl11 : Array (Option Value)} {oc11 kV11 dc11 pm11 cd11 ct11 : Value}
    (a11 : PySem.W.nsIn K mainGlobals "_law_figures" = some (some (.ref f11)))
    (l11 : K.lookup f11 = some ⟨oc11, od11, .func (PySem.W.fnOf "_law_figures" "_law_figures" (defArgs s__law_figures) (defBody s__law_figures) (defScope s__law_figures) .none kV11 dc11 pm11 an11 cd11 ct11), sl11⟩) (c11 : PySem.W.codeIn K cd11 "_law_figures" = true) (k11 : PySem.W.keepIn K (.ref f11) = true)
    {od12 an12 : Option Addr} {sl12 : Array (Option Value)} {oc12 kV12 dc12 pm12 cd12 ct12 : Value}
    (a12 : PySem.W.nsIn K mainGlobals "_law_worth" = some (some (.ref f12)))
    (l12 : K.lookup f12 = some ⟨oc12, od12, .func (PySem.W.fnOf "_law_worth" "_law_worth" (defArgs s__law_worth) (defBody s__law_worth) (defScope s__law_worth) .none kV12 dc12 pm12 an12 cd12 ct12), sl12⟩) (c12 : PySem.W.codeIn K cd12 "_law_worth" = true) (k12 : PySem.W.keepIn K (.ref f12) = true)
    {od13 an13 : Option Addr} {sl13 : Array (Option Value)} {oc13 kV13 dc13 pm13 cd13 ct13 : Value}
    (a13 : PySem.W.nsIn K mainGlobals "_law_moved" = some (some (.ref f13)))
    (l13 : K.lookup f13 = some ⟨oc13, od13, .func (PySem.W.fnOf "_law_moved" "_law_moved" (defArgs s__law_moved) (defBody s__law_moved) (defScope s__law_moved) .none kV13 dc13 pm13 an13 cd13 ct13), sl13⟩) (c13 : PySem.W.codeIn K cd13 "_law_moved" = true) (k13 : PySem.W.keepIn K (.ref f13) = true)
    {od14 an14 : Option Addr} {sl14 : Array (Option Value)} {oc14 kV14 dc14 pm14 cd14 ct14 : Value}
    (a14 : PySem.W.nsIn K mainGlobals "law" = some (some (.ref f14)))
    (l14 : K.lookup f14 = some ⟨oc14, od14, .func (PySem.W.fnOf "law" "law" (defArgs s_law) (defBody s_law) (defScope s_law) .none kV14 dc14 pm14 an14 cd14 ct14), sl14⟩) (c14 : PySem.W.codeIn K cd14 "law" = true) (k14 : PySem.W.keepIn K (.ref f14) = true)
    (z0 : PySem.W.nsIn K mainGlobals "isinstance" = some none)
    (z1 : PySem.W.nsIn K mainGlobals "int" = some none)
    (z2 : PySem.W.nsIn K mainGlobals "bool" = some none)
    (z3 : PySem.W.nsIn K mainGlobals "str" = some none)
    (z4 : PySem.W.nsIn K mainGlobals "list" = some none)
    (z5 : PySem.W.nsIn K mainGlobals "all" = some none)
    (z6 : PySem.W.nsIn K mainGlobals "any" = some none)
    (z7 : PySem.W.nsIn K mainGlobals "abs" = some none)
    (z8 : PySem.W.nsIn K mainGlobals "sum" = some none)
    (z9 : PySem.W.nsIn K mainGlobals "range" = some none)
    (z10 : PySem.W.nsIn K mainGlobals "enumerate" = some none)
    (gS : PySem.W.nsIn K mainGlobals "SIDES" = some (some (.ref aS)))
    (lS : K.lookup aS = some ⟨.type "tuple", odS, .seq #[.str "front" tS1, .str "behind" tS2] nS, slS⟩)
    : ∃ fd : FuncData, (∀ (s : Shared) (v : Value), BindsTo s fd ⟨[v], []⟩ [("_law_script", v)]) ∧ ∀ base : Heap, K.In base → base.Ns mainGlobals mg → FnOk l.prog w K mg base CX0 4 fa fd P_law (spLaw K) := by
  have e := hfa.symm.trans (PySem.W.mg_of X G a14)
  cases e
  have T : Nm mg := ⟨PySem.W.mg_none_of X G z0, PySem.W.mg_none_of X G z1, PySem.W.mg_none_of X G z2, PySem.W.mg_none_of X G z3, PySem.W.mg_none_of X G z4, PySem.W.mg_none_of X G z5, PySem.W.mg_none_of X G z6, PySem.W.mg_none_of X G z7, PySem.W.mg_none_of X G z8, PySem.W.mg_none_of X G z9, PySem.W.mg_none_of X G z10⟩
  have S : Sides K mg aS := ⟨PySem.W.mg_of X G gS, fun H => .inr ⟨_, _, _, lS, rfl, rfl, (by show 2 ≤ sizeLine; decide), .cons ⟨_, rfl⟩ (.cons ⟨_, rfl⟩ .nil)⟩⟩
  have F_is_whole := fun_mk (st := s_is_whole) l0 c0 k0
  have b_is_whole := F_is_whole.binds (ps := P_is_whole) fun _ _ _ _ _ _ us hl => match us, hl with | [_], _ => rfl
  have H_is_whole : ∀ base : Heap, Has l.prog w K mg base "is_whole" P_is_whole _ _ := fun base => ⟨⟨_, _, PySem.W.mg_of X G a0, k0, b_is_whole, ok_is_whole T F_is_whole⟩⟩
  have F_asked_base := fun_mk (st := s_asked_base) l1 c1 k1
  have b_asked_base := F_asked_base.binds (ps := P_asked_base) fun _ _ _ _ _ _ us hl => match us, hl with | [_], _ => rfl
  have H_asked_base : ∀ base : Heap, Has l.prog w K mg base "asked_base" P_asked_base _ _ := fun base => ⟨⟨_, _, PySem.W.mg_of X G a1, k1, b_asked_base, ok_asked_base F_asked_base (H_is_whole base)⟩⟩
  have F_asked_number := fun_mk (st := s_asked_number) l2 c2 k2
  have b_asked_number := F_asked_number.binds (ps := P_asked_number) fun _ _ _ _ _ _ us hl => match us, hl with | [_], _ => rfl
  have H_asked_number : ∀ base : Heap, Has l.prog w K mg base "asked_number" P_asked_number _ _ := fun base => ⟨⟨_, _, PySem.W.mg_of X G a2, k2, b_asked_number, ok_asked_number F_asked_number (H_is_whole base)⟩⟩
  have F_asked_side := fun_mk (st := s_asked_side) l3 c3 k3
  have b_asked_side := F_asked_side.binds (ps := P_asked_side) fun _ _ _ _ _ _ us hl => match us, hl with | [_], _ => rfl
  have H_asked_side : ∀ base : Heap, Has l.prog w K mg base "asked_side" P_asked_side _ _ := fun base => ⟨⟨_, _, PySem.W.mg_of X G a3, k3, b_asked_side, ok_asked_side T S F_asked_side⟩⟩
  have F_figures_of := fun_mk (st := s_figures_of) l4 c4 k4
  have b_figures_of := F_figures_of.binds (ps := P_figures_of) fun _ _ _ _ _ _ us hl => match us, hl with | [_, _], _ => rfl
  have H_figures_of : ∀ base : Heap, Has l.prog w K mg base "figures_of" P_figures_of _ _ := fun base => ⟨⟨_, _, PySem.W.mg_of X G a4, k4, b_figures_of, ok_figures_of F_figures_of⟩⟩
  have F_figures := fun_mk (st := s_figures) l5 c5 k5
  have b_figures := F_figures.binds (ps := P_figures) fun _ _ _ _ _ _ us hl => match us, hl with | [_, _], _ => rfl
  have H_figures : ∀ base : Heap, Has l.prog w K mg base "figures" P_figures _ _ := fun base => ⟨⟨_, _, PySem.W.mg_of X G a5, k5, b_figures, ok_figures F_figures (H_asked_base base) (H_asked_number base) (H_figures_of base)⟩⟩
  have F_worth := fun_mk (st := s_worth) l6 c6 k6
  have b_worth := F_worth.binds (ps := P_worth) fun _ _ _ _ _ _ us hl => match us, hl with | [_, _], _ => rfl
  have H_worth : ∀ base : Heap, Has l.prog w K mg base "worth" P_worth _ _ := fun base => ⟨⟨_, _, PySem.W.mg_of X G a6, k6, b_worth, ok_worth F_worth⟩⟩
  have F_number_of := fun_mk (st := s_number_of) l7 c7 k7
  have b_number_of := F_number_of.binds (ps := P_number_of) fun _ _ _ _ _ _ us hl => match us, hl with | [_, _], _ => rfl
  have H_number_of : ∀ base : Heap, Has l.prog w K mg base "number_of" P_number_of _ _ := fun base => ⟨⟨_, _, PySem.W.mg_of X G a7, k7, b_number_of, ok_number_of T F_number_of (H_asked_base base) (H_is_whole base) (H_worth base)⟩⟩
  have F_moved_of := fun_mk (st := s_moved_of) l8 c8 k8
  have b_moved_of := F_moved_of.binds (ps := P_moved_of) fun _ _ _ _ _ _ us hl => match us, hl with | [_, _, _], _ => rfl
  have H_moved_of : ∀ base : Heap, Has l.prog w K mg base "moved_of" P_moved_of _ _ := fun base => ⟨⟨_, _, PySem.W.mg_of X G a8, k8, b_moved_of, ok_moved_of F_moved_of (H_figures_of base) (H_worth base)⟩⟩
  have F_moved := fun_mk (st := s_moved) l9 c9 k9
  have b_moved := F_moved.binds (ps := P_moved) fun _ _ _ _ _ _ us hl => match us, hl with | [_, _, _], _ => rfl
  have H_moved : ∀ base : Heap, Has l.prog w K mg base "moved" P_moved _ _ := fun base => ⟨⟨_, _, PySem.W.mg_of X G a9, k9, b_moved, ok_moved F_moved (H_asked_base base) (H_asked_number base) (H_asked_side base) (H_moved_of base)⟩⟩
  have F__law_number := fun_mk (st := s__law_number) l10 c10 k10
  have b__law_number := F__law_number.binds (ps := P__law_number) fun _ _ _ _ _ _ us hl => match us, hl with | [_, _, _], _ => rfl
  have H__law_number : ∀ base : Heap, Has l.prog w K mg base "_law_number" P__law_number _ _ := fun base => ⟨⟨_, _, PySem.W.mg_of X G a10, k10, b__law_number, ok__law_number T F__law_number⟩⟩
  have F__law_figures := fun_mk (st := s__law_figures) l11 c11 k11
  have b__law_figures := F__law_figures.binds (ps := P__law_figures) fun _ _ _ _ _ _ us hl => match us, hl with | [_, _], _ => rfl
  have H__law_figures : ∀ base : Heap, Has l.prog w K mg base "_law_figures" P__law_figures _ _ := fun base => ⟨⟨_, _, PySem.W.mg_of X G a11, k11, b__law_figures, ok__law_figures F__law_figures⟩⟩
  have F__law_worth := fun_mk (st := s__law_worth) l12 c12 k12
  have b__law_worth := F__law_worth.binds (ps := P__law_worth) fun _ _ _ _ _ _ us hl => match us, hl with | [_, _], _ => rfl
  have H__law_worth : ∀ base : Heap, Has l.prog w K mg base "_law_worth" P__law_worth _ _ := fun base => ⟨⟨_, _, PySem.W.mg_of X G a12, k12, b__law_worth, ok__law_worth F__law_worth⟩⟩
  have F__law_moved := fun_mk (st := s__law_moved) l13 c13 k13
  have b__law_moved := F__law_moved.binds (ps := P__law_moved) fun _ _ _ _ _ _ us hl => match us, hl with | [_, _, _], _ => rfl
  have H__law_moved : ∀ base : Heap, Has l.prog w K mg base "_law_moved" P__law_moved _ _ := fun base => ⟨⟨_, _, PySem.W.mg_of X G a13, k13, b__law_moved, ok__law_moved F__law_moved (H__law_figures base) (H__law_worth base)⟩⟩
  have F_law := fun_mk (st := s_law) l14 c14 k14
  exact ⟨PySem.W.fnOf "law" "law" (defArgs s_law) (defBody s_law) (defScope s_law) .none kV14 dc14 pm14 an14 cd14 ct14, fun s v => .of_eq rfl, fun base _ _ => ok_law T F_law (H__law_number base) (H__law_figures base) (H__law_moved base) (H_figures base) (H_number_of base) (H_moved base)⟩
end Tf
open PySem PySem.W PyProof.Rows
set_option maxRecDepth 100000 in
set_option maxHeartbeats 0 in
theorem PySem.Challenge.cw_turnfigures_k01_whole_moved_holds : PySem.Challenge.rw_turnfigures_k01_whole_moved.Holds := by
  w_on; o_law; k_head; (case hw => w_witness2)
  k_fill
  refine L2.walk_of (l := PySem.Challenge.rw_turnfigures_k01_whole_moved) (n := 63) (k := 4) (x := "_law_script") (CX := fun _ => L2.CX0) (sp := fun w => Tf.spLaw _) rfl (by decide) rfl ⟨rfl, by decide, by decide⟩ (fun w h Y => PySem.W.kIn_of Y) ?F (fun _ _ a ns hl _ hS => ⟨a, ns, rfl, hS, hl, fun _ => rfl⟩) (fun _ _ _ _ _ h => h)
  case F =>
    intro w mg fa h KX G hmg
    refine' Tf.all_mk KX G hmg ?a0 ?l0 ?c0 ?k0 ?a1 ?l1 ?c1 ?k1 ?a2 ?l2 ?c2 ?k2 ?a3 ?l3 ?c3 ?k3 ?a4 ?l4 ?c4 ?k4 ?a5 ?l5 ?c5 ?k5 ?a6 ?l6 ?c6 ?k6 ?a7 ?l7 ?c7 ?k7 ?a8 ?l8 ?c8 ?k8 ?a9 ?l9 ?c9 ?k9 ?a10 ?l10 ?c10 ?k10 ?a11 ?l11 ?c11 ?k11 ?a12 ?l12 ?c12 ?k12 ?a13 ?l13 ?c13 ?k13 ?a14 ?l14 ?c14 ?k14 ?z0 ?z1 ?z2 ?z3 ?z4 ?z5 ?z6 ?z7 ?z8 ?z9 ?z10 ?gS ?lS
    (case a0 => k_is)
    (case l0 => k_is)
    (case c0 => k_is)
    (case k0 => k_is)
    (case a1 => k_is)
    (case l1 => k_is)
    (case c1 => k_is)
    (case k1 => k_is)
    (case a2 => k_is)
    (case l2 => k_is)
    (case c2 => k_is)
    (case k2 => k_is)
    (case a3 => k_is)
    (case l3 => k_is)
    (case c3 => k_is)
    (case k3 => k_is)
    (case a4 => k_is)
    (case l4 => k_is)
    (case c4 => k_is)
    (case k4 => k_is)
    (case a5 => k_is)
    (case l5 => k_is)
    (case c5 => k_is)
    (case k5 => k_is)
    (case a6 => k_is)
    (case l6 => k_is)
    (case c6 => k_is)
    (case k6 => k_is)
    (case a7 => k_is)
    (case l7 => k_is)
    (case c7 => k_is)
    (case k7 => k_is)
    (case a8 => k_is)
    (case l8 => k_is)
    (case c8 => k_is)
    (case k8 => k_is)
    (case a9 => k_is)
    (case l9 => k_is)
    (case c9 => k_is)
    (case k9 => k_is)
    (case a10 => k_is)
    (case l10 => k_is)
    (case c10 => k_is)
    (case k10 => k_is)
    (case a11 => k_is)
    (case l11 => k_is)
    (case c11 => k_is)
    (case k11 => k_is)
    (case a12 => k_is)
    (case l12 => k_is)
    (case c12 => k_is)
    (case k12 => k_is)
    (case a13 => k_is)
    (case l13 => k_is)
    (case c13 => k_is)
    (case k13 => k_is)
    (case a14 => k_is)
    (case l14 => k_is)
    (case c14 => k_is)
    (case k14 => k_is)
    (case z0 => k_is)
    (case z1 => k_is)
    (case z2 => k_is)
    (case z3 => k_is)
    (case z4 => k_is)
    (case z5 => k_is)
    (case z6 => k_is)
    (case z7 => k_is)
    (case z8 => k_is)
    (case z9 => k_is)
    (case z10 => k_is)
    (case gS => k_is)
    (case lS => k_is)
