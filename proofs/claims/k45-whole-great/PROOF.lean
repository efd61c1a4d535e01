import PyProof.Rows.All
import Wide.All
import OpenK.AllK
import Wide.FinOn
import HandS.ForMost
import HandS.Style
import HandS.Star
import HandS.CallLocal
import HandS.IsInst
import HandS.RaiseMore
import HandS.Zip
import HandS.Zip0
import KE.GoesMore
import PySem.Challenge.RW_matedsquares_k45_whole_great_families
set_option Elab.async false
set_option linter.all false
namespace Msq
/-! ### vectors of integers; the multiplication by x modulo a monic polynomial, over the integers -/
abbrev Vc := Nat → Int
def vadd (u v : Vc) : Vc := fun i => u i + v i
def vsub (u v : Vc) : Vc := fun i => u i - v i
def smul (a : Int) (v : Vc) : Vc := fun i => a * v i
def vzero : Vc := fun _ => 0
def eb (n : Nat) : Vc := fun i => if i = n then 1 else 0
def mx (k : Nat) (f : Vc) (v : Vc) : Vc := fun i => if i < k then (if i = 0 then 0 else v (i - 1)) - v (k - 1) * f i else 0
def mxp (k : Nat) (f : Vc) : Nat → Vc → Vc
  | 0, v => v
  | n + 1, v => mx k f (mxp k f n v)
def act (k : Nat) (f : Vc) (a : Vc) : Nat → Vc → Vc
  | 0, _ => vzero
  | n + 1, v => vadd (act k f a n v) (smul (a n) (mxp k f n v))
/-- supported below k -/
def Sup (k : Nat) (v : Vc) : Prop := ∀ i, k ≤ i → v i = 0

section
variable {k : Nat} {f : Vc}
theorem vadd_app (u v : Vc) (i : Nat) : vadd u v i = u i + v i := rfl
theorem vsub_app (u v : Vc) (i : Nat) : vsub u v i = u i - v i := rfl
theorem smul_app (a : Int) (v : Vc) (i : Nat) : smul a v i = a * v i := rfl
theorem vzero_app (i : Nat) : vzero i = 0 := rfl
theorem mx_add (u v : Vc) : mx k f (vadd u v) = vadd (mx k f u) (mx k f v) := by
  funext i
  simp only [mx, vadd]
  split
  · split <;> grind
  · rfl
theorem mx_smul (a : Int) (v : Vc) : mx k f (smul a v) = smul a (mx k f v) := by
  funext i
  simp only [mx, smul]
  split
  · split <;> grind
  · grind
theorem mx_zero : mx k f vzero = vzero := by
  funext i
  simp only [mx, vzero]
  split
  · split <;> simp
  · rfl
theorem mxp_add (n : Nat) (u v : Vc) : mxp k f n (vadd u v) = vadd (mxp k f n u) (mxp k f n v) := by
  induction n with
  | zero => rfl
  | succ n ih => simp only [mxp, ih, mx_add]
theorem mxp_smul (n : Nat) (a : Int) (v : Vc) : mxp k f n (smul a v) = smul a (mxp k f n v) := by
  induction n with
  | zero => rfl
  | succ n ih => simp only [mxp, ih, mx_smul]
theorem mxp_zero (n : Nat) : mxp k f n vzero = vzero := by
  induction n with
  | zero => rfl
  | succ n ih => simp only [mxp, ih, mx_zero]
theorem mxp_mx (n : Nat) (v : Vc) : mxp k f n (mx k f v) = mx k f (mxp k f n v) := by
  induction n with
  | zero => rfl
  | succ n ih => simp only [mxp, ih]
theorem mxp_mxp (n m : Nat) (v : Vc) : mxp k f n (mxp k f m v) = mxp k f (n + m) v := by
  induction n with
  | zero => simp [mxp]
  | succ n ih => rw [show n + 1 + m = (n + m) + 1 by omega]; simp only [mxp, ih]
theorem vadd_zero (v : Vc) : vadd v vzero = v := by funext i; simp [vadd, vzero]
theorem zero_vadd (v : Vc) : vadd vzero v = v := by funext i; simp [vadd, vzero]
theorem smul_zero' (a : Int) : smul a vzero = vzero := by funext i; simp [smul, vzero]
theorem vadd_comm (u v : Vc) : vadd u v = vadd v u := by funext i; simp only [vadd]; omega
theorem vadd_assoc (u v w : Vc) : vadd (vadd u v) w = vadd u (vadd v w) := by funext i; simp only [vadd]; omega
theorem act_vadd (a : Vc) (n : Nat) (u v : Vc) : act k f a n (vadd u v) = vadd (act k f a n u) (act k f a n v) := by
  induction n with
  | zero => simp only [act, vadd_zero]
  | succ n ih =>
    simp only [act, ih, mxp_add]
    funext i
    simp only [vadd, smul]
    grind
theorem act_smul (a : Vc) (n : Nat) (c : Int) (v : Vc) : act k f a n (smul c v) = smul c (act k f a n v) := by
  induction n with
  | zero => simp only [act, smul_zero']
  | succ n ih =>
    simp only [act, ih, mxp_smul]
    funext i
    simp only [vadd, smul]
    grind
theorem act_zero (a : Vc) (n : Nat) : act k f a n vzero = vzero := by
  induction n with
  | zero => rfl
  | succ n ih => simp only [act, ih, mxp_zero, smul_zero', vadd_zero]
theorem act_mx (a : Vc) (n : Nat) (v : Vc) : act k f a n (mx k f v) = mx k f (act k f a n v) := by
  induction n with
  | zero => simp only [act, mx_zero]
  | succ n ih => simp only [act, ih, mx_add, mx_smul, mxp_mx]
theorem act_mxp (a : Vc) (n m : Nat) (v : Vc) : act k f a n (mxp k f m v) = mxp k f m (act k f a n v) := by
  induction m with
  | zero => rfl
  | succ m ih => simp only [mxp, act_mx, ih]
theorem act_comm (a b : Vc) (n m : Nat) (v : Vc) : act k f a n (act k f b m v) = act k f b m (act k f a n v) := by
  induction n with
  | zero => simp only [act, act_zero]
  | succ n ih => simp only [act, ih, act_vadd, act_smul, act_mxp]
/-- .. in the left argument -/
theorem act_addL (a b : Vc) (n : Nat) (v : Vc) : act k f (vadd a b) n v = vadd (act k f a n v) (act k f b n v) := by
  induction n with
  | zero => simp only [act, vadd_zero]
  | succ n ih =>
    simp only [act, ih]
    funext i
    simp only [vadd, smul]
    grind
theorem act_subL (a b : Vc) (n : Nat) (v : Vc) : act k f (vsub a b) n v = vsub (act k f a n v) (act k f b n v) := by
  induction n with
  | zero => funext i; simp [act, vsub, vzero]
  | succ n ih =>
    simp only [act, ih]
    funext i
    simp only [vadd, smul, vsub]
    grind
theorem act_smulL (c : Int) (a : Vc) (n : Nat) (v : Vc) : act k f (smul c a) n v = smul c (act k f a n v) := by
  induction n with
  | zero => simp only [act, smul_zero']
  | succ n ih =>
    simp only [act, ih]
    funext i
    simp only [vadd, smul]
    grind
theorem act_congrL {a b : Vc} {n : Nat} (h : ∀ i, i < n → a i = b i) (v : Vc) : act k f a n v = act k f b n v := by
  induction n with
  | zero => rfl
  | succ n ih => simp only [act, ih fun i hi => h i (by omega), h n (by omega)]
theorem act_more {a : Vc} {n m : Nat} (h : ∀ i, n ≤ i → i < m → a i = 0) (hnm : n ≤ m) (v : Vc) : act k f a m v = act k f a n v := by
  induction m with
  | zero => rw [show n = 0 by omega]
  | succ m ih =>
    by_cases e : n = m + 1
    · rw [e]
    · simp only [act]
      rw [h m (by omega) (by omega), ih (fun i h1 h2 => h i h1 (by omega)) (by omega)]
      funext i
      simp [vadd, smul]
theorem mx_sup (v : Vc) : Sup k (mx k f v) := fun i hi => by
  simp only [mx]
  rw [if_neg (by omega)]
theorem mxp_sup {v : Vc} (h : Sup k v) (n : Nat) : Sup k (mxp k f n v) := by
  cases n with
  | zero => exact h
  | succ n => exact mx_sup _
theorem act_sup {a v : Vc} (h : Sup k v) (n : Nat) : Sup k (act k f a n v) := by
  induction n with
  | zero => intro i _; rfl
  | succ n ih =>
    intro i hi
    simp only [act, vadd, smul]
    rw [ih i hi, mxp_sup h n i hi]
    simp
theorem mxp_eb {n : Nat} (h : n < k) : mxp k f n (eb 0) = eb n := by
  induction n with
  | zero => rfl
  | succ n ih =>
    simp only [mxp, ih (by omega)]
    funext i
    simp only [mx, eb]
    by_cases h1 : i < k
    · rw [if_pos h1]
      rw [if_neg (show ¬ k - 1 = n by omega)]
      by_cases h2 : i = 0
      · subst h2
        rw [if_pos rfl, if_neg (by omega)]
        simp
      · rw [if_neg h2]
        by_cases h3 : i - 1 = n
        · rw [if_pos h3, if_pos (by omega)]; simp
        · rw [if_neg h3, if_neg (by omega)]; simp
    · rw [if_neg h1, if_neg (by omega)]
theorem act_eb (a : Vc) {n : Nat} (h : n ≤ k) : act k f a n (eb 0) = fun i => if i < n then a i else 0 := by
  induction n with
  | zero => funext i; simp [act, vzero]
  | succ n ih =>
    simp only [act, ih (by omega), mxp_eb (show n < k by omega)]
    funext i
    simp only [vadd, smul, eb]
    by_cases h1 : i < n
    · rw [if_pos h1, if_neg (by omega), if_pos (by omega)]; simp
    · by_cases h2 : i = n
      · subst h2
        rw [if_neg h1, if_pos rfl, if_pos (by omega)]; simp
      · rw [if_neg h1, if_neg h2, if_neg (by omega)]; simp
theorem act_eb_sup {a : Vc} (h : Sup k a) : act k f a k (eb 0) = a := by
  rw [act_eb a (Nat.le_refl k)]
  funext i
  by_cases h1 : i < k
  · rw [if_pos h1]
  · rw [if_neg h1, h i (by omega)]
theorem eb_sup (h : 0 < k) : Sup k (eb 0) := fun i hi => by
  simp only [eb]
  rw [if_neg (by omega)]
/-- x to the k is less the lower part -/
theorem mxp_top (hk : 0 < k) : mxp k f k (eb 0) = fun i => if i < k then - f i else 0 := by
  obtain ⟨m, rfl⟩ : ∃ m, k = m + 1 := ⟨k - 1, by omega⟩
  show mx (m + 1) f (mxp (m + 1) f m (eb 0)) = _
  rw [mxp_eb (by omega)]
  funext i
  simp only [mx, eb, Nat.add_sub_cancel]
  by_cases h1 : i < m + 1
  · rw [if_pos h1, if_pos h1]
    by_cases h2 : i = 0
    · rw [if_pos h2]; simp
    · rw [if_neg h2, if_neg (by omega)]; simp
  · rw [if_neg h1, if_neg h1]

/-! ### the product of two vectors -/
def mul (k : Nat) (f a b : Vc) : Vc := act k f a k b
theorem mul_sup {a b : Vc} (hb : Sup k b) : Sup k (mul k f a b) := act_sup hb k
theorem mul_comm' {a b : Vc} (ha : Sup k a) (hb : Sup k b) : mul k f a b = mul k f b a := by
  have e1 : act k f a k (act k f b k (eb 0)) = mul k f a b := by rw [act_eb_sup hb]; rfl
  have e2 : act k f b k (act k f a k (eb 0)) = mul k f b a := by rw [act_eb_sup ha]; rfl
  rw [← e1, ← e2, act_comm]
theorem mul_assoc' {a b c : Vc} (ha : Sup k a) (hb : Sup k b) (hc : Sup k c) : mul k f (mul k f a b) c = mul k f a (mul k f b c) := by
  rw [mul_comm' (mul_sup hb) hc, mul_comm' hb hc]
  exact act_comm c a k k b
theorem mul_one' {a : Vc} (ha : Sup k a) : mul k f a (eb 0) = a := act_eb_sup ha
theorem mul_addL (a b c : Vc) : mul k f (vadd a b) c = vadd (mul k f a c) (mul k f b c) := act_addL a b k c
theorem mul_subL (a b c : Vc) : mul k f (vsub a b) c = vsub (mul k f a c) (mul k f b c) := act_subL a b k c
theorem mul_smulL (t : Int) (a c : Vc) : mul k f (smul t a) c = smul t (mul k f a c) := act_smulL t a k c
theorem mul_addR (a b c : Vc) : mul k f a (vadd b c) = vadd (mul k f a b) (mul k f a c) := act_vadd a k b c
theorem mul_smulR (t : Int) (a c : Vc) : mul k f a (smul t c) = smul t (mul k f a c) := act_smul a k t c

/-! ### modulo p -/
def Eqm (p : Int) (u v : Vc) : Prop := ∀ i, u i % p = v i % p
theorem Eqm.refl {p : Int} (u : Vc) : Eqm p u u := fun _ => rfl
theorem Eqm.symm {p : Int} {u v : Vc} (h : Eqm p u v) : Eqm p v u := fun i => (h i).symm
theorem Eqm.trans {p : Int} {u v w : Vc} (h : Eqm p u v) (g : Eqm p v w) : Eqm p u w := fun i => (h i).trans (g i)
theorem Eqm.of_eq {p : Int} {u v : Vc} (h : u = v) : Eqm p u v := fun i => by rw [h]
/-- the difference is a multiple of p -/
theorem eqm_iff {p : Int} {u v : Vc} : Eqm p u v ↔ ∃ w : Vc, u = vadd v (smul p w) := by
  constructor
  · intro h
    refine ⟨fun i => u i / p - v i / p, ?_⟩
    funext i
    simp only [vadd, smul]
    have h1 := Int.emod_add_mul_ediv (u i) p
    have h2 := Int.emod_add_mul_ediv (v i) p
    have h3 := h i
    grind
  · rintro ⟨w, rfl⟩ i
    simp only [vadd, smul]
    rw [Int.add_mul_emod_self_left]
theorem Eqm.add {p : Int} {u v u' v' : Vc} (h : Eqm p u u') (g : Eqm p v v') : Eqm p (vadd u v) (vadd u' v') := fun i => by
  simp only [vadd]
  rw [Int.add_emod, h i, g i, ← Int.add_emod]
theorem Eqm.sub {p : Int} {u v u' v' : Vc} (h : Eqm p u u') (g : Eqm p v v') : Eqm p (vsub u v) (vsub u' v') := fun i => by
  simp only [vsub]
  rw [Int.sub_emod, h i, g i, ← Int.sub_emod]
theorem Eqm.smul {p : Int} {v v' : Vc} {a b : Int} (h : a % p = b % p) (g : Eqm p v v') : Eqm p (smul a v) (Msq.smul b v') := fun i => by
  simp only [Msq.smul]
  rw [Int.mul_emod, h, g i, ← Int.mul_emod]
theorem Eqm.mx {p : Int} {v v' : Vc} (g : Eqm p v v') : Eqm p (mx k f v) (Msq.mx k f v') := by
  obtain ⟨w, rfl⟩ := eqm_iff.mp g
  rw [mx_add, mx_smul]
  exact eqm_iff.mpr ⟨_, rfl⟩
theorem Eqm.mxp {p : Int} {v v' : Vc} (g : Eqm p v v') (n : Nat) : Eqm p (mxp k f n v) (Msq.mxp k f n v') := by
  obtain ⟨w, rfl⟩ := eqm_iff.mp g
  rw [mxp_add, mxp_smul]
  exact eqm_iff.mpr ⟨_, rfl⟩
theorem Eqm.act {p : Int} {a a' v v' : Vc} {n : Nat} (h : ∀ i, i < n → a i % p = a' i % p) (g : Eqm p v v') : Eqm p (act k f a n v) (Msq.act k f a' n v') := by
  induction n with
  | zero => exact Eqm.refl _
  | succ n ih => exact (ih fun i hi => h i (by omega)).add (Eqm.smul (h n (by omega)) (g.mxp n))
theorem Eqm.mul {p : Int} {a a' b b' : Vc} (h : Eqm p a a') (g : Eqm p b b') : Eqm p (mul k f a b) (Msq.mul k f a' b') := Eqm.act (fun i _ => h i) g
def red (p : Int) (v : Vc) : Vc := fun i => v i % p
theorem red_eqm (p : Int) (v : Vc) : Eqm p (red p v) v := fun i => by
  simp only [red]
  rw [Int.emod_emod]
theorem red_of {p : Int} {u v : Vc} (h : Eqm p u v) : red p u = red p v := funext h
theorem red_sup {p : Int} {v : Vc} (h : Sup k v) : Sup k (red p v) := fun i hi => by
  simp only [red]
  rw [h i hi]
  simp
end
end Msq
namespace Msq
/-! ### numbers by their figures -/
def figs (p : Int) : Nat → Int → List Int
  | 0, _ => []
  | k + 1, n => n % p :: figs p k (n / p)
def num (p : Int) : List Int → Int
  | [] => 0
  | a :: l => num p l * p + a
/-- figures: entries from 0 below p -/
def Dg (p : Int) (l : List Int) : Prop := ∀ x ∈ l, 0 ≤ x ∧ x < p
theorem figs_len (p : Int) : ∀ (k : Nat) (n : Int), (figs p k n).length = k
  | 0, _ => rfl
  | k + 1, n => by simp [figs, figs_len p k]
theorem figs_dg {p : Int} (hp : 0 < p) : ∀ (k : Nat) (n : Int), Dg p (figs p k n)
  | 0, _ => by intro x hx; simp [figs] at hx
  | k + 1, n => by
    intro x hx
    simp only [figs, List.mem_cons] at hx
    rcases hx with rfl | hx
    · exact ⟨Int.emod_nonneg _ (by omega), Int.emod_lt_of_pos _ hp⟩
    · exact figs_dg hp k _ x hx
theorem num_nonneg {p : Int} (hp : 0 < p) : ∀ {l : List Int}, Dg p l → 0 ≤ num p l
  | [], _ => by simp [num]
  | a :: l, h => by
    have h1 := h a (by simp)
    have h2 := num_nonneg hp (l := l) fun x hx => h x (by simp [hx])
    have h3 := Int.mul_nonneg h2 (Int.le_of_lt hp)
    simp only [num]
    omega
theorem num_lt {p : Int} (hp : 0 < p) : ∀ {l : List Int}, Dg p l → num p l < p ^ l.length
  | [], _ => by simp [num]
  | a :: l, h => by
    have h1 := h a (by simp)
    have h2 := num_lt hp (l := l) fun x hx => h x (by simp [hx])
    have h3 : (num p l + 1) * p ≤ p ^ l.length * p := Int.mul_le_mul_of_nonneg_right (by omega) (Int.le_of_lt hp)
    simp only [num, List.length_cons, Int.pow_succ]
    rw [Int.add_mul, Int.one_mul] at h3
    omega
theorem figs_num {p : Int} (hp : 0 < p) : ∀ {l : List Int}, Dg p l → figs p l.length (num p l) = l
  | [], _ => rfl
  | a :: l, h => by
    have h1 := h a (by simp)
    have h2 := figs_num hp (l := l) fun x hx => h x (by simp [hx])
    have e1 : (num p l * p + a) % p = a := by
      rw [Int.add_comm, Int.add_mul_emod_self_right]
      exact Int.emod_eq_of_lt h1.1 h1.2
    have e2 : (num p l * p + a) / p = num p l := by
      rw [Int.add_comm, Int.add_mul_ediv_right _ _ (by omega), Int.ediv_eq_zero_of_lt h1.1 h1.2, Int.zero_add]
    simp only [num, List.length_cons, figs, e1, e2, h2]
theorem num_figs {p : Int} (hp : 0 < p) : ∀ {k : Nat} {n : Int}, 0 ≤ n → n < p ^ k → num p (figs p k n) = n
  | 0, n, h0, h1 => by
    have : n = 0 := by simp at h1; omega
    simp [figs, num, this]
  | k + 1, n, h0, h1 => by
    have e := Int.mul_ediv_add_emod n p
    have h2 : 0 ≤ n / p := Int.ediv_nonneg h0 (by omega)
    have h3 : n / p < p ^ k := by
      apply Int.ediv_lt_of_lt_mul hp
      rw [Int.pow_succ] at h1
      exact h1
    simp only [figs, num, num_figs hp h2 h3]
    rw [Int.mul_comm (n / p) p]
    omega
theorem num_inj {p : Int} (hp : 0 < p) {l r : List Int} (hl : Dg p l) (hr : Dg p r) (hlen : l.length = r.length) (h : num p l = num p r) : l = r := by
  rw [← figs_num hp hl, ← figs_num hp hr, hlen, h]
/-! ### lists and vectors -/
def vec (l : List Int) : Vc := fun i => l.getD i 0
def toL (k : Nat) (v : Vc) : List Int := (List.range k).map v
theorem vec_sup {k : Nat} {l : List Int} (h : l.length = k) : Sup k (vec l) := fun i hi => by
  simp only [vec]
  rw [List.getD_eq_getElem?_getD, List.getElem?_eq_none (by omega)]
  rfl
theorem vec_dg {p : Int} (hp : 0 < p) {l : List Int} (h : Dg p l) (i : Nat) : 0 ≤ vec l i ∧ vec l i < p := by
  simp only [vec]
  rw [List.getD_eq_getElem?_getD]
  by_cases hi : i < l.length
  · rw [List.getElem?_eq_getElem hi]
    exact h _ (List.getElem_mem hi)
  · rw [List.getElem?_eq_none (by omega)]
    simp
    exact hp
theorem vec_red {p : Int} (hp : 0 < p) {l : List Int} (h : Dg p l) : red p (vec l) = vec l := funext fun i => by
  have := vec_dg hp h i
  exact Int.emod_eq_of_lt this.1 this.2
theorem vec_inj {l r : List Int} (hlen : l.length = r.length) (h : ∀ i, i < l.length → vec l i = vec r i) : l = r := by
  refine List.ext_getElem hlen fun i h1 h2 => ?_
  have e := h i h1
  simp only [vec] at e
  rw [List.getD_eq_getElem?_getD, List.getD_eq_getElem?_getD, List.getElem?_eq_getElem h1, List.getElem?_eq_getElem h2] at e
  exact e
theorem toL_len (k : Nat) (v : Vc) : (toL k v).length = k := by simp [toL]
theorem vec_toL {k : Nat} {v : Vc} (h : Sup k v) : vec (toL k v) = v := funext fun i => by
  simp only [vec, toL]
  rw [List.getD_eq_getElem?_getD]
  by_cases hi : i < k
  · rw [List.getElem?_map, List.getElem?_range hi]
    rfl
  · rw [List.getElem?_eq_none (by simp; omega), h i (by omega)]
    rfl
theorem toL_dg {p : Int} (hp : 0 < p) (k : Nat) (v : Vc) : Dg p (toL k (red p v)) := by
  intro x hx
  simp only [toL, List.mem_map] at hx
  obtain ⟨i, _, rfl⟩ := hx
  exact ⟨Int.emod_nonneg _ (by omega), Int.emod_lt_of_pos _ hp⟩
theorem toL_vec {k : Nat} {l : List Int} (h : l.length = k) : toL k (vec l) = l := by
  refine vec_inj (by rw [toL_len, h]) fun i _ => ?_
  rw [vec_toL (vec_sup h)]
/-- two lists of figures that are alike modulo p are one -/
theorem dg_eq {p : Int} (hp : 0 < p) {l r : List Int} (hl : Dg p l) (hr : Dg p r) (hlen : l.length = r.length) (h : ∀ i, i < l.length → vec l i % p = vec r i % p) : l = r :=
  vec_inj hlen fun i hi => by
    have e := h i hi
    have h1 := vec_dg hp hl i
    have h2 := vec_dg hp hr i
    rw [Int.emod_eq_of_lt h1.1 h1.2, Int.emod_eq_of_lt h2.1 h2.2] at e
    exact e
/-! ### the elements of a field by their numbers -/
/-- the vector of a number -/
def vn (p : Int) (k : Nat) (n : Int) : Vc := vec (figs p k n)
/-- the number of a vector, modulo p -/
def nv (p : Int) (k : Nat) (v : Vc) : Int := num p (toL k (red p v))
section
variable {p : Int} {k : Nat}
theorem vn_sup (n : Int) : Sup k (vn p k n) := vec_sup (figs_len p k n)
theorem vn_red (hp : 0 < p) (n : Int) : red p (vn p k n) = vn p k n := vec_red hp (figs_dg hp k n)
theorem nv_nonneg (hp : 0 < p) (v : Vc) : 0 ≤ nv p k v := num_nonneg hp (toL_dg hp k v)
theorem nv_lt (hp : 0 < p) (v : Vc) : nv p k v < p ^ k := by
  have h := num_lt hp (toL_dg hp k v)
  rw [toL_len] at h
  exact h
theorem vn_nv (hp : 0 < p) {v : Vc} (h : Sup k v) : vn p k (nv p k v) = red p v := by
  have e := figs_num hp (toL_dg hp k v)
  rw [toL_len] at e
  simp only [vn, nv]
  rw [e, vec_toL (red_sup h)]
theorem nv_vn (hp : 0 < p) {n : Int} (h0 : 0 ≤ n) (h1 : n < p ^ k) : nv p k (vn p k n) = n := by
  simp only [nv]
  rw [vn_red hp]
  simp only [vn]
  rw [toL_vec (figs_len p k n), num_figs hp h0 h1]
theorem nv_congr {u v : Vc} (h : Eqm p u v) : nv p k u = nv p k v := by
  simp only [nv]
  rw [red_of h]
theorem nv_red (v : Vc) : nv p k (red p v) = nv p k v := nv_congr (red_eqm p v)
theorem vn_inj (hp : 0 < p) {n m : Int} (h0 : 0 ≤ n) (h1 : n < p ^ k) (g0 : 0 ≤ m) (g1 : m < p ^ k) (h : vn p k n = vn p k m) : n = m := by
  rw [← nv_vn hp h0 h1, ← nv_vn hp g0 g1, h]
theorem figs_zero (p : Int) : ∀ k : Nat, figs p k 0 = List.replicate k 0
  | 0 => rfl
  | k + 1 => by
    simp only [figs, Int.zero_emod, Int.zero_ediv, figs_zero p k]
    rfl
theorem vn_zero : vn p k 0 = vzero := funext fun i => by
  simp only [vn, figs_zero, vec, vzero]
  rw [List.getD_eq_getElem?_getD, List.getElem?_replicate]
  split <;> rfl
end
end Msq
namespace Msq
/-! ### the program's polynomials: lists of integers -/
/-- row[j] = (row[j] + c * part) % p, place by place -/
def updRow (p c : Int) : List Int → List Int → List Int
  | l :: ls, r :: rs => (r + c * l) % p :: updRow p c ls rs
  | _, rs => rs
/-- .. from a place on -/
def updAt (p c : Int) (l : List Int) : Nat → List Int → List Int
  | 0, row => updRow p c l row
  | b + 1, r :: rs => r :: updAt p c l b rs
  | _ + 1, [] => []
/-- the turns of remainder that are left: at = k + n - 1 down to k -/
def remFrom (p : Int) (lower : List Int) : Nat → List Int → List Int
  | 0, row => row
  | n + 1, row => remFrom p lower n (updAt p (-(row.getD (lower.length + n) 0)) lower n row)
def padTo (k : Nat) (l : List Int) : List Int := l ++ List.replicate (k - l.length) 0
def rema (p : Int) (lower figures : List Int) : List Int :=
  (remFrom p lower ((padTo lower.length figures).length - lower.length) (padTo lower.length figures)).take lower.length
/-- the turns of multiplied that are left -/
def multFrom (p : Int) (other : List Int) : List Int → Nat → List Int → List Int
  | [], _, row => row
  | a :: as, at_, row => multFrom p other as (at_ + 1) (updAt p a other at_ row)
def mult (p : Int) (one other : List Int) : List Int := multFrom p other one 0 (List.replicate (one.length + other.length - 1) 0)
def raisedL (p : Int) (lower : List Int) : Nat → List Int → List Int → Nat → List Int
  | 0, found, _, _ => found
  | fuel + 1, found, figures, times =>
    if times = 0 then found else
    raisedL p lower fuel (if times % 2 = 1 then rema p lower (mult p found figures) else found) (rema p lower (mult p figures figures)) (times / 2)
def raised (p : Int) (lower figures : List Int) (times : Nat) : List Int := raisedL p lower times (rema p lower [1]) figures times

/-! #### lengths, entries -/
section
variable {p : Int}
theorem updRow_len (p c : Int) : ∀ (l row : List Int), (updRow p c l row).length = row.length
  | [], row => by cases row <;> rfl
  | _ :: _, [] => rfl
  | _ :: ls, _ :: rs => by simp [updRow, updRow_len p c ls rs]
theorem updAt_len (p c : Int) (l : List Int) : ∀ (b : Nat) (row : List Int), (updAt p c l b row).length = row.length
  | 0, row => updRow_len p c l row
  | b + 1, r :: rs => by simp [updAt, updAt_len p c l b rs]
  | _ + 1, [] => rfl
theorem remFrom_len (p : Int) (lower : List Int) : ∀ (n : Nat) (row : List Int), (remFrom p lower n row).length = row.length
  | 0, _ => rfl
  | n + 1, row => by simp [remFrom, remFrom_len p lower n, updAt_len]
theorem padTo_len (k : Nat) (l : List Int) : (padTo k l).length = max k l.length := by
  simp [padTo]
  omega
theorem rema_len (p : Int) (lower figures : List Int) : (rema p lower figures).length = lower.length := by
  simp only [rema, List.length_take, remFrom_len, padTo_len]
  omega
theorem multFrom_len (p : Int) (other : List Int) : ∀ (as : List Int) (n : Nat) (row : List Int), (multFrom p other as n row).length = row.length
  | [], _, _ => rfl
  | a :: as, n, row => by simp [multFrom, multFrom_len p other as, updAt_len]
theorem mult_len (p : Int) (one other : List Int) : (mult p one other).length = one.length + other.length - 1 := by
  simp [mult, multFrom_len]
theorem updRow_dg (hp : 0 < p) {c : Int} : ∀ {l row : List Int}, Dg p row → Dg p (updRow p c l row)
  | [], row, h => by cases row <;> exact h
  | _ :: _, [], h => h
  | l :: ls, r :: rs, h => by
    intro x hx
    simp only [updRow, List.mem_cons] at hx
    rcases hx with rfl | hx
    · exact ⟨Int.emod_nonneg _ (by omega), Int.emod_lt_of_pos _ hp⟩
    · exact updRow_dg hp (fun y hy => h y (by simp [hy])) x hx
theorem updAt_dg (hp : 0 < p) {c : Int} {l : List Int} : ∀ {b : Nat} {row : List Int}, Dg p row → Dg p (updAt p c l b row)
  | 0, _, h => updRow_dg hp h
  | b + 1, [], h => h
  | b + 1, r :: rs, h => by
    intro x hx
    simp only [updAt, List.mem_cons] at hx
    rcases hx with rfl | hx
    · exact h _ (by simp)
    · exact updAt_dg hp (fun y hy => h y (by simp [hy])) x hx
theorem remFrom_dg (hp : 0 < p) {lower : List Int} : ∀ {n : Nat} {row : List Int}, Dg p row → Dg p (remFrom p lower n row)
  | 0, _, h => h
  | n + 1, _, h => remFrom_dg hp (n := n) (updAt_dg hp h)
theorem rep_dg (hp : 0 < p) (n : Nat) : Dg p (List.replicate n 0) := by
  intro x hx
  rw [List.eq_of_mem_replicate hx]
  omega
theorem padTo_dg (hp : 0 < p) {k : Nat} {l : List Int} (h : Dg p l) : Dg p (padTo k l) := by
  intro x hx
  rcases List.mem_append.mp hx with hx | hx
  · exact h x hx
  · exact rep_dg hp _ x hx
theorem rema_dg (hp : 0 < p) {lower figures : List Int} (h : Dg p figures) : Dg p (rema p lower figures) := fun x hx =>
  remFrom_dg hp (padTo_dg hp h) x (List.mem_of_mem_take hx)
theorem multFrom_dg (hp : 0 < p) {other : List Int} : ∀ {as : List Int} {n : Nat} {row : List Int}, Dg p row → Dg p (multFrom p other as n row)
  | [], _, _, h => h
  | a :: as, n, _, h => multFrom_dg hp (as := as) (updAt_dg hp h)
theorem mult_dg (hp : 0 < p) (one other : List Int) : Dg p (mult p one other) := multFrom_dg hp (rep_dg hp _)

/-! #### what they are as vectors -/
theorem getD_cons_zero' (a : Int) (l : List Int) : (a :: l).getD 0 0 = a := rfl
theorem getD_cons_succ' (a : Int) (l : List Int) (i : Nat) : (a :: l).getD (i + 1) 0 = l.getD i 0 := rfl
theorem updRow_vec (p c : Int) : ∀ (l row : List Int), l.length ≤ row.length → Eqm p (vec (updRow p c l row)) (vadd (vec row) (smul c (vec l)))
  | [], row, _, i => by
    have e : updRow p c [] row = row := by cases row <;> rfl
    rw [e]
    simp [vadd, smul, vec]
  | _ :: _, [], h, i => by simp at h
  | l :: ls, r :: rs, h, i => by
    have ih := updRow_vec p c ls rs (by simpa using h)
    cases i with
    | zero => simp [updRow, vec, vadd, smul]
    | succ i =>
      have := ih i
      simpa [updRow, vec, vadd, smul] using this
/-- the vector shifted by b -/
def shf (b : Nat) (v : Vc) : Vc := fun i => if i < b then 0 else v (i - b)
theorem updAt_vec (p c : Int) (l : List Int) : ∀ (b : Nat) (row : List Int), b + l.length ≤ row.length → Eqm p (vec (updAt p c l b row)) (vadd (vec row) (smul c (shf b (vec l))))
  | 0, row, h, i => by
    have := updRow_vec p c l row (by omega) i
    simpa [updAt, shf, vadd, smul] using this
  | b + 1, [], h, i => by simp at h
  | b + 1, r :: rs, h, i => by
    have ih := updAt_vec p c l b rs (by simp at h; omega)
    cases i with
    | zero => simp [updAt, vec, vadd, smul, shf]
    | succ i =>
      have := ih i
      simpa [updAt, vec, vadd, smul, shf] using this
variable {k : Nat} {f : Vc}
theorem act_shf (v w : Vc) (b n : Nat) : act k f (shf b v) (b + n) w = mxp k f b (act k f v n w) := by
  induction n with
  | zero =>
    rw [Nat.add_zero]
    have : ∀ m, m ≤ b → act k f (shf b v) m w = vzero := by
      intro m
      induction m with
      | zero => intro _; rfl
      | succ m ih =>
        intro hm
        simp only [act, ih (by omega)]
        have e : shf b v m = 0 := by simp only [shf]; rw [if_pos (by omega)]
        rw [e]
        funext i
        simp [vadd, smul, vzero]
    rw [this b (Nat.le_refl b)]
    simp only [act, mxp_zero]
  | succ n ih =>
    have e : shf b v (b + n) = v n := by simp only [shf]; rw [if_neg (by omega)]; congr 1; omega
    rw [show b + (n + 1) = (b + n) + 1 by omega]
    simp only [act, ih, e, mxp_add, mxp_smul, mxp_mxp]
/-- a row's value: the polynomial at x, modulo the one of the field -/
def rv (k : Nat) (f : Vc) (row : List Int) : Vc := act k f (vec row) row.length (eb 0)
theorem act_updAt {c : Int} {l row : List Int} {b : Nat} (h : b + l.length ≤ row.length) (w : Vc) :
    Eqm p (act k f (vec (updAt p c l b row)) row.length w) (vadd (act k f (vec row) row.length w) (smul c (mxp k f b (act k f (vec l) l.length w)))) := by
  have e1 := updAt_vec p c l b row h
  refine (Eqm.act (fun i _ => e1 i) (Eqm.refl w)).trans ?_
  rw [act_addL, act_smulL]
  have e2 : act k f (shf b (vec l)) row.length w = act k f (shf b (vec l)) (b + l.length) w := by
    refine act_more (fun i h1 h2 => ?_) h w
    simp only [shf]
    rw [if_neg (by omega)]
    exact vec_sup (k := l.length) rfl _ (by omega)
  rw [e2, act_shf]
  exact Eqm.refl _
theorem act_multFrom (other : List Int) (w : Vc) : ∀ (as : List Int) (n : Nat) (row : List Int), n + as.length + other.length ≤ row.length + 1 →
    Eqm p (act k f (vec (multFrom p other as n row)) row.length w) (vadd (act k f (vec row) row.length w) (mxp k f n (act k f (vec as) as.length (act k f (vec other) other.length w))))
  | [], n, row, h => by
    simp only [multFrom, List.length_nil, act, mxp_zero, vadd_zero]
    exact Eqm.refl _
  | a :: as, n, row, h => by
    have h' : (n + 1) + as.length + other.length ≤ (updAt p a other n row).length + 1 := by
      rw [updAt_len]
      simp at h
      omega
    have ih := act_multFrom other w as (n + 1) (updAt p a other n row) h'
    rw [updAt_len] at ih
    have e := act_updAt (p := p) (k := k) (f := f) (c := a) (l := other) (row := row) (b := n) (by simp at h; omega) w
    refine ih.trans ((e.add (Eqm.refl _)).trans (Eqm.of_eq ?_))
    rw [vadd_assoc]
    congr 1
    have e3 : vec (a :: as) = vadd (smul a (eb 0)) (shf 1 (vec as)) := by
      funext i
      cases i with
      | zero => simp [vec, vadd, smul, eb, shf]
      | succ i => simp [vec, vadd, smul, eb, shf]
    rw [e3, act_addL, act_smulL, List.length_cons, Nat.add_comm as.length 1, act_shf]
    have e4 : ∀ (m : Nat) (u : Vc), act k f (eb 0) (1 + m) u = u := by
      intro m u
      rw [act_more (a := eb 0) (n := 1) (m := 1 + m) (fun i h1 h2 => by simp only [eb]; rw [if_neg (by omega)]) (by omega)]
      funext i
      simp [act, vadd, smul, vzero, eb, mxp]
    rw [e4, mxp_add, mxp_smul, mxp_mxp, show n + 1 = n + 1 from rfl]
/-- the product's value -/
theorem rv_mult (one other : List Int) (h : 0 < one.length) (h' : 0 < other.length) : Eqm p (rv k f (mult p one other)) (act k f (vec one) one.length (rv k f other)) := by
  have e := act_multFrom (p := p) (k := k) (f := f) other (eb 0) one 0 (List.replicate (one.length + other.length - 1) 0) (by simp; omega)
  simp only [rv, mult, multFrom_len]
  refine e.trans (Eqm.of_eq ?_)
  have z : act k f (vec (List.replicate (one.length + other.length - 1) (0 : Int))) (List.replicate (one.length + other.length - 1) (0 : Int)).length (eb 0) = vzero := by
    have hz : ∀ m, act k f (vec (List.replicate (one.length + other.length - 1) (0 : Int))) m (eb 0) = vzero := by
      intro m
      induction m with
      | zero => rfl
      | succ m ih =>
        simp only [act, ih]
        have e0 : vec (List.replicate (one.length + other.length - 1) (0 : Int)) m = 0 := by
          simp only [vec]
          rw [List.getD_eq_getElem?_getD, List.getElem?_replicate]
          split <;> rfl
        rw [e0]
        funext i
        simp [vadd, smul, vzero]
    exact hz _
  rw [z, zero_vadd]
  rfl
end
/-! #### the remainder: k and f are those of lower -/
section
variable {p : Int} {lower : List Int}
theorem act_remFrom (hk : 0 < lower.length) : ∀ (n : Nat) (row : List Int), lower.length + n ≤ row.length →
    Eqm p (act lower.length (vec lower) (vec (remFrom p lower n row)) lower.length (eb 0)) (act lower.length (vec lower) (vec row) (lower.length + n) (eb 0))
  | 0, row, h => Eqm.refl _
  | n + 1, row, h => by
    have h' : lower.length + n ≤ (updAt p (-(row.getD (lower.length + n) 0)) lower n row).length := by rw [updAt_len]; omega
    refine (act_remFrom hk n _ h').trans ?_
    have e1 := updAt_vec p (-(row.getD (lower.length + n) 0)) lower n row (by omega)
    refine (Eqm.act (fun i _ => e1 i) (Eqm.refl _)).trans (Eqm.of_eq ?_)
    rw [act_addL, act_smulL, show lower.length + n = n + lower.length by omega, act_shf, act_eb_sup (vec_sup rfl)]
    rw [show lower.length + (n + 1) = (n + lower.length) + 1 by omega]
    simp only [act]
    congr 1
    have e2 : mxp lower.length (vec lower) (n + lower.length) (eb 0) = smul (-1) (mxp lower.length (vec lower) n (vec lower)) := by
      rw [← mxp_mxp, mxp_top hk, ← mxp_smul]
      congr 1
      funext i
      simp only [smul]
      by_cases hi : i < lower.length
      · rw [if_pos hi]; omega
      · rw [if_neg hi, vec_sup (k := lower.length) rfl i (by omega)]; simp
    rw [e2]
    funext i
    simp only [smul, vec]
    grind
theorem vec_take_eq {l : List Int} {n i : Nat} (h : i < n) : vec (l.take n) i = vec l i := by
  simp only [vec]
  rw [List.getD_eq_getElem?_getD, List.getD_eq_getElem?_getD, List.getElem?_take, if_pos h]
theorem vec_pad (k : Nat) (l : List Int) : vec (padTo k l) = vec l := by
  funext i
  simp only [vec, padTo]
  rw [List.getD_eq_getElem?_getD, List.getD_eq_getElem?_getD]
  by_cases hi : i < l.length
  · rw [List.getElem?_append_left hi]
  · rw [List.getElem?_append_right (by omega), List.getElem?_replicate, List.getElem?_eq_none (by omega)]
    split <;> rfl
/-- the remainder is the polynomial's value -/
theorem vec_rema (hk : 0 < lower.length) (figures : List Int) : Eqm p (vec (rema p lower figures)) (rv lower.length (vec lower) figures) := by
  have hl : lower.length + ((padTo lower.length figures).length - lower.length) = (padTo lower.length figures).length := by
    rw [padTo_len]
    omega
  have e := act_remFrom (p := p) hk ((padTo lower.length figures).length - lower.length) (padTo lower.length figures) (by omega)
  rw [hl] at e
  have e1 : vec (rema p lower figures) = act lower.length (vec lower) (vec (remFrom p lower ((padTo lower.length figures).length - lower.length) (padTo lower.length figures))) lower.length (eb 0) := by
    rw [act_eb _ (Nat.le_refl _)]
    funext i
    by_cases hi : i < lower.length
    · rw [if_pos hi]
      exact vec_take_eq hi
    · rw [if_neg hi]
      exact vec_sup (rema_len p lower figures) i (by omega)
  rw [e1]
  refine e.trans (Eqm.of_eq ?_)
  rw [vec_pad]
  simp only [rv]
  refine act_more (fun i h1 _ => vec_sup rfl i h1) ?_ _
  rw [padTo_len]
  omega
/-- figures of the degree are their own value -/
theorem rv_self {l : List Int} (h : l.length = lower.length) : rv lower.length (vec lower) l = vec l := by
  simp only [rv]
  rw [h]
  exact act_eb_sup (vec_sup h)
theorem rv_one : rv lower.length (vec lower) [1] = eb 0 := by
  funext i
  simp [rv, act, vadd, smul, vzero, vec, mxp]
/-- the product in the field -/
theorem vec_fmul (hk : 0 < lower.length) {a b : List Int} (ha : a.length = lower.length) (hb : b.length = lower.length) :
    Eqm p (vec (rema p lower (mult p a b))) (mul lower.length (vec lower) (vec a) (vec b)) := by
  refine (vec_rema hk _).trans ((rv_mult a b (by omega) (by omega)).trans (Eqm.of_eq ?_))
  rw [rv_self hb, ha]
  rfl
end
end Msq
namespace Msq
/-! ### powers -/
section
variable {k : Nat} {f : Vc} {p : Int}
def pw (k : Nat) (f a : Vc) : Nat → Vc
  | 0 => eb 0
  | n + 1 => mul k f (pw k f a n) a
theorem pw_sup (hk : 0 < k) {a : Vc} (ha : Sup k a) : ∀ n, Sup k (pw k f a n)
  | 0 => eb_sup hk
  | n + 1 => mul_sup ha
theorem one_mul' (hk : 0 < k) {a : Vc} (ha : Sup k a) : mul k f (eb 0) a = a := by rw [mul_comm' (eb_sup hk) ha, mul_one' ha]
theorem pw_add (hk : 0 < k) {a : Vc} (ha : Sup k a) (m : Nat) : ∀ n, pw k f a (m + n) = mul k f (pw k f a m) (pw k f a n)
  | 0 => by simp only [Nat.add_zero, pw]; rw [mul_one' (pw_sup hk ha m)]
  | n + 1 => by
    rw [show m + (n + 1) = (m + n) + 1 by omega]
    simp only [pw]
    rw [pw_add hk ha m n, mul_assoc' (pw_sup hk ha m) (pw_sup hk ha n) ha]
theorem pw_one (hk : 0 < k) {a : Vc} (ha : Sup k a) : pw k f a 1 = a := by
  simp only [pw]
  exact one_mul' hk ha
theorem pw_pw (hk : 0 < k) {a : Vc} (ha : Sup k a) (m : Nat) : ∀ n, pw k f (pw k f a m) n = pw k f a (m * n)
  | 0 => rfl
  | n + 1 => by
    rw [Nat.mul_succ, pw_add hk ha]
    simp only [pw]
    rw [pw_pw hk ha m n]
theorem pw_eb (hk : 0 < k) : ∀ n, pw k f (eb 0) n = eb 0
  | 0 => rfl
  | n + 1 => by
    simp only [pw]
    rw [pw_eb hk n, mul_one' (eb_sup hk)]
theorem Eqm.pw {a b : Vc} (h : Eqm p a b) : ∀ n, Eqm p (Msq.pw k f a n) (Msq.pw k f b n)
  | 0 => Eqm.refl _
  | n + 1 => (Eqm.pw h n).mul h
theorem pw_sq (hk : 0 < k) {a : Vc} (ha : Sup k a) (n : Nat) : pw k f (mul k f a a) n = pw k f a (2 * n) := by
  rw [← pw_pw hk ha 2 n]
  congr 1
  simp only [pw]
  rw [one_mul' hk ha]
end
/-! ### what raised gives -/
section
variable {p : Int} {lower : List Int}
theorem raisedL_len (hk : 0 < lower.length) : ∀ (fuel : Nat) (found figures : List Int) (times : Nat), found.length = lower.length → (raisedL p lower fuel found figures times).length = lower.length
  | 0, _, _, _, h => h
  | fuel + 1, found, figures, times, h => by
    simp only [raisedL]
    split
    · exact h
    · refine raisedL_len hk fuel _ _ _ ?_
      split
      · exact rema_len _ _ _
      · exact h
theorem raisedL_dg (hp : 0 < p) : ∀ (fuel : Nat) (found figures : List Int) (times : Nat), Dg p found → Dg p (raisedL p lower fuel found figures times)
  | 0, _, _, _, h => h
  | fuel + 1, found, figures, times, h => by
    simp only [raisedL]
    split
    · exact h
    · refine raisedL_dg hp fuel _ _ _ ?_
      split
      · exact rema_dg hp (mult_dg hp _ _)
      · exact h
theorem raisedL_vec (hk : 0 < lower.length) : ∀ (fuel : Nat) (found figures : List Int) (times : Nat), times ≤ fuel → found.length = lower.length → figures.length = lower.length →
    Eqm p (vec (raisedL p lower fuel found figures times)) (mul lower.length (vec lower) (vec found) (pw lower.length (vec lower) (vec figures) times))
  | 0, found, figures, times, ht, h1, h2 => by
    have : times = 0 := by omega
    subst this
    simp only [raisedL, pw]
    rw [mul_one' (vec_sup h1)]
    exact Eqm.refl _
  | fuel + 1, found, figures, times, ht, h1, h2 => by
    simp only [raisedL]
    by_cases h0 : times = 0
    · subst h0
      rw [if_pos rfl]
      simp only [pw]
      rw [mul_one' (vec_sup h1)]
      exact Eqm.refl _
    · rw [if_neg h0]
      have hF : Sup lower.length (vec figures) := vec_sup h2
      have hf : Sup lower.length (vec found) := vec_sup h1
      have esq := vec_fmul (p := p) hk h2 h2
      have epw : Eqm p (pw lower.length (vec lower) (vec (rema p lower (mult p figures figures))) (times / 2)) (pw lower.length (vec lower) (vec figures) (2 * (times / 2))) := by
        rw [← pw_sq hk hF]
        exact esq.pw _
      by_cases ho : times % 2 = 1
      · rw [if_pos ho]
        refine (raisedL_vec hk fuel _ _ _ (by omega) (rema_len _ _ _) (rema_len _ _ _)).trans ?_
        refine ((vec_fmul hk h1 h2).mul epw).trans (Eqm.of_eq ?_)
        rw [mul_assoc' hf hF (pw_sup hk hF _)]
        congr 1
        have e2 : times = 1 + 2 * (times / 2) := by omega
        conv => rhs; rw [e2]
        rw [pw_add hk hF, pw_one hk hF]
      · rw [if_neg ho]
        refine (raisedL_vec hk fuel _ _ _ (by omega) h1 (rema_len _ _ _)).trans ?_
        refine ((Eqm.refl _).mul epw).trans (Eqm.of_eq ?_)
        rw [show 2 * (times / 2) = times by omega]
theorem raised_len (hk : 0 < lower.length) (figures : List Int) (times : Nat) : (raised p lower figures times).length = lower.length := raisedL_len hk _ _ _ _ (rema_len _ _ _)
theorem raised_dg (hp : 1 < p) (figures : List Int) (times : Nat) : Dg p (raised p lower figures times) := raisedL_dg (by omega) _ _ _ _ (rema_dg (by omega) (by
  intro x hx
  simp at hx
  omega))
theorem raised_vec (hk : 0 < lower.length) {figures : List Int} (h : figures.length = lower.length) (times : Nat) : Eqm p (vec (raised p lower figures times)) (pw lower.length (vec lower) (vec figures) times) := by
  refine (raisedL_vec hk times _ _ _ (Nat.le_refl _) (rema_len _ _ _) h).trans ?_
  have e1 : Eqm p (vec (rema p lower [1])) (eb 0) := (vec_rema hk [1]).trans (Eqm.of_eq rv_one)
  refine (e1.mul (Eqm.refl _)).trans (Eqm.of_eq ?_)
  exact one_mul' hk (pw_sup hk (vec_sup h) _)
end
/-! ### no more pigeons than holes -/
theorem php : ∀ (N : Nat) (h : Nat → Nat), (∀ i, i < N + 1 → h i < N) → ∃ i j, i < j ∧ j < N + 1 ∧ h i = h j
  | 0, h, hr => absurd (hr 0 (by omega)) (by omega)
  | N + 1, h, hr => by
    by_cases hex : ∃ i, i < N + 1 ∧ h i = h (N + 1)
    · obtain ⟨i, h1, h2⟩ := hex
      exact ⟨i, N + 1, h1, by omega, h2⟩
    · have hne : ∀ i, i < N + 1 → h i ≠ h (N + 1) := fun i h1 h2 => hex ⟨i, h1, h2⟩
      have hv := hr (N + 1) (by omega)
      obtain ⟨i, j, h1, h2, h3⟩ := php N (fun i => if h i = N then h (N + 1) else h i) (fun i hi => by
        have a := hr i (by omega)
        have b := hne i hi
        show (if h i = N then h (N + 1) else h i) < N
        split
        · omega
        · omega)
      have a1 := hne i (by omega)
      have a2 := hne j h2
      refine ⟨i, j, h1, by omega, ?_⟩
      have h3' : (if h i = N then h (N + 1) else h i) = (if h j = N then h (N + 1) else h j) := h3
      by_cases e1 : h i = N
      · by_cases e2 : h j = N
        · rw [e1, e2]
        · rw [if_pos e1, if_neg e2] at h3'
          exact absurd h3'.symm a2
      · by_cases e2 : h j = N
        · rw [if_neg e1, if_pos e2] at h3'
          exact absurd h3' a1
        · rw [if_neg e1, if_neg e2] at h3'
          exact h3'
/-- an injection of N things into N is onto -/
theorem onto_of_inj (N : Nat) (h : Nat → Nat) (hr : ∀ i, i < N → h i < N) (inj : ∀ i j, i < j → j < N → h i ≠ h j) (m : Nat) (hm : m < N) : ∃ i, i < N ∧ h i = m := by
  by_cases hex : ∃ i, i < N ∧ h i = m
  · exact hex
  · exfalso
    have hno : ∀ i, i < N → h i ≠ m := fun i a b => hex ⟨i, a, b⟩
    obtain ⟨i, j, h1, h2, h3⟩ := php N (fun i => if i = N then m else h i) (fun i hi => by
      show (if i = N then m else h i) < N
      split
      · exact hm
      · exact hr i (by omega))
    have h3' : (if i = N then m else h i) = (if j = N then m else h j) := h3
    rw [if_neg (show ¬ i = N by omega)] at h3'
    by_cases e : j = N
    · rw [if_pos e] at h3'
      exact hno i (by omega) h3'
    · rw [if_neg e] at h3'
      exact inj i j h1 (by omega) h3'
/-! ### orders -/
section
variable {k : Nat} {f : Vc} {p : Int} {g : Vc}
theorem ord_mul (hk : 0 < k) (hg : Sup k g) {a : Nat} (h : Eqm p (pw k f g a) (eb 0)) (t : Nat) : Eqm p (pw k f g (a * t)) (eb 0) := by
  rw [← pw_pw hk hg]
  exact (h.pw t).trans (Eqm.of_eq (pw_eb hk t))
theorem ord_sub (hk : 0 < k) (hg : Sup k g) {a b : Nat} (h : Eqm p (pw k f g a) (eb 0)) (h' : Eqm p (pw k f g (a + b)) (eb 0)) : Eqm p (pw k f g b) (eb 0) := by
  rw [pw_add hk hg] at h'
  refine Eqm.trans ?_ h'
  refine Eqm.trans (Eqm.of_eq ?_) (Eqm.mul h.symm (Eqm.refl _))
  exact (one_mul' hk (pw_sup hk hg b)).symm
theorem ord_gcd (hk : 0 < k) (hg : Sup k g) : ∀ {a b : Nat}, Eqm p (pw k f g a) (eb 0) → Eqm p (pw k f g b) (eb 0) → Eqm p (pw k f g (Nat.gcd a b)) (eb 0) := fun {a b} => by
  induction a, b using Nat.gcd.induction with
  | H0 n => intro _ h; rw [Nat.gcd_zero_left]; exact h
  | H1 m n hm ih =>
    intro h1 h2
    rw [Nat.gcd_rec]
    refine ih ?_ h1
    refine ord_sub hk hg (ord_mul hk hg h1 (n / m)) ?_
    rw [Nat.div_add_mod]
    exact h2
/-- rs: primes (so far as N's divisors go) -/
def DivBy (N : Nat) (rs : List Nat) : Prop := ∀ m, m ∣ N → m ≠ 1 → ∃ r ∈ rs, r ∣ m
theorem gen_inj (hk : 0 < k) (hg : Sup k g) {N : Nat} {rs : List Nat} (hN : 0 < N) (hd : DivBy N rs) (hr : ∀ r ∈ rs, 0 < r ∧ ¬ Eqm p (pw k f g (N / r)) (eb 0)) (h1 : Eqm p (pw k f g N) (eb 0)) {i j : Nat} (hij : i < j) (hj : j < N) : ¬ Eqm p (pw k f g i) (pw k f g j) := by
  intro h
  -- g to the (j - i) is 1
  have e1 : Eqm p (pw k f g (j - i)) (eb 0) := by
    refine ord_sub hk hg h1 ?_
    have a : Eqm p (pw k f g (i + (N - i))) (eb 0) := by rw [show i + (N - i) = N by omega]; exact h1
    rw [pw_add hk hg] at a
    refine Eqm.trans ?_ a
    refine Eqm.trans (Eqm.of_eq ?_) (Eqm.mul h.symm (Eqm.refl (pw k f g (N - i))))
    rw [← pw_add hk hg]
    congr 1
    omega
  have e2 := ord_gcd hk hg e1 h1
  have d1 : Nat.gcd (j - i) N ∣ N := Nat.gcd_dvd_right _ _
  have d2 : Nat.gcd (j - i) N ∣ j - i := Nat.gcd_dvd_left _ _
  have l2 : Nat.gcd (j - i) N ≤ j - i := Nat.le_of_dvd (by omega) d2
  obtain ⟨c, hc⟩ := d1
  have hc1 : c ≠ 1 := by
    rintro rfl
    omega
  obtain ⟨r, hm, t, ht⟩ := hd c ⟨Nat.gcd (j - i) N, by rw [Nat.mul_comm]; exact hc⟩ hc1
  obtain ⟨r0, rn⟩ := hr r hm
  apply rn
  have e3 : N / r = Nat.gcd (j - i) N * t := by
    apply Nat.div_eq_of_eq_mul_right r0
    rw [← Nat.mul_assoc, Nat.mul_comm r, Nat.mul_assoc, ← ht]
    exact hc
  rw [e3]
  exact ord_mul hk hg e2 t
end
/-! ### the field's units are the powers of one element -/
section
variable {k : Nat} {f : Vc} {p : Int} {g : Vc}
theorem vn_eq_zero (hp : 0 < p) {n : Int} (h0 : 0 ≤ n) (h1 : n < p ^ k) (h : vn p k n = vzero) : n = 0 := by
  have hz : (0 : Int) < p ^ k := by omega
  exact vn_inj hp h0 h1 (Int.le_refl 0) hz (by rw [h, vn_zero])
theorem gen_all (hp : 1 < p) (hk : 0 < k) (hg : Sup k g) {N : Nat} {rs : List Nat} (hq : (p ^ k : Int) = (N : Int) + 1) (hN : 0 < N) (hd : DivBy N rs)
    (hr : ∀ r ∈ rs, 0 < r ∧ ¬ Eqm p (pw k f g (N / r)) (eb 0)) (h1 : Eqm p (pw k f g N) (eb 0)) {a : Int} (a0 : 0 < a) (a1 : a < p ^ k) : ∃ i, vn p k a = red p (pw k f g i) := by
  have hp0 : 0 < p := by omega
  have bd : ∀ i, 0 ≤ nv p k (pw k f g i) ∧ nv p k (pw k f g i) < p ^ k := fun i => ⟨nv_nonneg hp0 _, nv_lt hp0 _⟩
  have pos : ∀ i, i < N → 0 < nv p k (pw k f g i) := by
    intro i hi
    have hz : nv p k (pw k f g i) ≠ 0 := by
      intro e
      have ev := vn_nv hp0 (pw_sup (f := f) hk hg i)
      rw [e, vn_zero] at ev
      have z : Eqm p (pw k f g i) vzero := (red_eqm p (pw k f g i)).symm.trans (Eqm.of_eq ev.symm)
      have b : Eqm p (pw k f g (i + (N - i))) (eb 0) := by rw [show i + (N - i) = N by omega]; exact h1
      rw [pw_add hk hg] at b
      have c : Eqm p (mul k f vzero (pw k f g (N - i))) (eb 0) := (Eqm.mul z.symm (Eqm.refl _)).trans b
      have d := c 0
      have e0 : mul k f vzero (pw k f g (N - i)) = vzero := by
        have := mul_smulL (k := k) (f := f) 0 vzero (pw k f g (N - i))
        have s0 : smul 0 vzero = vzero := smul_zero' 0
        rw [s0] at this
        rw [this]
        funext i
        simp [smul, vzero]
      rw [e0] at d
      simp only [vzero, eb, if_pos] at d
      rw [Int.zero_emod, Int.emod_eq_of_lt (by omega) hp] at d
      omega
    have := (bd i).1
    omega
  obtain ⟨i, hi, he⟩ := onto_of_inj N (fun i => (nv p k (pw k f g i)).toNat - 1) (fun i hi => by
    have h2 := pos i hi
    have h3 := (bd i).2
    show (nv p k (pw k f g i)).toNat - 1 < N
    omega) (fun i j hij hj e => by
    have h2 := pos i (by omega)
    have h3 := pos j hj
    have e' : (nv p k (pw k f g i)).toNat - 1 = (nv p k (pw k f g j)).toNat - 1 := e
    have e2 : nv p k (pw k f g i) = nv p k (pw k f g j) := by omega
    refine gen_inj hk hg hN hd hr h1 hij hj ?_
    have v1 := vn_nv hp0 (pw_sup (f := f) hk hg i)
    have v2 := vn_nv hp0 (pw_sup (f := f) hk hg j)
    rw [e2, v2] at v1
    exact (red_eqm p _).symm.trans ((Eqm.of_eq v1.symm).trans (red_eqm p _))) (a.toNat - 1) (by omega)
  refine ⟨i, ?_⟩
  have h2 := pos i hi
  have he' : (nv p k (pw k f g i)).toNat - 1 = a.toNat - 1 := he
  have e3 : a = nv p k (pw k f g i) := by omega
  rw [e3]
  exact vn_nv hp0 (pw_sup hk hg i)
/-- what is raised to the number of units is 1 -/
theorem unit_pow (hp : 1 < p) (hk : 0 < k) (hg : Sup k g) {N : Nat} {rs : List Nat} (hq : (p ^ k : Int) = (N : Int) + 1) (hN : 0 < N) (hd : DivBy N rs)
    (hr : ∀ r ∈ rs, 0 < r ∧ ¬ Eqm p (pw k f g (N / r)) (eb 0)) (h1 : Eqm p (pw k f g N) (eb 0)) {a : Int} (a0 : 0 < a) (a1 : a < p ^ k) : Eqm p (pw k f (vn p k a) N) (eb 0) := by
  obtain ⟨i, hi⟩ := gen_all hp hk hg hq hN hd hr h1 a0 a1
  rw [hi]
  refine ((red_eqm p _).pw N).trans ?_
  rw [pw_pw hk hg, Nat.mul_comm]
  exact ord_mul hk hg h1 i
end
end Msq
namespace Msq
/-! ### a field by its prime and its lower coefficients: sums, products on numbers -/
structure Part where
  p : Int
  lower : List Int
abbrev Part.k (P : Part) : Nat := P.lower.length
abbrev Part.f (P : Part) : Vc := vec P.lower
def Part.q (P : Part) : Int := P.p ^ P.lower.length
def fsum (P : Part) (a b : Int) : Int := nv P.p P.k (vadd (vn P.p P.k a) (vn P.p P.k b))
def fsub (P : Part) (a b : Int) : Int := nv P.p P.k (vsub (vn P.p P.k a) (vn P.p P.k b))
def fmul (P : Part) (a b : Int) : Int := nv P.p P.k (mul P.k P.f (vn P.p P.k a) (vn P.p P.k b))
def fpow (P : Part) (a : Int) (n : Nat) : Int := nv P.p P.k (pw P.k P.f (vn P.p P.k a) n)
def finv (P : Part) (a : Int) : Int := fpow P a (P.q - 2).toNat
structure Fld (P : Part) : Prop where
  hp : 1 < P.p
  hk : 0 < P.k
  unit : ∀ a, 0 < a → a < P.q → Eqm P.p (pw P.k P.f (vn P.p P.k a) (P.q - 1).toNat) (eb 0)
/-- an element -/
def El (P : Part) (a : Int) : Prop := 0 ≤ a ∧ a < P.q
section
variable {P : Part}
theorem Fld.hp0 (F : Fld P) : 0 < P.p := by have := F.hp; omega
theorem vsub_sup {k : Nat} {u v : Vc} (h : Sup k u) (g : Sup k v) : Sup k (vsub u v) := fun i hi => by simp only [vsub]; rw [h i hi, g i hi]; rfl
theorem vadd_sup {k : Nat} {u v : Vc} (h : Sup k u) (g : Sup k v) : Sup k (vadd u v) := fun i hi => by simp only [vadd]; rw [h i hi, g i hi]; rfl
theorem Fld.el (F : Fld P) (v : Vc) : El P (nv P.p P.k v) := ⟨nv_nonneg F.hp0 v, nv_lt F.hp0 v⟩
theorem Fld.sum_el (F : Fld P) (a b : Int) : El P (fsum P a b) := F.el _
theorem Fld.sub_el (F : Fld P) (a b : Int) : El P (fsub P a b) := F.el _
theorem Fld.mul_el (F : Fld P) (a b : Int) : El P (fmul P a b) := F.el _
theorem Fld.inv_el (F : Fld P) (a : Int) : El P (finv P a) := F.el _
theorem Fld.q2 (F : Fld P) : 2 ≤ P.q := by
  have h1 := F.hp
  have h2 : 0 < P.lower.length := F.hk
  obtain ⟨m, hm⟩ : ∃ m, P.lower.length = m + 1 := ⟨P.lower.length - 1, by omega⟩
  have h3 : (0 : Int) < P.p ^ m := Int.pow_pos (by omega)
  simp only [Part.q, hm, Int.pow_succ]
  have h4 : 1 * P.p ≤ P.p ^ m * P.p := Int.mul_le_mul_of_nonneg_right (by omega) (by omega)
  omega
theorem Fld.sum_vn (F : Fld P) (a b : Int) : vn P.p P.k (fsum P a b) = red P.p (vadd (vn P.p P.k a) (vn P.p P.k b)) := vn_nv F.hp0 (vadd_sup (vn_sup a) (vn_sup b))
theorem Fld.sub_vn (F : Fld P) (a b : Int) : vn P.p P.k (fsub P a b) = red P.p (vsub (vn P.p P.k a) (vn P.p P.k b)) := vn_nv F.hp0 (vsub_sup (vn_sup a) (vn_sup b))
theorem Fld.mul_vn (F : Fld P) (a b : Int) : vn P.p P.k (fmul P a b) = red P.p (mul P.k P.f (vn P.p P.k a) (vn P.p P.k b)) := vn_nv F.hp0 (mul_sup (vn_sup b))
theorem Fld.pow_vn (F : Fld P) (a : Int) (n : Nat) : vn P.p P.k (fpow P a n) = red P.p (pw P.k P.f (vn P.p P.k a) n) := vn_nv F.hp0 (pw_sup F.hk (vn_sup a) n)
theorem Fld.nvn (F : Fld P) {a : Int} (h : El P a) : nv P.p P.k (vn P.p P.k a) = a := nv_vn F.hp0 h.1 h.2
/-- r + x - x -/
theorem Fld.sub_sum (F : Fld P) {r : Int} (x : Int) (h : El P r) : fsub P (fsum P r x) x = r := by
  rw [fsub, F.sum_vn]
  refine Eq.trans (nv_congr (v := vn P.p P.k r) ?_) (F.nvn h)
  refine ((red_eqm _ _).sub (Eqm.refl _)).trans (Eqm.of_eq ?_)
  funext i
  simp only [vsub, vadd]
  omega
/-- s - x + x -/
theorem Fld.sum_sub (F : Fld P) {s : Int} (x : Int) (h : El P s) : fsum P (fsub P s x) x = s := by
  rw [fsum, F.sub_vn]
  refine Eq.trans (nv_congr (v := vn P.p P.k s) ?_) (F.nvn h)
  refine ((red_eqm _ _).add (Eqm.refl _)).trans (Eqm.of_eq ?_)
  funext i
  simp only [vsub, vadd]
  omega
theorem zero_mul' {k : Nat} {f v : Vc} : mul k f vzero v = vzero := by
  have := mul_smulL (k := k) (f := f) 0 vzero v
  rw [smul_zero'] at this
  rw [this]
  funext i
  simp [smul, vzero]
theorem mul_zero' {k : Nat} {f v : Vc} : mul k f v vzero = vzero := act_zero v k
theorem nv_zero (F : Fld P) : nv P.p P.k vzero = 0 := by
  have := F.nvn (a := 0) ⟨Int.le_refl 0, by have := F.q2; omega⟩
  rw [vn_zero] at this
  exact this
theorem Fld.zero_mul (F : Fld P) (b : Int) : fmul P 0 b = 0 := by rw [fmul, vn_zero, zero_mul', nv_zero F]
theorem Fld.mul_zero (F : Fld P) (b : Int) : fmul P b 0 = 0 := by rw [fmul, vn_zero, mul_zero', nv_zero F]
theorem Fld.sum_zero (F : Fld P) {a : Int} (h : El P a) : fsum P a 0 = a := by rw [fsum, vn_zero, vadd_zero, F.nvn h]
theorem vn_one (F : Fld P) : vn P.p P.k 1 = eb 0 := by
  obtain ⟨m, hm⟩ : ∃ m, P.lower.length = m + 1 := ⟨P.lower.length - 1, by have h2 : 0 < P.lower.length := F.hk; omega⟩
  have hp := F.hp
  have e1 : (1 : Int) % P.p = 1 := Int.emod_eq_of_lt (by omega) hp
  have e2 : (1 : Int) / P.p = 0 := Int.ediv_eq_zero_of_lt (by omega) hp
  show vec (figs P.p P.lower.length 1) = eb 0
  rw [hm]
  simp only [figs, e1, e2, figs_zero]
  funext i
  cases i with
  | zero => simp [vec, eb]
  | succ i =>
    simp only [vec, eb]
    rw [List.getD_cons_succ, List.getD_eq_getElem?_getD, List.getElem?_replicate, if_neg (show ¬ i + 1 = 0 by omega)]
    split <;> rfl
theorem Fld.one_mul (F : Fld P) {a : Int} (h : El P a) : fmul P 1 a = a := by
  rw [fmul, vn_one F, one_mul' F.hk (vn_sup a), F.nvn h]
/-- r + n c less s + m c (r = s) is (n - m) c -/
theorem Fld.sub_lin (F : Fld P) (r n m c : Int) : fsub P (fsum P r (fmul P n c)) (fsum P r (fmul P m c)) = fmul P (fsub P n m) c := by
  rw [fsub, F.sum_vn, F.sum_vn, F.mul_vn, F.mul_vn, fmul, F.sub_vn]
  refine nv_congr ?_
  have e1 : ∀ x : Vc, Eqm P.p (red P.p (vadd (vn P.p P.k r) (red P.p x))) (vadd (vn P.p P.k r) x) := fun x => (red_eqm _ _).trans ((Eqm.refl _).add (red_eqm _ _))
  refine ((e1 _).sub (e1 _)).trans ?_
  refine Eqm.trans (Eqm.of_eq ?_) ((red_eqm P.p _).symm.mul (Eqm.refl _))
  rw [mul_subL]
  funext i
  simp only [vsub, vadd]
  omega
/-- (r + n c) - r = n c -/
theorem Fld.sub_left (F : Fld P) {r : Int} (n c : Int) (h : El P r) : fsub P (fsum P r (fmul P n c)) r = fmul P n c := by
  have e := F.sub_lin r n 0 c
  rw [F.zero_mul, F.sum_zero h] at e
  rw [e, fmul, F.sub_vn, vn_zero, fmul]
  refine nv_congr (((red_eqm P.p _).trans (Eqm.of_eq ?_)).mul (Eqm.refl _))
  funext i
  simp [vsub, vzero]
/-- what is 0 by difference is alike -/
theorem Fld.sub_zero_iff (F : Fld P) {a b : Int} (ha : El P a) (hb : El P b) (h : fsub P a b = 0) : a = b := by
  have e := F.sum_sub b ha
  rw [h] at e
  have e2 : fsum P 0 b = b := by
    rw [fsum, vn_zero, zero_vadd, F.nvn hb]
  rw [← e, e2]
theorem Fld.sub_ne (F : Fld P) {a b : Int} (ha : El P a) (hb : El P b) (h : a ≠ b) : 0 < fsub P a b := by
  have h1 := (F.sub_el a b).1
  have h2 : fsub P a b ≠ 0 := fun e => h (F.sub_zero_iff ha hb e)
  omega
/-- r + n c = s + n d: r - s = n (d - c) -/
theorem Fld.apart (F : Fld P) {r s n c d : Int} (hr : El P r) (hs : El P s) (h : fsum P r (fmul P n c) = fsum P s (fmul P n d)) : fsub P r s = fmul P n (fsub P d c) := by
  have e : fsub P r s = nv P.p P.k (vsub (vn P.p P.k r) (vn P.p P.k s)) := rfl
  rw [e, fmul, F.sub_vn]
  refine nv_congr ?_
  have hv : vn P.p P.k (fsum P r (fmul P n c)) = vn P.p P.k (fsum P s (fmul P n d)) := by rw [h]
  rw [F.sum_vn, F.sum_vn, F.mul_vn, F.mul_vn] at hv
  have e1 : ∀ y x : Vc, Eqm P.p (red P.p (vadd y (red P.p x))) (vadd y x) := fun y x => (red_eqm _ _).trans ((Eqm.refl _).add (red_eqm _ _))
  have hw := (e1 _ _).symm.trans ((Eqm.of_eq hv).trans (e1 _ _))
  refine Eqm.trans ?_ ((Eqm.refl _).mul (red_eqm P.p _).symm)
  have e2 : mul P.k P.f (vn P.p P.k n) (vsub (vn P.p P.k d) (vn P.p P.k c)) = vsub (mul P.k P.f (vn P.p P.k n) (vn P.p P.k d)) (mul P.k P.f (vn P.p P.k n) (vn P.p P.k c)) := by
    rw [mul_comm' (vn_sup n) (vsub_sup (vn_sup d) (vn_sup c)), mul_subL, mul_comm' (vn_sup d) (vn_sup n), mul_comm' (vn_sup c) (vn_sup n)]
  rw [e2]
  have hx := (hw.sub (Eqm.refl (vadd (vn P.p P.k s) (mul P.k P.f (vn P.p P.k n) (vn P.p P.k c)))))
  refine Eqm.trans (Eqm.of_eq ?_) (hx.trans (Eqm.of_eq ?_))
  · funext i
    simp only [vsub, vadd]
    omega
  · funext i
    simp only [vsub, vadd]
    omega
/-- b a divided by a -/
theorem Fld.mul_inv (F : Fld P) {a b : Int} (a0 : 0 < a) (a1 : a < P.q) (hb : El P b) : fmul P (fmul P b a) (finv P a) = b := by
  have hq := F.q2
  rw [fmul, F.mul_vn, finv, F.pow_vn]
  refine Eq.trans (nv_congr (v := vn P.p P.k b) ?_) (F.nvn hb)
  refine ((red_eqm P.p _).mul (red_eqm P.p _)).trans ?_
  rw [mul_assoc' (vn_sup b) (vn_sup a) (pw_sup F.hk (vn_sup a) _)]
  have e : mul P.k P.f (vn P.p P.k a) (pw P.k P.f (vn P.p P.k a) (P.q - 2).toNat) = pw P.k P.f (vn P.p P.k a) (P.q - 1).toNat := by
    have e1 : (P.q - 1).toNat = 1 + (P.q - 2).toNat := by omega
    rw [e1, pw_add F.hk (vn_sup a), pw_one F.hk (vn_sup a)]
  rw [e]
  refine ((Eqm.refl _).mul (F.unit a a0 a1)).trans (Eqm.of_eq ?_)
  exact mul_one' (vn_sup b)
theorem Fld.mul_comm (F : Fld P) (a b : Int) : fmul P a b = fmul P b a := by
  rw [fmul, fmul, mul_comm' (vn_sup a) (vn_sup b)]
/-- the column: n c / n -/
theorem Fld.col (F : Fld P) {n m r c : Int} (hn : El P n) (hm : El P m) (hc : El P c) (h : n ≠ m) :
    fmul P (fsub P (fsum P r (fmul P n c)) (fmul P 1 (fsum P r (fmul P m c)))) (finv P (fsub P n m)) = c := by
  rw [F.one_mul (F.sum_el _ _), F.sub_lin, F.mul_comm (fsub P n m) c]
  exact F.mul_inv (F.sub_ne hn hm h) (F.sub_el _ _).2 hc
end
/-! ### what the program's functions give -/
theorem num_nv {p : Int} (hp : 0 < p) {k : Nat} {l : List Int} (h : Dg p l) (hl : l.length = k) : num p l = nv p k (vec l) := by
  simp only [nv]
  rw [vec_red hp h, toL_vec hl]
theorem fmul_is {P : Part} (hp : 1 < P.p) (hk : 0 < P.k) (a b : Int) : num P.p (rema P.p P.lower (mult P.p (figs P.p P.k a) (figs P.p P.k b))) = fmul P a b := by
  rw [num_nv (by omega) (rema_dg (by omega) (mult_dg (by omega) _ _)) (rema_len _ _ _), fmul]
  exact nv_congr (vec_fmul hk (figs_len _ _ _) (figs_len _ _ _))
theorem fpow_is {P : Part} (hp : 1 < P.p) (hk : 0 < P.k) (a : Int) (n : Nat) : num P.p (raised P.p P.lower (figs P.p P.k a) n) = fpow P a n := by
  rw [num_nv (by omega) (raised_dg hp _ _) (raised_len hk _ _), fpow]
  exact nv_congr (raised_vec hk (figs_len _ _ _) n)
/-- sums by powers -/
def sumTo (p : Int) (v : Vc) : Nat → Int
  | 0 => 0
  | n + 1 => sumTo p v n + v n * p ^ n
theorem num_append (p : Int) : ∀ (l : List Int) (x : Int), num p (l ++ [x]) = num p l + x * p ^ l.length
  | [], x => by simp [num]
  | a :: l, x => by
    simp only [List.cons_append, num, num_append p l x, List.length_cons, Int.pow_succ]
    grind
theorem num_toL (p : Int) (v : Vc) : ∀ k, num p (toL k v) = sumTo p v k
  | 0 => rfl
  | k + 1 => by
    have e : toL (k + 1) v = toL k v ++ [v k] := by simp [toL, List.range_succ]
    rw [e, num_append, num_toL p v k, toL_len]
    rfl
theorem figs_get (p : Int) : ∀ {k i : Nat} {n : Int}, i < k → 0 < p → vec (figs p k n) i = n / p ^ i % p
  | 0, _, _, h, _ => absurd h (by omega)
  | k + 1, 0, n, _, _ => by simp [figs, vec]
  | k + 1, i + 1, n, h, hp => by
    have ih := figs_get p (k := k) (i := i) (n := n / p) (by omega) hp
    simp only [vec] at ih
    simp only [vec, figs, List.getD_cons_succ, ih]
    rw [Int.ediv_ediv_of_nonneg (by omega), Int.pow_succ, Int.mul_comm]
theorem sumTo_congr {p : Int} {u v : Vc} : ∀ {n : Nat}, (∀ i, i < n → u i = v i) → sumTo p u n = sumTo p v n
  | 0, _ => rfl
  | n + 1, h => by
    simp only [sumTo]
    rw [sumTo_congr fun i hi => h i (by omega), h n (by omega)]
theorem sumTo_more {p : Int} {v : Vc} {n m : Nat} (h : n ≤ m) (hz : ∀ i, n ≤ i → i < m → v i = 0) : sumTo p v m = sumTo p v n := by
  induction m with
  | zero => rw [show n = 0 by omega]
  | succ m ih =>
    by_cases e : n = m + 1
    · rw [e]
    · simp only [sumTo]
      rw [ih (by omega) fun i h1 h2 => hz i h1 (by omega), hz m (by omega) (by omega)]
      simp
/-- the figures that sum_of adds -/
def sfig (p a b : Int) : Vc := fun i => (a / p ^ i + b / p ^ i) % p
def dfig (p a b : Int) : Vc := fun i => (a / p ^ i - b / p ^ i) % p
theorem div_pow_zero {p a : Int} {k i : Nat} (hp : 1 < p) (h0 : 0 ≤ a) (h1 : a < p ^ k) (h : k ≤ i) : a / p ^ i = 0 := by
  apply Int.ediv_eq_zero_of_lt h0
  have : p ^ k ≤ p ^ i := by
    obtain ⟨d, rfl⟩ : ∃ d, i = k + d := ⟨i - k, by omega⟩
    rw [Int.pow_add]
    have h2 : (0 : Int) < p ^ k := Int.pow_pos (by omega)
    have h3 : (0 : Int) < p ^ d := Int.pow_pos (by omega)
    have h4 : p ^ k * 1 ≤ p ^ k * p ^ d := Int.mul_le_mul_of_nonneg_left (by omega) (by omega)
    omega
  omega
theorem fsum_is {P : Part} (hp : 1 < P.p) {a b : Int} (ha : El P a) (hb : El P b) {i : Nat} (h1 : a / P.p ^ i = 0) (h2 : b / P.p ^ i = 0) : sumTo P.p (sfig P.p a b) i = fsum P a b := by
  rw [fsum, nv, num_toL]
  have e : sumTo P.p (red P.p (vadd (vn P.p P.k a) (vn P.p P.k b))) P.k = sumTo P.p (sfig P.p a b) P.k := by
    refine sumTo_congr fun j hj => ?_
    simp only [red, vadd, vn, sfig]
    rw [figs_get P.p hj (by omega), figs_get P.p hj (by omega), ← Int.add_emod]
  rw [e]
  have z : ∀ (x : Int) (j : Nat), x / P.p ^ i = 0 → i ≤ j → x / P.p ^ j = 0 := by
    intro x j hx hj
    obtain ⟨d, rfl⟩ : ∃ d, j = i + d := ⟨j - i, by omega⟩
    rw [Int.pow_add, ← Int.ediv_ediv_of_nonneg (Int.le_of_lt (Int.pow_pos (by omega))), hx, Int.zero_ediv]
  by_cases h : i ≤ P.k
  · refine (sumTo_more h fun j hj _ => ?_).symm
    simp only [sfig]
    rw [z a j h1 hj, z b j h2 hj]
    simp
  · refine sumTo_more (by omega) fun j hj _ => ?_
    simp only [sfig]
    rw [div_pow_zero hp ha.1 ha.2 hj, div_pow_zero hp hb.1 hb.2 hj]
    simp
theorem fsub_is {P : Part} (hp : 1 < P.p) {a b : Int} (ha : El P a) (hb : El P b) {i : Nat} (h1 : a / P.p ^ i = 0) (h2 : b / P.p ^ i = 0) : sumTo P.p (dfig P.p a b) i = fsub P a b := by
  rw [fsub, nv, num_toL]
  have e : sumTo P.p (red P.p (vsub (vn P.p P.k a) (vn P.p P.k b))) P.k = sumTo P.p (dfig P.p a b) P.k := by
    refine sumTo_congr fun j hj => ?_
    simp only [red, vsub, vn, dfig]
    rw [figs_get P.p hj (by omega), figs_get P.p hj (by omega), ← Int.sub_emod]
  rw [e]
  have z : ∀ (x : Int) (j : Nat), x / P.p ^ i = 0 → i ≤ j → x / P.p ^ j = 0 := by
    intro x j hx hj
    obtain ⟨d, rfl⟩ : ∃ d, j = i + d := ⟨j - i, by omega⟩
    rw [Int.pow_add, ← Int.ediv_ediv_of_nonneg (Int.le_of_lt (Int.pow_pos (by omega))), hx, Int.zero_ediv]
  by_cases h : i ≤ P.k
  · refine (sumTo_more h fun j hj _ => ?_).symm
    simp only [dfig]
    rw [z a j h1 hj, z b j h2 hj]
    simp
  · refine sumTo_more (by omega) fun j hj _ => ?_
    simp only [dfig]
    rw [div_pow_zero hp ha.1 ha.2 hj, div_pow_zero hp hb.1 hb.2 hj]
    simp
end Msq
namespace Msq
/-! ### the search for the polynomial -/
def trimN (l : List Int) : Nat → Nat
  | 0 => 0
  | n + 1 => if l.getD n 0 = 0 then trimN l n else n + 1
def trim (l : List Int) : List Int := l.take (trimN l l.length)
def turnL (p : Int) : Nat → Int → Int → Nat → Int
  | 0, found, _, _ => found
  | fuel + 1, found, number, times => if times = 0 then found else turnL p fuel (if times % 2 = 1 then found * number % p else found) (number * number % p) (times / 2)
def turned (p number : Int) : Int := turnL p (p - 2).toNat 1 number (p - 2).toNat
def hcL (p : Int) : Nat → List Int → List Int → Bool
  | 0, first, _ => decide (1 < first.length)
  | fuel + 1, first, second =>
    if second = [] then decide (1 < first.length) else
    hcL p fuel second (trim (rema p (second.dropLast.map fun part => part * turned p (second.getD (second.length - 1) 0) % p) first))
def hc (p : Int) (one other : List Int) : Bool := hcL p (trim other).length (trim one) (trim other)
def irrL (p : Int) (lower : List Int) : Nat → List Int → Bool
  | 0, _ => true
  | n + 1, figures =>
    if hc p (lower ++ [1]) ((raised p lower figures p.toNat).set 1 (((raised p lower figures p.toNat).getD 1 0 - 1) % p)) then false else irrL p lower n (raised p lower figures p.toNat)
def isIrr (p : Int) (lower : List Int) : Bool := irrL p lower (lower.length / 2) (rema p lower [0, 1])
/-! ### primes by trial -/
def trial (n : Nat) : Nat → Nat → Bool
  | 0, _ => false
  | fuel + 1, d => if n < d * d then true else if n % d = 0 then false else trial n fuel (d + 1)
theorem trial_ok {n : Nat} : ∀ (fuel d : Nat), trial n fuel d = true → ∀ x, d ≤ x → x * x ≤ n → n % x ≠ 0
  | 0, d, h => by simp [trial] at h
  | fuel + 1, d, h => by
    intro x hx hxx
    simp only [trial] at h
    by_cases h1 : n < d * d
    · exfalso
      have := Nat.mul_le_mul hx hx
      omega
    · rw [if_neg h1] at h
      by_cases h2 : n % d = 0
      · rw [if_pos h2] at h
        cases h
      · rw [if_neg h2] at h
        by_cases e : x = d
        · rw [e]; exact h2
        · exact trial_ok fuel (d + 1) h x (by omega) hxx
/-- a number with no divisor up to its root has none -/
theorem prime_dvd {n : Nat} (hn : 1 < n) {fuel : Nat} (h : trial n fuel 2 = true) {d : Nat} (hd : d ∣ n) : d = 1 ∨ d = n := by
  obtain ⟨c, hc⟩ := hd
  have nz : d ≠ 0 := by rintro rfl; omega
  have cz : c ≠ 0 := by rintro rfl; omega
  by_cases h1 : d = 1
  · exact Or.inl h1
  · by_cases h2 : c = 1
    · right
      rw [hc, h2, Nat.mul_one]
    · exfalso
      rcases Nat.le_total d c with hle | hle
      · exact trial_ok fuel 2 h d (by omega) (by rw [hc]; exact Nat.mul_le_mul (Nat.le_refl d) hle) (by rw [hc]; exact Nat.mul_mod_right d c)
      · exact trial_ok fuel 2 h c (by omega) (by rw [hc]; exact Nat.mul_le_mul hle (Nat.le_refl c)) (by rw [hc]; exact Nat.mul_mod_left d c)
def prodN : List Nat → Nat
  | [] => 1
  | r :: rs => r * prodN rs
theorem divBy_of : ∀ {fs : List Nat}, (∀ r ∈ fs, 1 < r ∧ trial r 2000 2 = true) → DivBy (prodN fs) fs
  | [], _ => by
    intro m hm h1
    exact absurd (Nat.dvd_one.mp hm) h1
  | r :: rs, h => by
    intro m hm h1
    by_cases hr : r ∣ m
    · exact ⟨r, by simp, hr⟩
    · have h2 := h r (by simp)
      have co : Nat.Coprime m r := by
        have g1 : Nat.gcd m r ∣ r := Nat.gcd_dvd_right m r
        rcases prime_dvd h2.1 h2.2 g1 with e | e
        · exact e
        · exact absurd (e ▸ Nat.gcd_dvd_left m r) hr
      have hm' : m ∣ prodN rs := co.dvd_of_dvd_mul_left hm
      obtain ⟨r', a, b⟩ := divBy_of (fun x hx => h x (by simp [hx])) m hm' h1
      exact ⟨r', by simp [a], b⟩
theorem DivBy.sub {N : Nat} {fs rs : List Nat} (h : DivBy N fs) (hs : ∀ r ∈ fs, r ∈ rs) : DivBy N rs := fun m a b => by
  obtain ⟨r, c, d⟩ := h m a b
  exact ⟨r, hs r c, d⟩
/-! ### the table: a prime, a degree, the polynomial's number, an element whose powers are all others, the divisors of their number -/
structure Ent where
  p : Nat
  k : Nat
  n : Nat
  g : Nat
  rs : List Nat
  fs : List Nat
def Ent.P (e : Ent) : Part := ⟨(e.p : Int), figs e.p e.k e.n⟩
def Ent.units (e : Ent) : Nat := e.p ^ e.k - 1
def one_ (k : Nat) : List Int := 1 :: List.replicate (k - 1) 0
/-- the search ends at n -/
def Ent.found (e : Ent) : Bool := (List.range e.n).all (fun m => !isIrr e.p (figs e.p e.k m)) && isIrr e.p (figs e.p e.k e.n)
def Ent.gen (e : Ent) : Bool :=
  decide (raised e.p (figs e.p e.k e.n) (figs e.p e.k e.g) e.units = one_ e.k) && e.rs.all fun r => decide (0 < r) && !decide (raised e.p (figs e.p e.k e.n) (figs e.p e.k e.g) (e.units / r) = one_ e.k)
def Ent.facs (e : Ent) : Bool := e.fs.all (fun r => decide (1 < r) && trial r 2000 2 && decide (r ∈ e.rs)) && decide (prodN e.fs = e.units)
def Ent.size (e : Ent) : Bool := decide (1 < e.p) && decide (0 < e.k) && decide (e.k ≤ 4) && decide (e.p ≤ 999983) && (decide (e.k = 1) || decide (e.p ≤ 97)) && trial e.p 1001 2 && decide (e.n < 100)
theorem Ent.fld {e : Ent} (hs : e.size = true) (hf : e.facs = true) (hg : e.gen = true) : Fld e.P := by
  simp only [Ent.size, Bool.and_eq_true, decide_eq_true_eq] at hs
  obtain ⟨⟨⟨⟨⟨⟨h1, h2⟩, h3⟩, h4⟩, h5⟩, h6⟩, h7⟩ := hs
  have hk : e.P.lower.length = e.k := figs_len _ _ _
  have hp : (1 : Int) < e.P.p := by simp only [Ent.P]; omega
  have hk0 : 0 < e.P.lower.length := by rw [hk]; exact h2
  simp only [Ent.facs, Bool.and_eq_true, List.all_eq_true, decide_eq_true_eq] at hf
  simp only [Ent.gen, Bool.and_eq_true, List.all_eq_true, decide_eq_true_eq, Bool.not_eq_true', decide_eq_false_iff_not] at hg
  have hq : e.P.q = ((e.units : Nat) : Int) + 1 := by
    have hpos : 0 < e.p ^ e.k := Nat.pow_pos (by omega)
    simp only [Part.q, hk, Ent.units]
    show ((e.p : Int)) ^ e.k = _
    rw [← Int.natCast_pow]
    omega
  have hG : Sup e.P.k (vec (figs e.P.p e.k e.g)) := by
    rw [show e.P.k = e.k from hk]
    exact vn_sup _
  have ev : vec (one_ e.k) = eb 0 := by
    funext i
    cases i with
    | zero => rfl
    | succ i =>
      simp only [one_, vec, eb, List.getD_cons_succ]
      rw [List.getD_eq_getElem?_getD, List.getElem?_replicate, if_neg (show ¬ i + 1 = 0 by omega)]
      split <;> rfl
  have hl : (figs e.P.p e.k e.g).length = e.P.lower.length := by rw [figs_len, hk]
  have od : Dg e.P.p (one_ e.k) := by
    intro x hx
    simp only [one_, List.mem_cons, List.mem_replicate] at hx
    rcases hx with rfl | ⟨_, rfl⟩ <;> omega
  have key : ∀ t, raised e.P.p e.P.lower (figs e.P.p e.k e.g) t = one_ e.k ↔ Eqm e.P.p (pw e.P.k e.P.f (vec (figs e.P.p e.k e.g)) t) (eb 0) := by
    intro t
    have rv := raised_vec (p := e.P.p) hk0 hl t
    constructor
    · intro h
      rw [h, ev] at rv
      exact rv.symm
    · intro h
      refine dg_eq (by omega) (raised_dg hp _ _) od ?_ fun i _ => ?_
      · rw [raised_len hk0, hk]
        simp [one_]
        omega
      · rw [ev]
        exact (rv.trans h) i
  refine ⟨hp, hk0, fun a a0 a1 => ?_⟩
  have hu : (e.P.q - 1).toNat = e.units := by omega
  rw [hu]
  have hN : 0 < e.units := by
    have h2q : e.p ^ 1 ≤ e.p ^ e.k := Nat.pow_le_pow_right (by omega) h2
    rw [Nat.pow_one] at h2q
    simp only [Ent.units]
    omega
  refine unit_pow hp hk0 hG hq hN (rs := e.rs) ?_ (fun r hr => ⟨(hg.2 r hr).1, fun h => (hg.2 r hr).2 ((key _).mpr h)⟩) ((key _).mp hg.1) a0 a1
  have hd := divBy_of (fs := e.fs) fun r hr => (hf.1 r hr).1
  rw [hf.2] at hd
  exact hd.sub fun r hr => (hf.1 r hr).2
end Msq
set_option maxRecDepth 100000
namespace Msq
/-! ### the 43 fields that the law draws (printed by tab.py) -/
def tab : List Ent := [
  ⟨2, 1, 0, 1, [], []⟩,
  ⟨2, 2, 3, 2, [3], [3]⟩,
  ⟨2, 3, 3, 2, [7], [7]⟩,
  ⟨2, 4, 3, 2, [3, 5], [3, 5]⟩,
  ⟨3, 1, 0, 2, [2], [2]⟩,
  ⟨3, 2, 1, 4, [2], [2, 2, 2]⟩,
  ⟨3, 3, 7, 3, [2, 13], [2, 13]⟩,
  ⟨3, 4, 5, 3, [2, 5], [2, 2, 2, 2, 5]⟩,
  ⟨5, 1, 0, 2, [2], [2, 2]⟩,
  ⟨5, 2, 2, 6, [2, 3], [2, 2, 2, 3]⟩,
  ⟨5, 3, 6, 9, [2, 31], [2, 2, 31]⟩,
  ⟨5, 4, 2, 6, [2, 3, 13], [2, 2, 2, 2, 3, 13]⟩,
  ⟨7, 1, 0, 3, [2, 3], [2, 3]⟩,
  ⟨7, 2, 1, 9, [2, 3], [2, 2, 2, 2, 3]⟩,
  ⟨7, 3, 2, 22, [2, 3, 19], [2, 3, 3, 19]⟩,
  ⟨7, 4, 8, 12, [2, 3, 5], [2, 2, 2, 2, 2, 3, 5, 5]⟩,
  ⟨11, 1, 0, 2, [2, 5], [2, 5]⟩,
  ⟨11, 2, 1, 15, [2, 3, 5], [2, 2, 2, 3, 5]⟩,
  ⟨11, 3, 15, 11, [2, 5, 7, 19], [2, 5, 7, 19]⟩,
  ⟨11, 4, 13, 11, [2, 3, 5, 61], [2, 2, 2, 2, 3, 5, 61]⟩,
  ⟨13, 1, 0, 2, [2, 3], [2, 2, 3]⟩,
  ⟨13, 2, 2, 15, [2, 3, 7], [2, 2, 2, 3, 7]⟩,
  ⟨13, 3, 2, 15, [2, 3, 61], [2, 2, 3, 3, 61]⟩,
  ⟨13, 4, 2, 17, [2, 3, 5, 7, 17], [2, 2, 2, 2, 3, 5, 7, 17]⟩,
  ⟨17, 1, 0, 3, [2], [2, 2, 2, 2]⟩,
  ⟨17, 2, 3, 19, [2, 3], [2, 2, 2, 2, 2, 3, 3]⟩,
  ⟨17, 3, 20, 17, [2, 307], [2, 2, 2, 2, 307]⟩,
  ⟨17, 4, 3, 307, [2, 3, 5, 29], [2, 2, 2, 2, 2, 2, 3, 3, 5, 29]⟩,
  ⟨89, 1, 0, 3, [2, 11], [2, 2, 2, 11]⟩,
  ⟨89, 2, 3, 91, [2, 3, 5, 11], [2, 2, 2, 2, 3, 3, 5, 11]⟩,
  ⟨89, 3, 93, 91, [2, 11, 8011], [2, 2, 2, 11, 8011]⟩,
  ⟨89, 4, 3, 100, [2, 3, 5, 11, 17, 233], [2, 2, 2, 2, 2, 3, 3, 5, 11, 17, 233]⟩,
  ⟨97, 1, 0, 5, [2, 3], [2, 2, 2, 2, 2, 3]⟩,
  ⟨97, 2, 5, 101, [2, 3, 7], [2, 2, 2, 2, 2, 2, 3, 7, 7]⟩,
  ⟨97, 3, 2, 102, [2, 3, 3169], [2, 2, 2, 2, 2, 3, 3, 3169]⟩,
  ⟨97, 4, 5, 99, [2, 3, 5, 7, 941], [2, 2, 2, 2, 2, 2, 2, 3, 5, 7, 7, 941]⟩,
  ⟨101, 1, 0, 2, [2, 5], [2, 2, 5, 5]⟩,
  ⟨1009, 1, 0, 11, [2, 3, 7], [2, 2, 2, 2, 3, 3, 7]⟩,
  ⟨999953, 1, 0, 3, [2, 62497], [2, 2, 2, 2, 62497]⟩,
  ⟨999959, 1, 0, 7, [2, 499979], [2, 499979]⟩,
  ⟨999961, 1, 0, 11, [2, 3, 5, 13, 641], [2, 2, 2, 3, 5, 13, 641]⟩,
  ⟨999979, 1, 0, 2, [2, 3, 7, 29, 821], [2, 3, 7, 29, 821]⟩,
  ⟨999983, 1, 0, 5, [2, 79, 6329], [2, 79, 6329]⟩]
theorem tab_size : tab.all Ent.size = true := by decide +kernel
theorem tab_facs : tab.all Ent.facs = true := by decide +kernel
theorem tab_found : tab.all Ent.found = true := by decide +kernel
theorem tab_gen : tab.all Ent.gen = true := by decide +kernel
end Msq
namespace Msq
/-! ### points and their figures -/
def ordP : List Part → Int
  | [] => 1
  | P :: Ps => P.q * ordP Ps
def splitP : List Part → Int → List Int
  | [], _ => []
  | P :: Ps, n => n / ordP Ps % P.q :: splitP Ps n
def joinP : List Part → List Int → Int
  | P :: Ps, d :: ds => d * ordP Ps + joinP Ps ds
  | _, _ => 0
inductive Els : List Part → List Int → Prop
  | nil : Els [] []
  | cons {P : Part} {Ps : List Part} {d : Int} {ds : List Int} : El P d → Els Ps ds → Els (P :: Ps) (d :: ds)
def Flds (Ps : List Part) : Prop := ∀ P ∈ Ps, Fld P
theorem Flds.head {P : Part} {Ps : List Part} (h : Flds (P :: Ps)) : Fld P := h P (by simp)
theorem Flds.tail {P : Part} {Ps : List Part} (h : Flds (P :: Ps)) : Flds Ps := fun Q hQ => h Q (by simp [hQ])
theorem Fld.qpos {P : Part} (F : Fld P) : 0 < P.q := by have := F.q2; omega
theorem ordP_pos : ∀ {Ps : List Part}, Flds Ps → 0 < ordP Ps
  | [], _ => by simp [ordP]
  | P :: Ps, h => by
    simp only [ordP]
    exact Int.mul_pos h.head.qpos (ordP_pos h.tail)
theorem ordP_two : ∀ {Ps : List Part}, Flds Ps → Ps ≠ [] → 2 ≤ ordP Ps
  | [], _, h => absurd rfl h
  | P :: Ps, h, _ => by
    have h1 := h.head.q2
    have h2 := ordP_pos h.tail
    simp only [ordP]
    have h3 : P.q * 1 ≤ P.q * ordP Ps := Int.mul_le_mul_of_nonneg_left (by omega) (by omega)
    omega
theorem split_len : ∀ (Ps : List Part) (n : Int), (splitP Ps n).length = Ps.length
  | [], _ => rfl
  | P :: Ps, n => by simp [splitP, split_len Ps n]
theorem split_els : ∀ {Ps : List Part}, Flds Ps → ∀ n, Els Ps (splitP Ps n)
  | [], _, _ => .nil
  | P :: Ps, h, n => .cons ⟨Int.emod_nonneg _ (by have := h.head.qpos; omega), Int.emod_lt_of_pos _ h.head.qpos⟩ (split_els h.tail n)
theorem join_bd : ∀ {Ps : List Part} {ds : List Int}, Flds Ps → Els Ps ds → 0 ≤ joinP Ps ds ∧ joinP Ps ds < ordP Ps
  | [], _, _, .nil => by simp [joinP, ordP]
  | P :: Ps, _, h, .cons (d := d) (ds := ds) hd e => by
    have ih := join_bd h.tail e
    have h2 := ordP_pos h.tail
    simp only [joinP, ordP]
    have h3 : 0 ≤ d * ordP Ps := Int.mul_nonneg hd.1 (by omega)
    have h4 : (d + 1) * ordP Ps ≤ P.q * ordP Ps := Int.mul_le_mul_of_nonneg_right (by have := hd.2; omega) (by omega)
    rw [Int.add_mul, Int.one_mul] at h4
    omega
theorem split_add : ∀ {Ps : List Part}, Flds Ps → ∀ m j, splitP Ps (m * ordP Ps + j) = splitP Ps j
  | [], _, _, _ => rfl
  | P :: Ps, h, m, j => by
    have h2 := ordP_pos h.tail
    have e : m * ordP (P :: Ps) + j = m * P.q * ordP Ps + j := by simp only [ordP]; rw [Int.mul_assoc]
    rw [e]
    simp only [splitP]
    rw [split_add h.tail]
    congr 1
    rw [Int.add_comm, Int.add_mul_ediv_right _ _ (by omega), Int.add_mul_emod_self_right]
theorem split_join : ∀ {Ps : List Part} {ds : List Int}, Flds Ps → Els Ps ds → splitP Ps (joinP Ps ds) = ds
  | [], _, _, .nil => rfl
  | P :: Ps, _, h, .cons (d := d) (ds := ds) hd e => by
    have ih := split_join h.tail e
    have b := join_bd h.tail e
    have h2 := ordP_pos h.tail
    simp only [joinP, splitP]
    rw [split_add h.tail, ih]
    congr 1
    rw [Int.add_comm, Int.add_mul_ediv_right _ _ (by omega), Int.ediv_eq_zero_of_lt b.1 b.2, Int.zero_add]
    exact Int.emod_eq_of_lt hd.1 hd.2
theorem join_split_mod : ∀ {Ps : List Part}, Flds Ps → ∀ n, joinP Ps (splitP Ps n) = n % ordP Ps
  | [], _, n => by simp [joinP, ordP, splitP]
  | P :: Ps, h, n => by
    have h2 := ordP_pos h.tail
    simp only [joinP, splitP, ordP]
    rw [join_split_mod h.tail n]
    have e1 := Int.emod_add_mul_ediv n (ordP Ps)
    have e2 := Int.emod_add_mul_ediv (n / ordP Ps) P.q
    have b1 := Int.emod_nonneg n (show ordP Ps ≠ 0 by omega)
    have b2 := Int.emod_lt_of_pos n h2
    have hq := h.head.qpos
    have b3 := Int.emod_nonneg (n / ordP Ps) (show P.q ≠ 0 by omega)
    have b4 := Int.emod_lt_of_pos (n / ordP Ps) hq
    have e3 : n = (n / ordP Ps % P.q * ordP Ps + n % ordP Ps) + P.q * ordP Ps * (n / ordP Ps / P.q) := by grind
    have b5 : 0 ≤ n / ordP Ps % P.q * ordP Ps := Int.mul_nonneg b3 (by omega)
    have b6 : (n / ordP Ps % P.q + 1) * ordP Ps ≤ P.q * ordP Ps := Int.mul_le_mul_of_nonneg_right (by omega) (by omega)
    rw [Int.add_mul, Int.one_mul] at b6
    conv => rhs; rw [e3]
    rw [Int.add_mul_emod_self_left]
    exact (Int.emod_eq_of_lt (by omega) (by omega)).symm
theorem join_split {Ps : List Part} (h : Flds Ps) {n : Int} (h0 : 0 ≤ n) (h1 : n < ordP Ps) : joinP Ps (splitP Ps n) = n := by
  rw [join_split_mod h, Int.emod_eq_of_lt h0 h1]
theorem split_inj {Ps : List Part} (h : Flds Ps) {n m : Int} (h0 : 0 ≤ n) (h1 : n < ordP Ps) (g0 : 0 ≤ m) (g1 : m < ordP Ps) (e : splitP Ps n = splitP Ps m) : n = m := by
  rw [← join_split h h0 h1, ← join_split h g0 g1, e]
/-! ### figure by figure -/
def cmb (t : Part → Int → Int → Int) (kind : Int) : List Part → List Int → List Int → List Int
  | P :: Ps, a :: as, b :: bs => t P a (fmul P kind b) :: cmb t kind Ps as bs
  | _, _, _ => []
def dvd (kind other : Int) : List Part → List Int → List Int
  | P :: Ps, a :: as => fmul P a (finv P (fsub P kind other)) :: dvd kind other Ps as
  | _, _ => []
def subs : List Part → List Int → List Int → List Int
  | P :: Ps, a :: as, b :: bs => fsub P a b :: subs Ps as bs
  | _, _, _ => []
/-- a kind from 0 on below all sizes -/
def Kd (Ps : List Part) (j : Int) : Prop := 0 ≤ j ∧ ∀ P ∈ Ps, j < P.q
theorem Kd.head {P : Part} {Ps : List Part} {j : Int} (h : Kd (P :: Ps) j) : El P j := ⟨h.1, h.2 P (by simp)⟩
theorem Kd.tail {P : Part} {Ps : List Part} {j : Int} (h : Kd (P :: Ps) j) : Kd Ps j := ⟨h.1, fun Q hQ => h.2 Q (by simp [hQ])⟩
theorem cmb_len (t : Part → Int → Int → Int) (kind : Int) : ∀ {Ps : List Part} {as bs : List Int}, as.length = Ps.length → bs.length = Ps.length → (cmb t kind Ps as bs).length = Ps.length
  | [], _, _, _, _ => by simp [cmb]
  | P :: Ps, a :: as, b :: bs, h1, h2 => by simp at h1 h2; simp [cmb, cmb_len t kind h1 h2]
  | P :: Ps, [], _, h1, _ => by simp at h1
  | P :: Ps, _ :: _, [], _, h2 => by simp at h2
theorem cmbS_els (kind : Int) : ∀ {Ps : List Part} {as bs : List Int}, Flds Ps → Els Ps as → Els Ps bs → Els Ps (cmb fsum kind Ps as bs)
  | _, _, _, _, .nil, .nil => .nil
  | _, _, _, h, .cons ha ea, .cons hb eb => .cons (h.head.sum_el _ _) (cmbS_els kind h.tail ea eb)
theorem cmbD_els (kind : Int) : ∀ {Ps : List Part} {as bs : List Int}, Flds Ps → Els Ps as → Els Ps bs → Els Ps (cmb fsub kind Ps as bs)
  | _, _, _, _, .nil, .nil => .nil
  | _, _, _, h, .cons ha ea, .cons hb eb => .cons (h.head.sub_el _ _) (cmbD_els kind h.tail ea eb)
theorem dvd_els (k1 k2 : Int) : ∀ {Ps : List Part} {as : List Int}, Flds Ps → Els Ps as → Els Ps (dvd k1 k2 Ps as)
  | _, _, _, .nil => .nil
  | _, _, h, .cons ha ea => .cons (h.head.mul_el _ _) (dvd_els k1 k2 h.tail ea)
theorem cmb_back (j : Int) : ∀ {Ps : List Part} {rs cs : List Int}, Flds Ps → Els Ps rs → Els Ps cs → cmb fsub j Ps (cmb fsum j Ps rs cs) cs = rs
  | _, _, _, _, .nil, .nil => rfl
  | _, _, _, h, .cons hr er, .cons hc ec => by
    simp only [cmb]
    rw [cmb_back j h.tail er ec, h.head.sub_sum _ hr]
theorem cmb_forth (j : Int) : ∀ {Ps : List Part} {ss cs : List Int}, Flds Ps → Els Ps ss → Els Ps cs → cmb fsum j Ps (cmb fsub j Ps ss cs) cs = ss
  | _, _, _, _, .nil, .nil => rfl
  | _, _, _, h, .cons hr er, .cons hc ec => by
    simp only [cmb]
    rw [cmb_forth j h.tail er ec, h.head.sum_sub _ hr]
theorem cmb_zero : ∀ {Ps : List Part} {rs cs : List Int}, Flds Ps → Els Ps rs → Els Ps cs → cmb fsum 0 Ps rs cs = rs
  | _, _, _, _, .nil, .nil => rfl
  | _, _, _, h, .cons hr er, .cons hc ec => by
    simp only [cmb]
    rw [cmb_zero h.tail er ec, h.head.zero_mul, h.head.sum_zero hr]
theorem dvd_col {i j : Int} (hij : i ≠ j) : ∀ {Ps : List Part} {rs cs : List Int}, Flds Ps → Kd Ps i → Kd Ps j → Els Ps rs → Els Ps cs →
    dvd i j Ps (cmb fsub 1 Ps (cmb fsum i Ps rs cs) (cmb fsum j Ps rs cs)) = cs
  | _, _, _, _, _, _, .nil, .nil => rfl
  | _, _, _, h, hi, hj, .cons hr er, .cons hc ec => by
    simp only [cmb, dvd]
    rw [dvd_col hij h.tail hi.tail hj.tail er ec, h.head.col hi.head hj.head hc hij]
theorem subs_len : ∀ {Ps : List Part} {as bs : List Int}, as.length = Ps.length → bs.length = Ps.length → (subs Ps as bs).length = Ps.length
  | [], _, _, _, _ => by simp [subs]
  | P :: Ps, a :: as, b :: bs, h1, h2 => by simp at h1 h2; simp [subs, subs_len h1 h2]
  | P :: Ps, [], _, h1, _ => by simp at h1
  | P :: Ps, _ :: _, [], _, h2 => by simp at h2
theorem subs_els : ∀ {Ps : List Part} {as bs : List Int}, Flds Ps → Els Ps as → Els Ps bs → Els Ps (subs Ps as bs)
  | _, _, _, _, .nil, .nil => .nil
  | _, _, _, h, .cons ha ea, .cons hb eb => .cons (h.head.sub_el _ _) (subs_els h.tail ea eb)
/-- j times each figure -/
def tms (j : Int) : List Part → List Int → List Int
  | P :: Ps, b :: bs => fmul P j b :: tms j Ps bs
  | _, _ => []
theorem subs_apart (j : Int) : ∀ {Ps : List Part} {rs cs ss ds : List Int}, Flds Ps → Els Ps rs → Els Ps cs → Els Ps ss → Els Ps ds → cmb fsum j Ps rs cs = cmb fsum j Ps ss ds →
    subs Ps rs ss = tms j Ps (subs Ps ds cs)
  | _, _, _, _, _, _, .nil, .nil, .nil, .nil, _ => rfl
  | _, _, _, _, _, h, .cons hr er, .cons hc ec, .cons hs es, .cons hd ed, e => by
    simp only [cmb, List.cons.injEq] at e
    simp only [subs, tms]
    rw [subs_apart j h.tail er ec es ed e.2, h.head.apart hr hs e.1]
theorem subs_left (j : Int) : ∀ {Ps : List Part} {rs cs : List Int}, Flds Ps → Els Ps rs → Els Ps cs → subs Ps (cmb fsum j Ps rs cs) rs = tms j Ps cs
  | _, _, _, _, .nil, .nil => rfl
  | _, _, _, h, .cons hr er, .cons hc ec => by
    simp only [cmb, subs, tms]
    rw [subs_left j h.tail er ec, h.head.sub_left _ _ hr]
theorem subs_same : ∀ {Ps : List Part} {as bs : List Int}, Flds Ps → Els Ps as → Els Ps bs → (∀ x ∈ subs Ps as bs, x = 0) → as = bs
  | _, _, _, _, .nil, .nil, _ => rfl
  | _, _, _, h, .cons ha ea, .cons hb eb, z => by
    rw [h.head.sub_zero_iff ha hb (z _ (by simp [subs])), subs_same h.tail ea eb fun x hx => z x (by simp [subs, hx])]
theorem split_zero : ∀ {Ps : List Part}, Flds Ps → ∀ {n : Int}, 0 ≤ n → n < ordP Ps → (∀ x ∈ splitP Ps n, x = 0) → n = 0 := fun {Ps} h n h0 h1 z => by
  have e : splitP Ps n = splitP Ps 0 := by
    have a : ∀ {Qs : List Part} {m : Int}, (∀ x ∈ splitP Qs m, x = 0) → splitP Qs m = splitP Qs 0 := by
      intro Qs m hz
      induction Qs with
      | nil => rfl
      | cons P Qs ih =>
        have h1 := hz (m / ordP Qs % P.q) (by simp [splitP])
        have h2 := ih fun x hx => hz x (by simp [splitP, hx])
        simp only [splitP]
        rw [h1, h2, Int.zero_ediv, Int.zero_emod]
    exact a z
  exact split_inj h h0 h1 (Int.le_refl 0) (by omega) e
/-! ### what a kind has at a cell -/
def hasP (Ps : List Part) (j r c : Int) : Int := if j = -1 then c else joinP Ps (cmb fsum j Ps (splitP Ps r) (splitP Ps c))
/-- a point -/
def Pt (Ps : List Part) (n : Int) : Prop := 0 ≤ n ∧ n < ordP Ps
section
variable {Ps : List Part} (F : Flds Ps)
include F
theorem has_pt {j r c : Int} (hc : Pt Ps c) : Pt Ps (hasP Ps j r c) := by
  simp only [hasP]
  split
  · exact hc
  · exact join_bd F (cmbS_els j F (split_els F r) (split_els F c))
theorem has_zero {r c : Int} (hr : Pt Ps r) : hasP Ps 0 r c = r := by
  simp only [hasP]
  rw [if_neg (by decide), cmb_zero F (split_els F r) (split_els F c), join_split F hr.1 hr.2]
theorem split_has {j r c : Int} (hj : j ≠ -1) : splitP Ps (hasP Ps j r c) = cmb fsum j Ps (splitP Ps r) (splitP Ps c) := by
  simp only [hasP]
  rw [if_neg hj, split_join F (cmbS_els j F (split_els F r) (split_els F c))]
/-- the row by a kind and the column -/
theorem row_of {j r c : Int} (hj : j ≠ -1) (hr : Pt Ps r) : joinP Ps (cmb fsub j Ps (splitP Ps (hasP Ps j r c)) (splitP Ps c)) = r := by
  rw [split_has F hj, cmb_back j F (split_els F r) (split_els F c), join_split F hr.1 hr.2]
/-- the column by two kinds -/
theorem col_of {i j r c : Int} (hi : Kd Ps i) (hj : Kd Ps j) (hij : i ≠ j) (hc : Pt Ps c) :
    joinP Ps (dvd i j Ps (splitP Ps (joinP Ps (cmb fsub 1 Ps (splitP Ps (hasP Ps i r c)) (splitP Ps (hasP Ps j r c)))))) = c := by
  have i1 : i ≠ -1 := by have := hi.1; omega
  have j1 : j ≠ -1 := by have := hj.1; omega
  rw [split_has F i1, split_has F j1]
  rw [split_join F (cmbD_els 1 F (cmbS_els i F (split_els F r) (split_els F c)) (cmbS_els j F (split_els F r) (split_els F c)))]
  rw [dvd_col hij F hi hj (split_els F r) (split_els F c), join_split F hc.1 hc.2]
/-- each sign stands in each column -/
theorem row_ex {j s c : Int} (hj : j ≠ -1) (hs : Pt Ps s) : ∃ r, Pt Ps r ∧ hasP Ps j r c = s := by
  refine ⟨joinP Ps (cmb fsub j Ps (splitP Ps s) (splitP Ps c)), join_bd F (cmbD_els j F (split_els F s) (split_els F c)), ?_⟩
  simp only [hasP]
  rw [if_neg hj, split_join F (cmbD_els j F (split_els F s) (split_els F c)), cmb_forth j F (split_els F s) (split_els F c), join_split F hs.1 hs.2]
theorem apart_of {j r c s d : Int} (hj : j ≠ -1) (h : hasP Ps j r c = hasP Ps j s d) : subs Ps (splitP Ps r) (splitP Ps s) = tms j Ps (subs Ps (splitP Ps d) (splitP Ps c)) := by
  refine subs_apart j F (split_els F r) (split_els F c) (split_els F s) (split_els F d) ?_
  rw [← split_has F hj, ← split_has F hj, h]
theorem apart_left {j r c : Int} (hj : j ≠ -1) : subs Ps (splitP Ps (hasP Ps j r c)) (splitP Ps r) = tms j Ps (splitP Ps c) := by
  rw [split_has F hj, subs_left j F (split_els F r) (split_els F c)]
theorem apart_some {c d : Int} (hc : Pt Ps c) (hd : Pt Ps d) (h : d ≠ c) : ∃ x ∈ subs Ps (splitP Ps d) (splitP Ps c), x ≠ 0 := by
  apply Classical.byContradiction
  intro hn
  refine h (split_inj F hd.1 hd.2 hc.1 hc.2 (subs_same F (split_els F d) (split_els F c) fun x hx => ?_))
  apply Classical.byContradiction
  intro hx0
  exact hn ⟨x, hx, hx0⟩
theorem split_some {c : Int} (hc : Pt Ps c) (h : c ≠ 0) : ∃ x ∈ splitP Ps c, x ≠ 0 := by
  apply Classical.byContradiction
  intro hn
  refine h (split_zero F hc.1 hc.2 fun x hx => ?_)
  apply Classical.byContradiction
  intro hx0
  exact hn ⟨x, hx, hx0⟩
end
end Msq
namespace Msq
/-! ### the law's own product -/
theorem eqm_zero {p : Int} {u v : Vc} (h : Eqm 0 u v) : Eqm p u v := fun i => by
  have := h i
  rw [Int.emod_zero, Int.emod_zero] at this
  rw [this]
def lrem (p : Int) (lower : List Int) : Nat → List Int → List Int
  | 0, row => row
  | n + 1, row => lrem p lower n (updAt 0 (-(row.getD (lower.length + n) 0 % p)) lower n row)
theorem lrem_len (p : Int) (lower : List Int) : ∀ (n : Nat) (row : List Int), (lrem p lower n row).length = row.length
  | 0, _ => rfl
  | n + 1, row => by rw [lrem, lrem_len p lower n, updAt_len]
section
variable {p : Int} {lower : List Int}
theorem act_lrem (hk : 0 < lower.length) : ∀ (n : Nat) (row : List Int), lower.length + n ≤ row.length →
    Eqm p (act lower.length (vec lower) (vec (lrem p lower n row)) lower.length (eb 0)) (act lower.length (vec lower) (vec row) (lower.length + n) (eb 0))
  | 0, row, h => Eqm.refl _
  | n + 1, row, h => by
    have h' : lower.length + n ≤ (updAt 0 (-(row.getD (lower.length + n) 0 % p)) lower n row).length := by rw [updAt_len]; omega
    refine (act_lrem hk n _ h').trans ?_
    have e0 := updAt_vec 0 (-(row.getD (lower.length + n) 0 % p)) lower n row (by omega)
    have e1 : Eqm p (vec (updAt 0 (-(row.getD (lower.length + n) 0 % p)) lower n row)) (vadd (vec row) (smul (-(row.getD (lower.length + n) 0)) (shf n (vec lower)))) := by
      refine (eqm_zero e0).trans ((Eqm.refl _).add (Eqm.smul ?_ (Eqm.refl _)))
      rw [Int.neg_emod, Int.neg_emod]
      rw [Int.emod_emod]
      congr 1
      simp only [Int.dvd_iff_emod_eq_zero, Int.emod_emod]
    refine (Eqm.act (fun i _ => e1 i) (Eqm.refl _)).trans (Eqm.of_eq ?_)
    rw [act_addL, act_smulL, show lower.length + n = n + lower.length by omega, act_shf, act_eb_sup (vec_sup rfl)]
    rw [show lower.length + (n + 1) = (n + lower.length) + 1 by omega]
    simp only [act]
    congr 1
    have e2 : mxp lower.length (vec lower) (n + lower.length) (eb 0) = smul (-1) (mxp lower.length (vec lower) n (vec lower)) := by
      rw [← mxp_mxp, mxp_top hk, ← mxp_smul]
      congr 1
      funext i
      simp only [smul]
      by_cases hi : i < lower.length
      · rw [if_pos hi]; omega
      · rw [if_neg hi, vec_sup (k := lower.length) rfl i (by omega)]; simp
    rw [e2]
    funext i
    simp only [smul, vec]
    grind
theorem vec_rep0 (n : Nat) : vec (List.replicate n (0 : Int)) = vzero := funext fun i => by
  simp only [vec, vzero]
  rw [List.getD_eq_getElem?_getD, List.getElem?_replicate]
  split <;> rfl
theorem act_vz {k : Nat} {f : Vc} (w : Vc) : ∀ m, act k f vzero m w = vzero
  | 0 => rfl
  | m + 1 => by
    simp only [act, act_vz w m]
    funext i
    simp [vadd, smul, vzero]
theorem vec_mod (l : List Int) : vec (l.map (· % p)) = red p (vec l) := funext fun i => by
  simp only [vec, red]
  rw [List.getD_eq_getElem?_getD, List.getD_eq_getElem?_getD, List.getElem?_map]
  cases l[i]? <;> simp
end
theorem ltimes_is {P : Part} (hp : 1 < P.p) (hk : 0 < P.k) (a b : Int) :
    num P.p (((lrem P.p P.lower P.k (multFrom 0 (figs P.p P.k b) (figs P.p P.k a) 0 (List.replicate (2 * P.k) 0))).take P.k).map (· % P.p)) = fmul P a b := by
  have hl : (lrem P.p P.lower P.k (multFrom 0 (figs P.p P.k b) (figs P.p P.k a) 0 (List.replicate (2 * P.k) 0))).length = 2 * P.k := by
    rw [lrem_len, multFrom_len, List.length_replicate]
  have hd : Dg P.p (((lrem P.p P.lower P.k (multFrom 0 (figs P.p P.k b) (figs P.p P.k a) 0 (List.replicate (2 * P.k) 0))).take P.k).map (· % P.p)) := by
    intro x hx
    obtain ⟨y, _, rfl⟩ := List.mem_map.mp hx
    exact ⟨Int.emod_nonneg _ (by omega), Int.emod_lt_of_pos _ (by omega)⟩
  rw [num_nv (k := P.k) (by omega) hd (by rw [List.length_map, List.length_take, hl]; omega), fmul]
  refine nv_congr ?_
  rw [vec_mod]
  refine (red_eqm _ _).trans ?_
  have e1 : vec ((lrem P.p P.lower P.k (multFrom 0 (figs P.p P.k b) (figs P.p P.k a) 0 (List.replicate (2 * P.k) 0))).take P.k) = act P.k P.f (vec (lrem P.p P.lower P.k (multFrom 0 (figs P.p P.k b) (figs P.p P.k a) 0 (List.replicate (2 * P.k) 0)))) P.k (eb 0) := by
    rw [act_eb _ (Nat.le_refl _)]
    funext i
    by_cases hi : i < P.k
    · rw [if_pos hi]
      exact vec_take_eq hi
    · rw [if_neg hi]
      exact vec_sup (k := P.k) (by rw [List.length_take, hl]; omega) i (by omega)
  rw [e1]
  refine (act_lrem (p := P.p) hk P.k _ (by rw [multFrom_len, List.length_replicate]; show P.k + P.k ≤ _; omega)).trans ?_
  have e2 := act_multFrom (p := 0) (k := P.k) (f := P.f) (figs P.p P.k b) (eb 0) (figs P.p P.k a) 0 (List.replicate (2 * P.k) 0) (by rw [figs_len, figs_len, List.length_replicate]; omega)
  rw [List.length_replicate, show 2 * P.k = P.k + P.k by omega, vec_rep0, act_vz, zero_vadd, figs_len, figs_len] at e2
  have e3 := eqm_zero (p := P.p) e2
  rw [show 2 * P.k = P.k + P.k by omega]
  refine e3.trans (Eqm.of_eq ?_)
  show act P.k P.f (vec (figs P.p P.k a)) P.k (act P.k P.f (vec (figs P.p P.k b)) P.k (eb 0)) = _
  rw [act_eb_sup (vec_sup (figs_len _ _ _))]
  rfl
end Msq
set_option maxRecDepth 100000
set_option maxHeartbeats 1000000
namespace Msz
open PySem
open PySem.Sem (wp)
/-! ### zip over any number of lists and tuples -/
/-- a column: its iterator, what it walks, is that a tuple -/
structure Col where
  it : Addr
  l : Addr
  tup : Bool
def At (h : Heap) (i : Nat) (c : Col) : Prop := match c.tup with
  | true => h.IsTupleIter c.it c.l i
  | false => h.IsListIter c.it c.l i
def Src (h : Heap) (items : Array Value) (c : Col) : Prop := match c.tup with
  | true => h.IsTuple c.l items
  | false => h.IsList c.l items
theorem At.obj {h : Heap} {i : Nat} {c : Col} (x : At h i c) : ∃ o, h.get? c.it = some o ∧ ∀ v, o.data ≠ .cell v := by
  obtain ⟨it, l, t⟩ := c
  cases t with
  | true => obtain ⟨o, e, _, d⟩ := x; exact ⟨o, e, fun v q => by rw [d] at q; cases q⟩
  | false => obtain ⟨o, e, _, d⟩ := x; exact ⟨o, e, fun v q => by rw [d] at q; cases q⟩
theorem At.lt {h : Heap} {i : Nat} {c : Col} (x : At h i c) : c.it < h.objs.size := let ⟨_, e, _⟩ := x.obj; Heap.lt_size e
theorem At.keep {h h' : Heap} {i : Nat} {c : Col} (x : At h i c) (k : ∀ o, h.get? c.it = some o → h'.get? c.it = some o) : At h' i c := by
  obtain ⟨it, l, t⟩ := c
  cases t with
  | true => obtain ⟨o, e, r⟩ := x; exact ⟨o, k o e, r⟩
  | false => obtain ⟨o, e, r⟩ := x; exact ⟨o, k o e, r⟩
theorem Src.keep {h h' : Heap} {items : Array Value} {c : Col} (x : Src h items c) (k : ∀ o, h.get? c.l = some o → h'.get? c.l = some o) : Src h' items c := by
  obtain ⟨it, l, t⟩ := c
  cases t with
  | true => obtain ⟨o, e, r⟩ := x; exact ⟨o, k o e, r⟩
  | false => obtain ⟨o, e, r⟩ := x; exact ⟨o, k o e, r⟩
theorem Src.lt {h : Heap} {items : Array Value} {c : Col} (x : Src h items c) : c.l < h.objs.size := by
  obtain ⟨it, l, t⟩ := c
  cases t with
  | true => obtain ⟨o, e, r⟩ := x; exact Heap.lt_size e
  | false => obtain ⟨o, e, r⟩ := x; exact Heap.lt_size e
section
variable {prog : Program} {w : World} {A : Around} {E : Value → Shared → Prop} {s : Shared}
theorem next_item {c : Col} {i : Nat} {items : Array Value} {x : Value} {Q : Value → Shared → Prop} (a : At s.heap i c) (b : Src s.heap items c) (hx : items[i]? = some x)
    (hQ : ∀ h', At h' (i + 1) c → Heap.SameBut c.it s.heap h' → Q x { s with heap := h' }) : wpAny (model prog w) A (Builtin.SmallTypes.nextOf (.ref c.it)) Q E s := by
  obtain ⟨it, l, t⟩ := c
  cases t with
  | true => exact RZ.nextOf_tuple_item a b hx hQ
  | false => exact wpAny_nextOf_list_item a b hx hQ
theorem next_end {c : Col} {i : Nat} {items : Array Value} {Q : Value → Shared → Prop} (hh : A.handled = none) (a : At s.heap i c) (b : Src s.heap items c) (hx : items[i]? = none)
    (hE : ∀ h' e, Heap.ExtBut c.it s.heap h' → (∃ o, h'.get? e = some o ∧ o.cls = .type "StopIteration") → E (.ref e) { s with heap := h' }) : wpAny (model prog w) A (Builtin.SmallTypes.nextOf (.ref c.it)) Q E s := by
  obtain ⟨it, l, t⟩ := c
  cases t with
  | true => exact RZ.nextOf_tuple_end hh a b hx hE
  | false => exact wpAny_nextOf_list_end hh a b hx hE

/-- a tuple of values, as it is made -/
abbrev TupAs (h : Heap) (T : Addr) (vs : List Value) : Prop := h.get? T = some { cls := .type "tuple", data := .seq vs.toArray }
structure Sep (z TI TO : Addr) (cs : List Col) : Prop where
  TIz : TI ≠ z
  TOz : TO ≠ z
  TITO : TI ≠ TO
  its : ∀ c ∈ cs, c.it ≠ z ∧ c.it ≠ TO ∧ TI ≠ c.it
  src : ∀ c ∈ cs, c.l ≠ z ∧ c.l ≠ TO ∧ ∀ d ∈ cs, c.l ≠ d.it
  inj : ∀ (i j : Nat) (c d : Col), cs[i]? = some c → cs[j]? = some d → c.it = d.it → i = j
/-- within the turn: k columns are drawn -/
structure Mid (h₀ : Heap) (z TI TO : Addr) (cs : List Col) (i : Nat) (old vals : List Value) (k : Nat) (h : Heap) : Prop where
  hz : IsZip h z TI TO .ellipsis
  to : TupAs h TO (vals.take k ++ old.drop k)
  new : ∀ (j : Nat) (c : Col), j < k → cs[j]? = some c → At h (i + 1) c
  rest : ∀ (j : Nat) (c : Col), k ≤ j → cs[j]? = some c → At h i c
  keep : ∀ a o, a ≠ z → a ≠ TO → (∀ c ∈ cs, a ≠ c.it) → h₀.get? a = some o → h.get? a = some o
  size : h.objs.size = h₀.objs.size
theorem take_set {α : Type} {vals old : List α} {k : Nat} {x : α} (hx : vals[k]? = some x) (hl : vals.length = old.length) : (vals.take k ++ old.drop k).set k x = vals.take (k + 1) ++ old.drop (k + 1) := by
  obtain ⟨hk, rfl⟩ := List.getElem?_eq_some_iff.mp hx
  apply List.ext_getElem?
  intro j
  rw [List.getElem?_set]
  by_cases h1 : k = j
  · subst h1
    rw [if_pos rfl, if_pos (by simp; omega), List.getElem?_append_left (by simp; omega), List.getElem?_take, if_pos (by omega), List.getElem?_eq_getElem hk]
  · rw [if_neg h1]
    by_cases h2 : j < k
    · rw [List.getElem?_append_left (by simp; omega), List.getElem?_append_left (by simp; omega), List.getElem?_take, List.getElem?_take, if_pos h2, if_pos (by omega)]
    · rw [List.getElem?_append_right (by simp; omega), List.getElem?_append_right (by simp; omega), List.getElem?_drop, List.getElem?_drop]
      congr 1
      simp
      omega
/-- one column drawn -/
theorem Mid.turn {h₀ : Heap} {z TI TO : Addr} {cs : List Col} {i : Nat} {old vals : List Value} {k : Nat} {h h1 h2 : Heap} {c : Col} {x : Value} (D : Sep z TI TO cs) (M : Mid h₀ z TI TO cs i old vals k h) (hc : cs[k]? = some c)
    (hx : vals[k]? = some x) (hl : vals.length = old.length) (a1 : At h1 (i + 1) c) (s1 : Heap.SameBut c.it h h1) (a2 : TupAs h2 TO ((vals.take k ++ old.drop k).set k x)) (s2 : Heap.SameBut TO h1 h2) : Mid h₀ z TI TO cs i old vals (k + 1) h2 := by
  have hm : c ∈ cs := List.mem_of_getElem? hc
  have kp : ∀ a o, a ≠ TO → a ≠ c.it → h.get? a = some o → h2.get? a = some o := fun a o n1 n2 e => s2.extBut _ _ n1 (s1.extBut _ _ n2 e)
  refine ⟨kp _ _ D.TOz.symm (D.its c hm).1.symm M.hz, by rw [← take_set hx hl]; exact a2, fun j d hj hd => ?_, fun j d hj hd => ?_, fun a o n1 n2 n3 e => kp a o n2 (n3 c hm) (M.keep a o n1 n2 n3 e), by rw [s2.1, s1.1, M.size]⟩
  · by_cases e : j = k
    · subst e
      rw [hc] at hd
      cases hd
      exact a1.keep fun o q => s2.extBut _ _ (D.its c hm).2.1 q
    · have hdm : d ∈ cs := List.mem_of_getElem? hd
      exact (M.new j d (by omega) hd).keep fun o q => kp _ o (D.its d hdm).2.1 (fun q' => e (D.inj j k d c hd hc q')) q
  · have hdm : d ∈ cs := List.mem_of_getElem? hd
    exact (M.rest j d (by omega) hd).keep fun o q => kp _ o (D.its d hdm).2.1 (fun q' => by have := D.inj j k d c hd hc q'; omega) q
theorem zloop {cs : List Col} {body : Value × Nat → Option PySem.Fin × Unit → Sem (ForInStep (Option PySem.Fin × Unit))} (I : Nat → Heap → Prop) {Q : Option PySem.Fin × Unit → Shared → Prop}
    (turn : ∀ (k : Nat) (c : Col) (h : Heap), cs[k]? = some c → I k h → ∀ R : ForInStep (Option PySem.Fin × Unit) → Shared → Prop, (∀ h', I (k + 1) h' → R (.yield (none, ())) { s with heap := h' }) → wpAny (model prog w) A (body (.ref c.it, k) (none, ())) R E { s with heap := h })
    (h0 : I 0 s.heap) (fin : ∀ h', I cs.length h' → Q (none, ()) { s with heap := h' }) : wpAny (model prog w) A (forIn ((cs.map fun c => Value.ref c.it).zipIdx) (none, ()) body) Q E s := by
  refine wpAny_forIn_list body (fun rest b s' => ∃ k h, k ≤ cs.length ∧ rest = ((cs.drop k).map fun c => Value.ref c.it).zipIdx k ∧ b = (none, ()) ∧ s' = { s with heap := h } ∧ I k h) Q ?_ ?_ _ _ ⟨0, s.heap, Nat.zero_le _, rfl, rfl, rfl, h0⟩
  · rintro x rest b s' ⟨k, h, hk, e1, rfl, rfl, hi⟩
    cases hd : cs.drop k with
    | nil => rw [hd] at e1; simp at e1
    | cons c r =>
      rw [hd] at e1
      simp only [List.map_cons, List.zipIdx_cons, List.cons.injEq] at e1
      obtain ⟨rfl, rfl⟩ := e1
      have hlt : k < cs.length := by
        have := congrArg List.length hd
        simp at this
        omega
      have hc : cs[k]? = some c := by
        have := List.getElem?_drop (xs := cs) (i := k) (j := 0)
        rw [hd] at this
        simpa using this.symm
      have hr : r = cs.drop (k + 1) := by
        rw [← List.drop_drop, hd]
        rfl
      exact turn k c h hc hi _ fun h' hi' => ⟨k + 1, h', hlt, by rw [hr], rfl, rfl, hi'⟩
  · rintro b s' ⟨k, h, hk, e1, rfl, rfl, hi⟩
    have hz : cs.length ≤ k := by
      have := congrArg List.length e1
      simp at this
      omega
    have e : k = cs.length := by omega
    subst e
    exact fin h hi
theorem zip_item {z TI TO : Addr} {cs : List Col} {i : Nat} {old vals : List Value} {Q : Value → Shared → Prop} (D : Sep z TI TO cs) (hz : IsZip s.heap z TI TO .none) (hTI : TupAs s.heap TI (cs.map fun c => Value.ref c.it)) (hTO : TupAs s.heap TO old)
    (hn : cs ≠ []) (hl : vals.length = cs.length) (ho : old.length = cs.length) (h30 : cs.length ≤ 1000) (at_ : ∀ c ∈ cs, At s.heap i c) (src : ∀ (k : Nat) (c : Col), cs[k]? = some c → ∃ items x, Src s.heap items c ∧ items[i]? = some x ∧ vals[k]? = some x)
    (hQ : ∀ h', IsZip h' z TI TO (rawInt s.heap.objs.size) → TupAs h' TO vals → (∀ c ∈ cs, At h' (i + 1) c) → TupAs h' s.heap.objs.size vals → h'.objs.size = s.heap.objs.size + 1 →
      (∀ a o, a ≠ z → a ≠ TO → (∀ c ∈ cs, a ≠ c.it) → s.heap.get? a = some o → h'.get? a = some o) → Q (.ref s.heap.objs.size) { s with heap := h' }) :
    wpAny (model prog w) A (Builtin.«zip.__next__» ⟨[.ref z], []⟩) (fun fin s' => ∃ v, fin = .done (.ret v) ∧ Q v s') E s := by
  have sz : ∀ {n : Nat}, n ≤ 1000 → n ≤ sizeLine := fun h => Nat.le_trans h (by decide)
  show wpAny _ _ (field (.ref z) 2 >>= _) _ _ _
  refine wpAny_bind (wpAny_field hz rfl (x := .bool false) rfl ?_)
  show wpAny _ _ (field (.ref z) 3 >>= _) _ _ _
  refine wpAny_bind (wpAny_field hz rfl (x := .ref TI) rfl ?_)
  refine wpAny_bind (wpAny_seqItems hTI rfl ?_)
  have he : (cs.map fun c => Value.ref c.it).toArray.isEmpty = false := by
    cases cs with
    | nil => exact absurd rfl hn
    | cons c r => rfl
  simp only [he]
  show wpAny _ _ (Builtin.SmallTypes.ownedTupleIsFree (.ref z) >>= _) _ _ _
  refine wpAny_bind ?_
  unfold Builtin.SmallTypes.ownedTupleIsFree
  refine wpAny_bind (wpAny_field hz rfl (x := .none) rfl (wpAny_pure ?_))
  simp only [if_true]
  refine wpAny_bind (wpAny_rule ?_)
  refine wpAny_bind (wpAny_field hz rfl (x := .ref TO) rfl ?_)
  refine wpAny_bind (wpAny_setField_rec hz (by simp) fun g₁ hz₁ hs₁ => ?_)
  replace hz₁ : IsZip g₁ z TI TO .ellipsis := hz₁
  have M0 : Mid s.heap z TI TO cs i old vals 0 g₁ := by
    refine ⟨hz₁, ?_, fun j c hj => absurd hj (by omega), fun j c _ hc => ?_, fun a o n1 _ _ e => hs₁.extBut _ _ n1 e, hs₁.1⟩
    · simp only [List.take_zero, List.nil_append, List.drop_zero]
      exact hs₁.extBut _ _ D.TOz hTO
    · have hm := List.mem_of_getElem? hc
      exact (at_ c hm).keep fun o q => hs₁.extBut _ _ (D.its c hm).1 q
  refine wpAny_bind (zloop (s := { s with heap := g₁ }) (cs := cs) (Mid s.heap z TI TO cs i old vals) ?turn M0 ?fin)
  case turn =>
    intro k c h hc M R hR
    obtain ⟨items, x, hsrc, hx, hv⟩ := src k c hc
    have hm := List.mem_of_getElem? hc
    have hlk : (vals.take k ++ old.drop k).length = cs.length := by
      have := (List.getElem?_eq_some_iff.mp hc).1
      simp
      omega
    have hsrc' : Src h items c := hsrc.keep fun o q => M.keep _ o (D.src c hm).1 (D.src c hm).2.1 (D.src c hm).2.2 q
    refine wpAny_bind (wpAny_onRaise ?_)
    show wpAny _ _ (Builtin.SmallTypes.nextOf (.ref c.it) >>= _) _ _ _
    refine wpAny_bind (next_item (s := { s with heap := h }) (M.rest k c (Nat.le_refl k) hc) hsrc' hx fun h1 a1 s1 => wpAny_pure ?_)
    have hTO1 : TupAs h1 TO (vals.take k ++ old.drop k) := s1.extBut _ _ (D.its c hm).2.1.symm M.to
    refine wpAny_bind (wpAny_seqItems (s := { s with heap := h1 }) hTO1 rfl ?_)
    refine wpAny_bind (wpAny_updateSeq (s := { s with heap := h1 }) hTO1 rfl ?_ ?b1 ?b2)
    case b1 => exact sz (by rw [List.size_toArray, hlk]; exact h30)
    case b2 => rw [Array.size_setIfInBounds]; exact Nat.le_succ_of_le (sz (by rw [List.size_toArray, hlk]; exact h30))
    refine wpAny_bind (wpAny_letGo (wpAny_pure (hR _ (M.turn D hc hv (by omega) a1 s1 ?_ (Heap.SameBut.update ..)))))
    show (Heap.update _ _ _).get? TO = _
    rw [Heap.get?_update_self _ hTO1 rfl]
    simp [Obj.mapSeq]
  case fin =>
    intro h5 M
    have e5 : vals.take cs.length ++ old.drop cs.length = vals := by rw [← hl, List.take_length, List.drop_eq_nil_of_le (by omega), List.append_nil]
    have hTO₅ : TupAs h5 TO vals := by have := M.to; rw [e5] at this; exact this
    refine wpAny_bind (wpAny_seqItems (s := { s with heap := h5 }) hTO₅ rfl ?_)
    refine wpAny_bind (wpAny_newTuple ?_ ?b3)
    case b3 => exact sz (by rw [hl]; exact h30)
    have hzlt : z < h5.objs.size := Heap.lt_size M.hz
    show wpAny _ _ (Builtin.SmallTypes.ownedTupleHandOut (.ref z) (.ref h5.objs.size) >>= _) _ _ _
    refine wpAny_bind ?_
    unfold Builtin.SmallTypes.ownedTupleHandOut
    have hz₆ : IsZip (h5.push { cls := .type "tuple", data := .seq vals.toArray }) z TI TO .ellipsis := Heap.get?_push_of_some _ M.hz
    refine wpAny_bind (wpAny_setField_rec hz₆ (by simp) fun h7 hz₇ hs₇ => ?_)
    replace hz₇ : IsZip h7 z TI TO (rawInt h5.objs.size) := hz₇
    refine wpAny_setField_rec hz₇ (by simp) fun h8 hz₈ hs₈ => ?_
    replace hz₈ : IsZip h8 z TI TO (rawInt h5.objs.size) := hz₈
    have up : ∀ a o, a ≠ z → h5.get? a = some o → h8.get? a = some o := fun a o n e => hs₈.extBut _ _ n (hs₇.extBut _ _ n (Heap.get?_push_of_some _ e))
    have hT₈ : TupAs h8 h5.objs.size vals := hs₈.extBut _ _ (Nat.ne_of_gt hzlt) (hs₇.extBut _ _ (Nat.ne_of_gt hzlt) (Heap.get?_push_size _ rfl))
    have hz8 : h8.objs.size = h5.objs.size + 1 := by rw [hs₈.1, hs₇.1, Heap.size_push]
    rw [M.size] at hz₈ hT₈ hz8
    refine wpAny_pure ⟨_, rfl, ?_⟩
    show Q (.ref h5.objs.size) _
    rw [M.size]
    refine hQ h8 hz₈ (up _ _ D.TOz hTO₅) (fun c hm => ?_) hT₈ hz8 fun a o n1 n2 n3 e => up a o n1 (M.keep a o n1 n2 n3 e)
    obtain ⟨j, hj⟩ := List.mem_iff_getElem?.mp hm
    exact (M.new j c (List.getElem?_eq_some_iff.mp hj).1 hj).keep fun o q => up _ o (D.its c hm).1 q
theorem zip_end {z TI TO : Addr} {cs : List Col} {i : Nat} {old : List Value} {Q : PySem.Fin → Shared → Prop} (hh : A.handled = none) (D : Sep z TI TO cs) (hz : IsZip s.heap z TI TO .none) (hTI : TupAs s.heap TI (cs.map fun c => Value.ref c.it)) (hTO : TupAs s.heap TO old)
    (hn : cs ≠ []) (ho : old.length = cs.length) (h30 : cs.length ≤ 1000) (at_ : ∀ c ∈ cs, At s.heap i c) (src : ∀ (k : Nat) (c : Col), cs[k]? = some c → ∃ items, Src s.heap items c) (hend : ∃ c ∈ cs, ∃ items, Src s.heap items c ∧ items[i]? = none)
    (hE : ∀ h' e, (∀ a o, a ≠ z → a ≠ TO → (∀ c ∈ cs, a ≠ c.it) → s.heap.get? a = some o → h'.get? a = some o) → (∃ o, h'.get? e = some o ∧ o.cls = .type "StopIteration") → E (.ref e) { s with heap := h' }) :
    wpAny (model prog w) A (Builtin.«zip.__next__» ⟨[.ref z], []⟩) Q E s := by
  have sz : ∀ {n : Nat}, n ≤ 1000 → n ≤ sizeLine := fun h => Nat.le_trans h (by decide)
  show wpAny _ _ (field (.ref z) 2 >>= _) _ _ _
  refine wpAny_bind (wpAny_field hz rfl (x := .bool false) rfl ?_)
  show wpAny _ _ (field (.ref z) 3 >>= _) _ _ _
  refine wpAny_bind (wpAny_field hz rfl (x := .ref TI) rfl ?_)
  refine wpAny_bind (wpAny_seqItems hTI rfl ?_)
  have he : (cs.map fun c => Value.ref c.it).toArray.isEmpty = false := by
    cases cs with
    | nil => exact absurd rfl hn
    | cons c r => rfl
  simp only [he]
  show wpAny _ _ (Builtin.SmallTypes.ownedTupleIsFree (.ref z) >>= _) _ _ _
  refine wpAny_bind ?_
  unfold Builtin.SmallTypes.ownedTupleIsFree
  refine wpAny_bind (wpAny_field hz rfl (x := .none) rfl (wpAny_pure ?_))
  simp only [if_true]
  refine wpAny_bind (wpAny_rule ?_)
  refine wpAny_bind (wpAny_field hz rfl (x := .ref TO) rfl ?_)
  refine wpAny_bind (wpAny_setField_rec hz (by simp) fun g₁ hz₁ hs₁ => ?_)
  replace hz₁ : IsZip g₁ z TI TO .ellipsis := hz₁
  -- while columns have an item, the turn goes on; no turn draws them all
  refine wpAny_bind (zloop (s := { s with heap := g₁ }) (cs := cs) (fun k h => (∃ old' vals : List Value, vals.length = old'.length ∧ old'.length = cs.length ∧ Mid s.heap z TI TO cs i old' vals k h) ∧ ∀ (j : Nat) (c : Col), j < k → cs[j]? = some c → ∃ items x, Src s.heap items c ∧ items[i]? = some x) ?turn ⟨⟨old, old, rfl, ho, ?M0⟩, fun j c hj => absurd hj (by omega)⟩ ?fin)
  case M0 =>
    refine ⟨hz₁, ?_, fun j c hj => absurd hj (by omega), fun j c _ hc => ?_, fun a o n1 _ _ e => hs₁.extBut _ _ n1 e, hs₁.1⟩
    · simp only [List.take_zero, List.nil_append, List.drop_zero]
      exact hs₁.extBut _ _ D.TOz hTO
    · have hm := List.mem_of_getElem? hc
      exact (at_ c hm).keep fun o q => hs₁.extBut _ _ (D.its c hm).1 q
  case turn =>
    rintro k c h hc ⟨⟨old', vals, hl, ho', M⟩, hpre⟩ R hR
    obtain ⟨items, hsrc⟩ := src k c hc
    have hm := List.mem_of_getElem? hc
    have hlk : (vals.take k ++ old'.drop k).length = cs.length := by
      have := (List.getElem?_eq_some_iff.mp hc).1
      simp
      omega
    have hsrc' : Src h items c := hsrc.keep fun o q => M.keep _ o (D.src c hm).1 (D.src c hm).2.1 (D.src c hm).2.2 q
    refine wpAny_bind (wpAny_onRaise ?_)
    show wpAny _ _ (Builtin.SmallTypes.nextOf (.ref c.it) >>= _) _ _ _
    cases hx : items[i]? with
    | some x =>
      refine wpAny_bind (next_item (s := { s with heap := h }) (M.rest k c (Nat.le_refl k) hc) hsrc' hx fun h1 a1 s1 => wpAny_pure ?_)
      have hTO1 : TupAs h1 TO (vals.take k ++ old'.drop k) := s1.extBut _ _ (D.its c hm).2.1.symm M.to
      refine wpAny_bind (wpAny_seqItems (s := { s with heap := h1 }) hTO1 rfl ?_)
      refine wpAny_bind (wpAny_updateSeq (s := { s with heap := h1 }) hTO1 rfl ?_ ?b1 ?b2)
      case b1 => exact sz (by rw [List.size_toArray, hlk]; exact h30)
      case b2 => rw [Array.size_setIfInBounds]; exact Nat.le_succ_of_le (sz (by rw [List.size_toArray, hlk]; exact h30))
      have hkl : k < vals.length := by
        have := (List.getElem?_eq_some_iff.mp hc).1
        omega
      -- the values drawn so far, with this one
      have M' : Mid s.heap z TI TO cs i old' (vals.set k x) k h := by
        refine ⟨M.hz, ?_, M.new, M.rest, M.keep, M.size⟩
        have e : (vals.set k x).take k = vals.take k := by rw [List.take_set]; exact List.set_eq_of_length_le (by simp; omega)
        rw [e]
        exact M.to
      refine wpAny_bind (wpAny_letGo (wpAny_pure (hR _ ⟨⟨old', vals.set k x, by simpa using hl, ho', M'.turn D hc (by rw [List.getElem?_set_self hkl]) (by simpa using hl) a1 s1 ?_ (Heap.SameBut.update ..)⟩, fun j d hj hd => ?_⟩)))
      · show (Heap.update _ _ _).get? TO = _
        rw [Heap.get?_update_self _ hTO1 rfl]
        have e : (vals.set k x).take k = vals.take k := by rw [List.take_set]; exact List.set_eq_of_length_le (by simp; omega)
        rw [e]
        simp [Obj.mapSeq]
      · by_cases e : j = k
        · subst e
          rw [hc] at hd
          cases hd
          exact ⟨items, x, hsrc, hx⟩
        · exact hpre j d (by omega) hd
    | none =>
      refine wpAny_bind (next_end (s := { s with heap := h }) hh (M.rest k c (Nat.le_refl k) hc) hsrc' hx fun h1 e hs1 hoe => ?_)
      obtain ⟨oe, hoe, hce⟩ := hoe
      have hz1 : IsZip h1 z TI TO .ellipsis := hs1 _ _ (D.its c hm).1.symm M.hz
      have hez : e ≠ z := fun q => by subst q; rw [hz1] at hoe; cases hoe; simp at hce
      refine wpAny_setField_rec (s := { s with heap := h1 }) hz1 (by simp) fun h2 _ hs2 => hE h2 e (fun a o n1 n2 n3 q => hs2.extBut _ _ n1 (hs1 _ _ (n3 c hm) (M.keep a o n1 n2 n3 q))) ⟨oe, hs2.extBut _ _ hez hoe, hce⟩
  case fin =>
    rintro h ⟨_, hpre⟩
    exfalso
    obtain ⟨c, hm, items, hsrc, hx⟩ := hend
    obtain ⟨j, hj⟩ := List.mem_iff_getElem?.mp hm
    obtain ⟨items', x, hsrc', hx'⟩ := hpre j c (List.getElem?_eq_some_iff.mp hj).1 hj
    have e : items = items' := by
      obtain ⟨it, l, t⟩ := c
      cases t with
      | true =>
        obtain ⟨o, e1, _, n, d1⟩ := hsrc
        obtain ⟨o', e2, _, n', d2⟩ := hsrc'
        rw [e1] at e2; cases e2
        rw [d1] at d2; cases d2
        rfl
      | false =>
        obtain ⟨o, e1, _, n, d1⟩ := hsrc
        obtain ⟨o', e2, _, n', d2⟩ := hsrc'
        rw [e1] at e2; cases e2
        rw [d1] at d2; cases d2
        rfl
    rw [e, hx'] at hx
    cases hx
theorem pyNext_item {z TI TO : Addr} {cs : List Col} {i : Nat} {old vals : List Value} {Q : Option Value → Shared → Prop} (D : Sep z TI TO cs) (hz : IsZip s.heap z TI TO .none) (hTI : TupAs s.heap TI (cs.map fun c => Value.ref c.it)) (hTO : TupAs s.heap TO old)
    (hn : cs ≠ []) (hl : vals.length = cs.length) (ho : old.length = cs.length) (h30 : cs.length ≤ 1000) (at_ : ∀ c ∈ cs, At s.heap i c) (src : ∀ (k : Nat) (c : Col), cs[k]? = some c → ∃ items x, Src s.heap items c ∧ items[i]? = some x ∧ vals[k]? = some x)
    (hQ : ∀ h', IsZip h' z TI TO (rawInt s.heap.objs.size) → TupAs h' TO vals → (∀ c ∈ cs, At h' (i + 1) c) → TupAs h' s.heap.objs.size vals → h'.objs.size = s.heap.objs.size + 1 →
      (∀ a o, a ≠ z → a ≠ TO → (∀ c ∈ cs, a ≠ c.it) → s.heap.get? a = some o → h'.get? a = some o) → Q (some (.ref s.heap.objs.size)) { s with heap := h' }) :
    wpAny (model prog w) A (pyNext (.ref z)) Q E s := by
  have hT : s.TypeIs (.ref z) "zip" := ⟨_, hz, rfl⟩
  unfold pyNext
  refine wpAny_bind (wpAny_attempt (wpAny_callSpecial?_slot (name := Str.ofString "__next__") hT F.slot_zip_next (wpAny_call_entry F.slot_zip_next hT F.entry_zip_next ?_ (F.args_zip_next_1 _))))
  exact zip_item D hz hTI hTO hn hl ho h30 at_ src fun h' a1 a2 a3 a4 a5 a6 => wpAny_pure (hQ h' a1 a2 a3 a4 a5 a6)
theorem pyNext_end {z TI TO : Addr} {cs : List Col} {i : Nat} {old : List Value} {Q : Option Value → Shared → Prop} (hh : A.handled = none) (D : Sep z TI TO cs) (hz : IsZip s.heap z TI TO .none) (hTI : TupAs s.heap TI (cs.map fun c => Value.ref c.it)) (hTO : TupAs s.heap TO old)
    (hn : cs ≠ []) (ho : old.length = cs.length) (h30 : cs.length ≤ 1000) (at_ : ∀ c ∈ cs, At s.heap i c) (src : ∀ (k : Nat) (c : Col), cs[k]? = some c → ∃ items, Src s.heap items c) (hend : ∃ c ∈ cs, ∃ items, Src s.heap items c ∧ items[i]? = none)
    (hQ : ∀ h', (∀ a o, a ≠ z → a ≠ TO → (∀ c ∈ cs, a ≠ c.it) → s.heap.get? a = some o → h'.get? a = some o) → Q none { s with heap := h' }) : wpAny (model prog w) A (pyNext (.ref z)) Q E s := by
  have hT : s.TypeIs (.ref z) "zip" := ⟨_, hz, rfl⟩
  unfold pyNext
  refine wpAny_bind (wpAny_attempt (wpAny_callSpecial?_slot (name := Str.ofString "__next__") hT F.slot_zip_next (wpAny_call_entry F.slot_zip_next hT F.entry_zip_next ?_ (F.args_zip_next_1 _))))
  refine zip_end hh D hz hTI hTO hn ho h30 at_ src hend fun h' e hk he => ?_
  obtain ⟨o, ho, hc⟩ := he
  exact wpAny_bind (wpAny_isInstance (T := "StopIteration") (b := true) ⟨o, ho, hc⟩ isSubtype_stop (wpAny_pure (hQ _ hk)))
end
end Msz
set_option maxRecDepth 100000
set_option maxHeartbeats 1000000
namespace Msz
open PySem
open PySem.Sem (wp)
/-! ### zip made -/
/-- the columns over these sources, their iterators from a on -/
def cols : Nat → List (Addr × Bool) → List Col
  | _, [] => []
  | a, p :: r => ⟨a, p.1, p.2⟩ :: cols (a + 1) r
theorem cols_len : ∀ (a : Nat) (ls : List (Addr × Bool)), (cols a ls).length = ls.length
  | _, [] => rfl
  | a, p :: r => by simp [cols, cols_len (a + 1) r]
theorem cols_get : ∀ {ls : List (Addr × Bool)} {a : Nat} {j : Nat} {c : Col}, (cols a ls)[j]? = some c → ∃ p, ls[j]? = some p ∧ c = ⟨a + j, p.1, p.2⟩
  | [], _, _, _, h => by simp [cols] at h
  | p :: r, a, 0, c, h => by
    simp [cols] at h
    exact ⟨p, rfl, h.symm⟩
  | p :: r, a, j + 1, c, h => by
    simp only [cols, List.getElem?_cons_succ] at h
    obtain ⟨q, h1, h2⟩ := cols_get h
    exact ⟨q, by simpa using h1, by rw [h2, Nat.add_assoc, Nat.add_comm 1 j]⟩
theorem cols_append : ∀ (ls ms : List (Addr × Bool)) (a : Nat), cols a (ls ++ ms) = cols a ls ++ cols (a + ls.length) ms
  | [], _, a => by simp [cols]
  | p :: r, ms, a => by
    simp only [List.cons_append, cols, cols_append r ms (a + 1), List.length_cons]
    rw [show a + 1 + r.length = a + (r.length + 1) by omega]
/-- the iterators are made -/
structure Its (h : Heap) (ls : List (Addr × Bool)) (h' : Heap) : Prop where
  size : h'.objs.size = h.objs.size + ls.length
  at_ : ∀ c ∈ cols h.objs.size ls, At h' 0 c
  keep : ∀ a o, h.get? a = some o → h'.get? a = some o
section
variable {prog : Program} {w : World} {A : Around} {E : Value → Shared → Prop} {s : Shared}
theorem pyIter_src {p : Addr × Bool} {items : Array Value} {Q : Value → Shared → Prop} (h : Src s.heap items ⟨0, p.1, p.2⟩)
    (hQ : ∀ h', h'.objs.size = s.heap.objs.size + 1 → At h' 0 ⟨s.heap.objs.size, p.1, p.2⟩ → (∀ a o, s.heap.get? a = some o → h'.get? a = some o) → Q (.ref s.heap.objs.size) { s with heap := h' }) : wpAny (model prog w) A (pyIter (.ref p.1)) Q E s := by
  obtain ⟨l, t⟩ := p
  cases t with
  | true => exact wpAny_pyIter_tuple h (hQ _ (Heap.size_push ..) ⟨_, Heap.get?_push_size _ rfl, rfl, rfl⟩ fun a o e => Heap.get?_push_of_some _ e)
  | false => exact wpAny_pyIter_list h (hQ _ (Heap.size_push ..) ⟨_, Heap.get?_push_size _ rfl, rfl, rfl⟩ fun a o e => Heap.get?_push_of_some _ e)
theorem iterAll_wp {ls : List (Addr × Bool)} {Q : List Value → Shared → Prop} (hs : ∀ p ∈ ls, ∃ items, Src s.heap items ⟨0, p.1, p.2⟩)
    (hQ : ∀ h', Its s.heap ls h' → Q ((cols s.heap.objs.size ls).map fun c => Value.ref c.it) { s with heap := h' }) : wpAny (model prog w) A (Builtin.SmallTypes.iterAll (ls.map fun p => Value.ref p.1)) Q E s := by
  unfold Builtin.SmallTypes.iterAll
  refine wpAny_bind (wpAny_forIn_list _ (fun rest b s' => ∃ pre suf h, ls = pre ++ suf ∧ rest = suf.map (fun p => Value.ref p.1) ∧ b.toList = (cols s.heap.objs.size pre).map (fun c => Value.ref c.it) ∧ s' = { s with heap := h } ∧ Its s.heap pre h) _ ?_ ?_ _ _
    ⟨[], ls, s.heap, rfl, rfl, rfl, rfl, ⟨rfl, fun c hc => by simp [cols] at hc, fun _ _ e => e⟩⟩)
  · rintro x rest b s' ⟨pre, suf, h, e1, e2, e3, rfl, M⟩
    cases suf with
    | nil => simp at e2
    | cons p suf =>
      simp only [List.map_cons, List.cons.injEq] at e2
      obtain ⟨rfl, rfl⟩ := e2
      obtain ⟨items, hsrc⟩ := hs p (by rw [e1]; simp)
      refine wpAny_bind (wpAny_holding (pyIter_src (s := { s with heap := h }) (hsrc.keep fun o q => M.keep _ o q) fun h1 z1 a1 k1 => wpAny_pure ?_))
      refine ⟨pre ++ [p], suf, h1, by rw [e1]; simp, rfl, ?_, rfl, ⟨by rw [z1]; show h.objs.size + 1 = _; rw [M.size]; simp; omega, fun c hc => ?_, fun a o e => k1 a o (M.keep a o e)⟩⟩
      · show (b.push (.ref h.objs.size)).toList = _
        rw [cols_append, Array.toList_push, e3, M.size]
        simp [cols]
      · rw [cols_append] at hc
        rcases List.mem_append.mp hc with hc | hc
        · exact (M.at_ c hc).keep fun o q => k1 _ o q
        · have e : c = ⟨s.heap.objs.size + pre.length, p.1, p.2⟩ := by simpa [cols] using hc
          rw [e, ← M.size]
          exact a1
  · rintro b s' ⟨pre, suf, h, e1, e2, e3, rfl, M⟩
    have : suf = [] := by simpa using e2.symm
    subst this
    rw [List.append_nil] at e1
    subst e1
    refine wpAny_pure ?_
    rw [e3]
    exact hQ h M
/-- a zip just made -/
structure Made (h : Heap) (ls : List (Addr × Bool)) (h' : Heap) : Prop where
  hz : IsZip h' (h.objs.size + ls.length + 2) (h.objs.size + ls.length) (h.objs.size + ls.length + 1) .none
  ti : TupAs h' (h.objs.size + ls.length) ((cols h.objs.size ls).map fun c => Value.ref c.it)
  to : TupAs h' (h.objs.size + ls.length + 1) (((cols h.objs.size ls).map fun c => Value.ref c.it).map fun _ => Value.none)
  at_ : ∀ c ∈ cols h.objs.size ls, At h' 0 c
  size : h'.objs.size = h.objs.size + ls.length + 3
  keep : ∀ a o, h.get? a = some o → h'.get? a = some o
abbrev zg2 (h : Heap) (vs : List Value) : Heap := h.push { cls := .type "tuple", data := .seq vs.toArray }
abbrev zg4 (h : Heap) (vs us : List Value) : Heap := (zg2 (zg2 h vs) us).push { cls := .type "zip", data := .fields #[.none, .bool false, .bool false, .ref h.objs.size, .ref (zg2 h vs).objs.size] }
theorem made_of {h h1 : Heap} {ls : List (Addr × Bool)} (M : Its h ls h1) : Made h ls (zg4 h1 ((cols h.objs.size ls).map fun c => Value.ref c.it) (((cols h.objs.size ls).map fun c => Value.ref c.it).map fun _ => Value.none)) := by
  have z1 : h1.objs.size = h.objs.size + ls.length := M.size
  have fact : ∀ vs us : List Value, IsZip (zg4 h1 vs us) (h1.objs.size + 2) h1.objs.size (h1.objs.size + 1) .none ∧ TupAs (zg4 h1 vs us) h1.objs.size vs ∧ TupAs (zg4 h1 vs us) (h1.objs.size + 1) us ∧ (zg4 h1 vs us).objs.size = h1.objs.size + 3 ∧
      ∀ a o, h1.get? a = some o → (zg4 h1 vs us).get? a = some o := fun vs us => by
    have y1 : (zg2 h1 vs).objs.size = h1.objs.size + 1 := Heap.size_push ..
    have y2 : (zg2 (zg2 h1 vs) us).objs.size = h1.objs.size + 2 := by rw [Heap.size_push, y1]
    have e1 := Heap.get?_push_size (zg2 (zg2 h1 vs) us) (o := { cls := .type "zip", data := .fields #[.none, .bool false, .bool false, .ref h1.objs.size, .ref (zg2 h1 vs).objs.size] }) rfl
    have e2 : (zg4 h1 vs us).get? (zg2 h1 vs).objs.size = some { cls := .type "tuple", data := .seq us.toArray } := Heap.get?_push_of_some _ (Heap.get?_push_size _ rfl)
    rw [y2] at e1
    rw [y1] at e1 e2
    refine ⟨?_, Heap.get?_push_of_some _ (Heap.get?_push_of_some _ (Heap.get?_push_size _ rfl)), e2, by rw [Heap.size_push, y2], fun a o e => Heap.get?_push_of_some _ (Heap.get?_push_of_some _ (Heap.get?_push_of_some _ e))⟩
    show (Heap.push _ _).get? _ = _
    rw [y1]
    exact e1
  obtain ⟨f1, f2, f3, f4, f5⟩ := fact ((cols h.objs.size ls).map fun c => Value.ref c.it) (((cols h.objs.size ls).map fun c => Value.ref c.it).map fun _ => Value.none)
  rw [z1] at f1 f2 f3 f4
  exact ⟨f1, f2, f3, fun c hc => (M.at_ c hc).keep fun o q => f5 _ o q, f4, fun a o e => f5 a o (M.keep a o e)⟩
theorem meets_zip (ls : List (Addr × Bool)) (h30 : ls.length ≤ 1000) :
    Meets (Builtin.«zip.__new__» ⟨.type "zip" :: ls.map (fun p => Value.ref p.1), []⟩) (fun _ R s => (∀ p ∈ ls, ∃ items, Src s.heap items ⟨0, p.1, p.2⟩) ∧
      ∀ h', Made s.heap ls h' → R (.ok (.ret (.ref (s.heap.objs.size + ls.length + 2)))) { s with heap := h' }) :=
  .of_wp fun prog w A R s h => by
    obtain ⟨hp, g, d, tk, os⟩ := s
    obtain ⟨hs, h⟩ := h
    have hsub := sub_zip
    have sz : ∀ {n : Nat}, n ≤ 1000 → n ≤ sizeLine := fun h => Nat.le_trans h (by decide)
    have hiter : ∀ (Q : List Value → Shared → Prop) (E : Value → Shared → Prop), (∀ h', Its hp ls h' → Q ((cols hp.objs.size ls).map fun c => Value.ref c.it) ⟨h', g, d, tk, os⟩) →
      wpAny (model prog w) A.in1 (Builtin.SmallTypes.iterAll (ls.map fun p => Value.ref p.1)) Q E ⟨hp, g, d, tk, os⟩ := fun Q E k => iterAll_wp (s := ⟨hp, g, d, tk, os⟩) hs k
    unfold Builtin.«zip.__new__»
    refine wpAny_bind (?_ : wpAny _ _ (Builtin.SmallTypes.newClass "zip" _) _ _ _)
    unfold Builtin.SmallTypes.newClass
    wp_walk using hiter _ _
    intro h1 M
    refine wpAny_bind (wpAny_newTuple ?_ ?b1)
    case b1 => exact sz (by rw [List.length_map, cols_len]; exact h30)
    refine wpAny_bind (wpAny_newTuple ?_ ?b2)
    case b2 => exact sz (by rw [List.length_map, List.length_map, cols_len]; exact h30)
    wp_walk
    refine ⟨_, rfl, ?_⟩
    have e := h _ (made_of M)
    have z3 : (zg2 (zg2 h1 ((cols hp.objs.size ls).map fun c => Value.ref c.it)) (((cols hp.objs.size ls).map fun c => Value.ref c.it).map fun _ => Value.none)).objs.size = hp.objs.size + ls.length + 2 := by rw [Heap.size_push, Heap.size_push, M.size]
    show R (.ok (.ret (.ref (zg2 (zg2 h1 ((cols hp.objs.size ls).map fun c => Value.ref c.it)) (((cols hp.objs.size ls).map fun c => Value.ref c.it).map fun _ => Value.none)).objs.size))) _
    rw [z3]
    exact e
end
end Msz
set_option maxRecDepth 100000
set_option maxHeartbeats 1000000
namespace Msz
open PySem PySem.Spec PyProof.Rows L2
/-! ### a for over zip of two to four lists and tuples -/
def SqP (K : PySem.W.Frag) (H : Hp) (p : Addr × Bool) (xs : List V) : Prop := match p.2 with
  | true => SqT K H p.1 xs
  | false => SqL K H p.1 xs
def ItN (K : PySem.W.Frag) (ss : List (Addr × Bool)) : It :=
  ⟨fun i H => ∃ xs : List V, xs.length = ss.length ∧ ∀ (j : Nat) (p : Addr × Bool), ss[j]? = some p → ∃ l x, SqP K H p l ∧ l[i]? = some x ∧ xs[j]? = some x,
    fun i H v H' => ∃ T xs, v = .ref T ∧ H T = none ∧ H' = upd H T (.tup xs) ∧ xs.length = ss.length ∧ ∀ (j : Nat) (p : Addr × Bool), ss[j]? = some p → ∀ l, SqP K H p l → l[i]? = xs[j]?,
    fun i H => (∀ p ∈ ss, ∃ l, SqP K H p l) ∧ ∃ p ∈ ss, ∃ l, SqP K H p l ∧ l.length ≤ i⟩
theorem sqp_src {X : Cx} {pins : List (Addr × Obj)} {σ : L2.St} {H : Hp} {s : Shared} (I : Inv X pins σ H s) {p : Addr × Bool} {xs : List V} (h : SqP X.K H p xs) : ∃ its : List Value, Vals xs its ∧ Src s.heap its.toArray ⟨0, p.1, p.2⟩ := by
  obtain ⟨a, t⟩ := p
  cases t with
  | true => obtain ⟨its, r, q, _⟩ := I.tuple h; exact ⟨its, r, q⟩
  | false => obtain ⟨its, r, q, _⟩ := I.list h; exact ⟨its, r, q.isList⟩
theorem sqp_inj {X : Cx} {pins : List (Addr × Obj)} {σ : L2.St} {H : Hp} {s : Shared} (I : Inv X pins σ H s) {p : Addr × Bool} {xs ys : List V} (h : SqP X.K H p xs) (h' : SqP X.K H p ys) : xs = ys := by
  obtain ⟨a, t⟩ := p
  cases t with
  | true => exact I.tuple_inj h h'
  | false => exact I.list_inj h h'
theorem src_it {h : Heap} {items : Array Value} {a b l : Addr} {t : Bool} (x : Src h items ⟨a, l, t⟩) : Src h items ⟨b, l, t⟩ := x
theorem vals_of : ∀ {n : Nat} {xs : List V} (F : Nat → V → Value → Prop), xs.length = n → (∀ j x, xs[j]? = some x → ∃ u, RelV x u ∧ F j x u) → ∃ us : List Value, Vals xs us ∧ ∀ j x u, xs[j]? = some x → us[j]? = some u → F j x u
  | _, [], _, _, _ => ⟨[], .nil, fun _ _ _ h => by simp at h⟩
  | _, x :: xs, F, hl, h => by
    obtain ⟨u, r, f⟩ := h 0 x rfl
    obtain ⟨us, rs, fs⟩ := vals_of (fun j => F (j + 1)) rfl fun j y hy => h (j + 1) y (by simpa using hy)
    refine ⟨u :: us, .cons r rs, fun j y v hy hv => ?_⟩
    cases j with
    | zero => simp at hy hv; subst hy hv; exact f
    | succ j => exact fs j y v (by simpa using hy) (by simpa using hv)
theorem turn_zipN {P : Program} {w : World} {K : PySem.W.Frag} {elts : List Expr} {kk : Nat} {tpos : Pos} {z TI TO a : Addr} {ss : List (Addr × Bool)} (hn : ss ≠ []) (h30 : ss.length ≤ 1000) (D : Sep z TI TO (cols a ss)) :
    Turn P w K (.Tuple elts kk tpos) (ItN K ss) (z :: TI :: TO :: (cols a ss).map fun c => c.it) z (fun i h => IsZip h z TI TO .none ∧ TupAs h TI ((cols a ss).map fun c => Value.ref c.it) ∧ (∃ old : List Value, old.length = (cols a ss).length ∧ TupAs h TO old) ∧ ∀ c ∈ cols a ss, At h i c) where
  mem := by simp
  obj := fun i h st b hb => by
    obtain ⟨hz, hTI, ⟨old, _, hTO⟩, ha⟩ := st
    simp only [List.mem_cons, List.mem_map] at hb
    rcases hb with rfl | rfl | rfl | ⟨c, hc, rfl⟩
    · exact ⟨_, hz, fun v q => nomatch q⟩
    · exact ⟨_, hTI, fun v q => nomatch q⟩
    · exact ⟨_, hTO, fun v q => nomatch q⟩
    · exact (ha c hc).obj
  keep := fun i h h' st k => by
    obtain ⟨hz, hTI, ⟨old, ho, hTO⟩, ha⟩ := st
    exact ⟨k _ (by simp) _ hz, k _ (by simp) _ hTI, ⟨old, ho, k _ (by simp) _ hTO⟩, fun c hc => (ha c hc).keep fun o q => k _ (by simp only [List.mem_cons, List.mem_map]; exact .inr (.inr (.inr ⟨c, hc, rfl⟩))) o q⟩
  item := by
    intro X hP hw hK hc i pins s σ H E I hf st hg
    subst hP hw hK
    obtain ⟨hz, hTI, ⟨old, ho, hTO⟩, ha⟩ := st
    obtain ⟨xs, hxl, hxs⟩ := hg
    have hcl : (cols a ss).length = ss.length := cols_len a ss
    obtain ⟨us, hus, huf⟩ := vals_of (n := ss.length) (xs := xs) (fun j x u => ∀ p, ss[j]? = some p → ∃ items, Src s.heap items ⟨0, p.1, p.2⟩ ∧ items[i]? = some u) hxl fun j x hj => by
      have hlt : j < ss.length := by have := (List.getElem?_eq_some_iff.mp hj).1; omega
      obtain ⟨l, y, hl, hy, hxy⟩ := hxs j ss[j] (List.getElem?_eq_getElem hlt)
      rw [hj] at hxy
      cases hxy
      obtain ⟨its, r, q⟩ := sqp_src I hl
      obtain ⟨u, hu, ru⟩ := r.get hy
      refine ⟨u, ru, fun p hp => ?_⟩
      rw [List.getElem?_eq_getElem hlt] at hp
      cases hp
      exact ⟨its.toArray, q, by simpa using hu⟩
    have hul : us.length = ss.length := by rw [← hus.length, hxl]
    have hzl : z < s.heap.objs.size := Heap.lt_size hz
    refine pyNext_item (vals := us) D hz hTI hTO ?_ (by omega) ho (by omega) ha ?_ fun h' z' TO' a' hT hsz hk => ?_
    · intro e
      rw [e] at hcl
      exact hn (List.length_eq_zero_iff.mp hcl.symm)
    · intro k c hk
      obtain ⟨p, hp, rfl⟩ := cols_get hk
      have hlt : k < ss.length := (List.getElem?_eq_some_iff.mp hp).1
      have hx : xs[k]? = some xs[k] := List.getElem?_eq_getElem (by omega)
      have hu : us[k]? = some us[k] := List.getElem?_eq_getElem (by omega)
      obtain ⟨items, q, e⟩ := huf k _ _ hx hu p hp
      exact ⟨items, _, src_it q, e, hu⟩
    refine ⟨_, rfl, wpAny_letOwnedTupleGo_zip (s := { s with heap := h' }) z' fun h'' z'' sb => ?_⟩
    have hT2 : h''.get? s.heap.objs.size = some { cls := .type "tuple", data := .seq us.toArray } := (sb.2 _ (Nat.ne_of_gt hzl)).trans hT
    have new : ObjOk X.prog X.w (upd H s.heap.objs.size (.tup xs)) h'' s.heap.objs.size (.tup xs) := ⟨Nat.le_trans (by omega : xs.length ≤ 1000) (by decide), us, hus, ⟨_, hT2, rfl, _, rfl⟩⟩
    have kp : ∀ b o, b ∉ (z :: TI :: TO :: (cols a ss).map fun c => c.it) → s.heap.get? b = some o → h''.get? b = some o := fun b o hb q => by
      simp only [List.mem_cons, List.mem_map, not_or] at hb
      exact (sb.2 b hb.1).trans (hk b o hb.1 hb.2.2.1 (fun c hc e => hb.2.2.2 ⟨c, hc, e.symm⟩) q)
    refine ⟨.ref s.heap.objs.size, _, I.turnedNew (t' := s.toks) kp hf (Nat.le_refl _) new, rfl, ⟨_, xs, rfl, I.hok.fresh (Nat.le_refl _), rfl, hxl, fun j p hp l hl => ?_⟩, ⟨z'', ?_, ⟨us, by omega, ?_⟩, fun c hc => ?_⟩, fun b hb => ?_⟩
    · obtain ⟨l', y, hl', hy, hxy⟩ := hxs j p hp
      rw [sqp_inj I hl hl', hy, hxy]
    · exact (sb.2 _ D.TIz).trans (hk _ _ D.TIz D.TITO (fun c hc => (D.its c hc).2.2) hTI)
    · exact (sb.2 _ D.TOz).trans TO'
    · exact (a' c hc).keep fun o q => (sb.2 _ (D.its c hc).1).trans q
    · have hlt : b < s.heap.objs.size := by
        simp only [List.mem_cons, List.mem_map] at hb
        rcases hb with rfl | rfl | rfl | ⟨c, hc, rfl⟩
        · exact hzl
        · exact Heap.lt_size hTI
        · exact Heap.lt_size hTO
        · exact (ha c hc).lt
      rw [upd_ne (Nat.ne_of_lt hlt)]
      exact (hf b hb).1
  done := by
    intro X hP hw hK hc i pins s σ H E I hf st hg
    subst hP hw hK
    obtain ⟨hz, hTI, ⟨old, ho, hTO⟩, ha⟩ := st
    obtain ⟨hall, p, hp, l, hl, hle⟩ := hg
    have hcl : (cols a ss).length = ss.length := cols_len a ss
    refine pyNext_end (I.ok.hd hc) D hz hTI hTO ?_ ho (by omega) ha (fun k c hk => ?_) ?_ fun h' hk => ⟨rfl, I.turnedL (t' := s.toks) (ch := z :: TI :: TO :: (cols a ss).map fun c => c.it) (fun b o hb q => ?_) hf⟩
    · intro e
      rw [e] at hcl
      exact hn (List.length_eq_zero_iff.mp hcl.symm)
    · obtain ⟨q, hq, rfl⟩ := cols_get hk
      obtain ⟨l', hl'⟩ := hall q (List.mem_of_getElem? hq)
      obtain ⟨its, r, e⟩ := sqp_src I hl'
      exact ⟨_, src_it e⟩
    · obtain ⟨j, hj⟩ := List.mem_iff_getElem?.mp hp
      have hlt : j < (cols a ss).length := by have := (List.getElem?_eq_some_iff.mp hj).1; omega
      have hc := List.getElem?_eq_getElem hlt
      obtain ⟨q, hq, e⟩ := cols_get hc
      rw [hj] at hq
      cases hq
      obtain ⟨its, r, e'⟩ := sqp_src I hl
      refine ⟨_, List.mem_of_getElem? hc, its.toArray, by rw [e]; exact src_it e', ?_⟩
      have := r.length
      simp
      omega
    · simp only [List.mem_cons, List.mem_map, not_or] at hb
      exact hk b o hb.1 hb.2.2.1 (fun c hc e => hb.2.2.2 ⟨c, hc, e.symm⟩) q
  self := fun A i s Q E st h => wpAny_pyIter_zip st.1 h
/-- the calls that are known to fit -/
structure ZipCall (vs : List Value) : Prop where
  t : checkTypeCall "zip" ⟨vs, []⟩ = pure ()
  n : checkBuiltinCall "zip.__new__" ⟨.type "zip" :: vs, []⟩ = pure ()
  i : ∀ obj, argsOk "object.__init__" ⟨obj :: vs, []⟩
theorem zip_call2 (a b : Value) : ZipCall [a, b] := ⟨F.typeCall_zip_2 a b, F.newCall_zip_2 a b, fun obj => F.args_object_init_3 obj a b⟩
theorem zip_call3 (a b c : Value) : ZipCall [a, b, c] := ⟨by kernel_rfl, by kernel_rfl, fun obj => by
  unfold argsOk; rw [signature?_of (id := "object.__init__") (n := ['_', '_', 't', 'i', 'n', 'i', '_', '_']) (o := ['t', 'c', 'e', 'j', 'b', 'o']) (by kernel_rfl) F.owner_object]; kernel_rfl⟩
theorem zip_call4 (a b c d : Value) : ZipCall [a, b, c, d] := ⟨by kernel_rfl, by kernel_rfl, fun obj => by
  unfold argsOk; rw [signature?_of (id := "object.__init__") (n := ['_', '_', 't', 'i', 'n', 'i', '_', '_']) (o := ['t', 'c', 'e', 'j', 'b', 'o']) (by kernel_rfl) F.owner_object]; kernel_rfl⟩
theorem zip_call_of : ∀ ss : List (Addr × Bool), 2 ≤ ss.length → ss.length ≤ 4 → ZipCall (ss.map fun p => Value.ref p.1)
  | [], h, _ => by simp at h
  | [_], h, _ => by simp at h
  | [a, b], _, _ => zip_call2 (.ref a.1) (.ref b.1)
  | [a, b, c], _, _ => zip_call3 (.ref a.1) (.ref b.1) (.ref c.1)
  | [a, b, c, d], _, _ => zip_call4 (.ref a.1) (.ref b.1) (.ref c.1) (.ref d.1)
  | _ :: _ :: _ :: _ :: _ :: _, _, h => by simp at h
theorem refs_of : ∀ (ss : List (Addr × Bool)) {us : List Value}, Vals (ss.map fun p => V.ref p.1) us → us = ss.map fun p => Value.ref p.1
  | [], _, .nil => rfl
  | _ :: r, _, .cons x y => by
    cases x
    rw [refs_of r y]
    rfl
theorem call_zipN {prog : Program} {w : World} {A : Around} {E : Value → Shared → Prop} {s : Shared} {ls : List (Addr × Bool)} {Q : Value → Shared → Prop} (h30 : ls.length ≤ 1000) (C : ZipCall (ls.map fun p => Value.ref p.1)) (hs : ∀ p ∈ ls, ∃ items, Src s.heap items ⟨0, p.1, p.2⟩)
    (h : ∀ h', Made s.heap ls h' → Q (.ref (s.heap.objs.size + ls.length + 2)) { s with heap := h' }) : wpAny (model prog w) A (call (.type "zip") (ls.map fun p => Value.ref p.1)) Q E s := by
  refine callType_new F.called_zip (by decide) C.t C.n C.i F.entry_zip_new (meets_zip ls h30) ⟨hs, fun h' M => ?_⟩
  exact ⟨⟨_, M.hz, rfl⟩, h h' M⟩
def iZipN (K : PySem.W.Frag) (ta : TA) : TI := fun σ H R => ta σ H fun vs H1 => ∃ ss : List (Addr × Bool), vs = ss.map (fun p => V.ref p.1) ∧ (2 ≤ ss.length ∧ ss.length ≤ 4) ∧ (∀ p ∈ ss, ∃ xs, SqP K H1 p xs) ∧ R (ItN K ss) H1
theorem pi_zipN {X : Cx} {e : Expr} {es : List Expr} {ta : TA} {p pos tpos : Pos} {elts : List Expr} {kk : Nat} (hg : Gl X "zip") (hm : X.mg "zip" = none) (ha : PA X (e :: es) ta)
    (hs : starEach (e :: es) X.env = (false, eval e X.env) :: starEach es X.env := by rfl) (hpl : (backTo pos (starEach es X.env)).any (·.1) = false := by rfl) :
    PI X (.Tuple elts kk tpos) (.Call (.Name "zip" p) (e :: es) [] pos) (iZipN X.K ta) := by
  refine ⟨fun pins s σ H R I h => ?_⟩
  refine Call_ (ld_blt I hg hm PyProof.Rows.boot_zip (PyProof.Rows.callWith_type1 (thn (ha.run pos pins s σ H _ I h) fun us s1 ⟨vs, H1, I1, r1, q1⟩ => ?_) hs hpl))
  obtain ⟨ss, ex, ⟨h2, h4⟩, hq, q⟩ := q1
  subst ex
  have eu := refs_of ss r1
  subst eu
  have C := zip_call_of ss h2 h4
  have hsrc : ∀ p ∈ ss, ∃ items, Src s1.heap items ⟨0, p.1, p.2⟩ := fun p hp => by
    obtain ⟨xs, hx⟩ := hq p hp
    obtain ⟨its, _, y⟩ := sqp_src I1 hx
    exact ⟨_, y⟩
  refine call_zipN (by omega) C hsrc fun h' M => wpAny_pyIter_zip M.hz ?_
  have I2 : Inv X pins σ H1 { s1 with heap := h' } := I1.kept (t' := s1.toks) M.keep
  have hmem : ∀ c ∈ cols s1.heap.objs.size ss, s1.heap.objs.size ≤ c.it ∧ c.it < s1.heap.objs.size + ss.length ∧ c.l < s1.heap.objs.size := fun c hc => by
    obtain ⟨j, hj⟩ := List.mem_iff_getElem?.mp hc
    obtain ⟨p, hp, rfl⟩ := cols_get hj
    obtain ⟨items, y⟩ := hsrc p (List.mem_of_getElem? hp)
    have hlt := (List.getElem?_eq_some_iff.mp hp).1
    exact ⟨Nat.le_add_right _ _, Nat.add_lt_add_left hlt _, y.lt⟩
  have D : Sep (s1.heap.objs.size + ss.length + 2) (s1.heap.objs.size + ss.length) (s1.heap.objs.size + ss.length + 1) (cols s1.heap.objs.size ss) := by
    refine ⟨Nat.ne_of_lt (by omega), Nat.ne_of_lt (by omega), Nat.ne_of_lt (by omega), fun c hc => ?_, fun c hc => ?_, fun i j c d hi hj e => ?_⟩
    · obtain ⟨m1, m2, m3⟩ := hmem c hc
      exact ⟨Nat.ne_of_lt (Nat.lt_of_lt_of_le m2 (Nat.le_add_right _ _)), Nat.ne_of_lt (Nat.lt_of_lt_of_le m2 (Nat.le_add_right _ _)), Nat.ne_of_gt m2⟩
    · obtain ⟨m1, m2, m3⟩ := hmem c hc
      exact ⟨Nat.ne_of_lt (Nat.lt_of_lt_of_le m3 (Nat.le_trans (Nat.le_add_right _ _) (Nat.le_add_right _ _))), Nat.ne_of_lt (Nat.lt_of_lt_of_le m3 (Nat.le_trans (Nat.le_add_right _ _) (Nat.le_add_right _ _))), fun d hd => Nat.ne_of_lt (Nat.lt_of_lt_of_le m3 (hmem d hd).1)⟩
    · obtain ⟨p, hp, rfl⟩ := cols_get hi
      obtain ⟨p', hp', rfl⟩ := cols_get hj
      exact Nat.add_left_cancel e
  refine ⟨_, _, _, _, H1, rfl, I2, turn_zipN (by intro e; rw [e] at h2; simp at h2) (by omega) D, ⟨M.hz, M.ti, ⟨_, by simp, M.to⟩, M.at_⟩, fun b hb => ?_, q⟩
  have hle : s1.heap.objs.size ≤ b := by
    simp only [List.mem_cons, List.mem_map] at hb
    rcases hb with rfl | rfl | rfl | ⟨c, hc, rfl⟩
    · exact Nat.le_trans (Nat.le_add_right _ _) (Nat.le_add_right _ _)
    · exact Nat.le_add_right _ _
    · exact Nat.le_trans (Nat.le_add_right _ _) (Nat.le_add_right _ _)
    · exact (hmem c hc).1
  exact I1.fpOk hle (I1.hok.fresh hle)
/-- lists of one length behind the sources -/
inductive Cols (K : PySem.W.Frag) (H : Hp) (n : Nat) : List (Addr × Bool) → List (List V) → Prop
  | nil : Cols K H n [] []
  | cons {p : Addr × Bool} {l : List V} {ss : List (Addr × Bool)} {ls : List (List V)} : SqP K H p l → l.length = n → Cols K H n ss ls → Cols K H n (p :: ss) (l :: ls)
theorem Cols.get {K : PySem.W.Frag} {H : Hp} {n : Nat} : ∀ {ss : List (Addr × Bool)} {ls : List (List V)} {j : Nat} {p : Addr × Bool}, Cols K H n ss ls → ss[j]? = some p → ∃ l, ls[j]? = some l ∧ SqP K H p l ∧ l.length = n
  | _, _, _, _, .nil, h => by simp at h
  | _, _, 0, _, .cons a b c, h => by simp at h; subst h; exact ⟨_, rfl, a, b⟩
  | _, _, j + 1, _, .cons a b c, h => by
    obtain ⟨l, x, y⟩ := Cols.get c (by simpa using h)
    exact ⟨l, by simpa using x, y⟩
theorem Cols.len {K : PySem.W.Frag} {H : Hp} {n : Nat} : ∀ {ss : List (Addr × Bool)} {ls : List (List V)}, Cols K H n ss ls → ls.length = ss.length
  | _, _, .nil => rfl
  | _, _, .cons _ _ c => by simp [Cols.len c]
theorem for_zipN {K : PySem.W.Frag} {ss : List (Addr × Bool)} {ls : List (List V)} {n : Nat} {g : TG} {tb : TS} {D : Ends} {σ : L2.St} {H : Hp} (hne : ss ≠ []) (Pv : Nat → L2.St → Hp → Prop) (h0 : Pv 0 σ H) (hq : ∀ i σ H, Pv i σ H → Cols K H n ss ls)
    (hs : ∀ (i : Nat) (T : Addr) (σ : L2.St) (H : Hp), i < n → Pv i σ H → H T = none → g (.ref T) σ (upd H T (.tup (ls.map fun l => l.getD i .non))) fun σ2 H2 => tb { D with nx := Pv (i + 1), ct := Pv (i + 1), bk := D.nx } σ2 H2) (hd : ∀ σ H, Pv n σ H → D.nx σ H) :
    ∃ W : Nat → Nat → L2.St → Hp → Prop, (∃ m, W 0 m σ H) ∧ ∀ i m σ H, W i m σ H →
      ((ItN K ss).stop i H ∧ D.nx σ H) ∨ ((ItN K ss).go i H ∧ ∃ N : L2.St → Hp → Prop, (∀ σ' H', N σ' H' → ∃ m', m' < m ∧ W (i + 1) m' σ' H') ∧ ∀ v H', (ItN K ss).yld i H v H' → g v σ H' fun σ2 H2 => tb { D with nx := N, ct := N, bk := D.nx } σ2 H2) := by
  refine ⟨fun i m σ H => m = n - i ∧ i ≤ n ∧ Pv i σ H, ⟨n, rfl, Nat.zero_le _, h0⟩, ?_⟩
  rintro i m σ H ⟨rfl, hi, p⟩
  have C := hq i σ H p
  have hcl := C.len
  by_cases hlt : i < n
  · refine .inr ⟨⟨ls.map fun l => l.getD i .non, by simp [hcl], fun j q hj => ?_⟩, Pv (i + 1), fun σ' H' p' => ⟨n - (i + 1), by omega, rfl, hlt, p'⟩, fun v H' y => ?_⟩
    · obtain ⟨l, h1, h2, h3⟩ := C.get hj
      have e : l[i]? = some (l[i]'(by omega)) := List.getElem?_eq_getElem (by omega)
      refine ⟨l, _, h2, e, ?_⟩
      rw [List.getElem?_map, h1]
      simp [List.getD_eq_getElem?_getD, e]
    · obtain ⟨T, xs, rfl, hT, rfl, hxl, hf⟩ := y
      have e : xs = ls.map fun l => l.getD i .non := by
        apply List.ext_getElem?
        intro j
        by_cases hj : j < ss.length
        · obtain ⟨l, h1, h2, h3⟩ := C.get (List.getElem?_eq_getElem hj)
          rw [← hf j _ (List.getElem?_eq_getElem hj) l h2, List.getElem?_map, h1]
          simp [List.getD_eq_getElem?_getD, List.getElem?_eq_getElem (show i < l.length by omega)]
        · rw [List.getElem?_eq_none (by omega), List.getElem?_eq_none (by simp; omega)]
      rw [e]
      exact hs i T σ H hlt p hT
  · have e : i = n := by omega
    subst e
    refine .inl ⟨⟨fun q hq' => ?_, ?_⟩, hd σ H p⟩
    · obtain ⟨j, hj⟩ := List.mem_iff_getElem?.mp hq'
      obtain ⟨l, _, h2, _⟩ := C.get hj
      exact ⟨l, h2⟩
    · cases ss with
      | nil => exact absurd rfl hne
      | cons q r =>
        obtain ⟨l, _, h2, h3⟩ := C.get (j := 0) rfl
        exact ⟨q, by simp, l, h2, by omega⟩
end Msz
set_option maxRecDepth 100000
set_option maxHeartbeats 1000000
namespace Mse
open PySem PySem.Spec PyProof.Rows L2
/-! ### enumerate over a tuple -/
theorem meets_enumT (l : Addr) (items : Array Value) :
    Meets (Builtin.«enumerate.__new__» ⟨[.type "enumerate", .ref l], []⟩) (fun _ R s => s.heap.IsTuple l items ∧
      R (.ok (.ret (.ref (s.heap.push { cls := .type "tuple_iterator", data := .fields #[.ref l, .int 0 0] }).objs.size)))
        { s with heap := (s.heap.push { cls := .type "tuple_iterator", data := .fields #[.ref l, .int 0 0] }).push { cls := .type "enumerate", data := .fields #[.none, .bool false, .ref s.heap.objs.size, rawInt 0, .none, .none] } }) :=
  .of_wp fun prog w A R s h => by
    obtain ⟨hp, g, d, tk, os⟩ := s
    obtain ⟨⟨o, ho, hc, n, hd⟩, h⟩ := h
    have hsub := sub_enumerate
    have q1 : ∀ {A' : Around} {E : Value → Shared → Prop} {Q : Value → Shared → Prop}, Q (.ref hp.objs.size) ⟨hp.push { cls := .type "tuple_iterator", data := .fields #[.ref l, .int 0 0] }, g, d, tk, os⟩ → wpAny (model prog w) A' (pyIter (.ref l)) Q E ⟨hp, g, d, tk, os⟩ :=
      fun q => wpAny_pyIter_tuple (s := ⟨hp, g, d, tk, os⟩) (show Heap.IsTuple hp l items from ⟨o, ho, hc, n, hd⟩) q
    obtain ⟨cls, dct, data, sl⟩ := o
    have hc' : cls = .type "tuple" := hc
    have hd' : data = .seq items n := hd
    subst hc' hd'
    wp_walk using wpAny_loadPart' ho
    refine wpAny_stack_any fun st => wpAny_pure ?_
    split
    · rename_i c _ _ _ _ _
      cases (c == Value.type "enumerate")
      · wp_walk using wpAny_loadPart' ho, q1
        exact ⟨_, rfl, h⟩
      · wp_walk using wpAny_loadPart' ho, q1
        exact ⟨_, rfl, h⟩
    · wp_walk using wpAny_loadPart' ho, q1
      exact ⟨_, rfl, h⟩
theorem call_enumT {prog : Program} {w : World} {A : Around} {E : Value → Shared → Prop} {s : Shared} {l : Addr} {items : Array Value} {Q : Value → Shared → Prop} (hL : s.heap.IsTuple l items)
    (h : ∀ h', IsEnum h' (s.heap.objs.size + 1) s.heap.objs.size 0 .none → h'.IsTupleIter s.heap.objs.size l 0 → h'.objs.size = s.heap.objs.size + 2 → (∀ b o, s.heap.get? b = some o → h'.get? b = some o) → Q (.ref (s.heap.objs.size + 1)) { s with heap := h' }) :
    wpAny (model prog w) A (call (.type "enumerate") [.ref l]) Q E s := by
  refine callType_new F.called_enumerate (by decide) (F.typeCall_enumerate_1 _) (F.newCall_enumerate_1 _) (fun obj => F.args_object_init_2 obj _) F.entry_enumerate_new (meets_enumT l items) ⟨hL, ?_⟩
  have hz : (s.heap.push { cls := .type "tuple_iterator", data := .fields #[.ref l, .int 0 0] }).objs.size = s.heap.objs.size + 1 := Heap.size_push ..
  have e1 := Heap.get?_push_size (s.heap.push { cls := .type "tuple_iterator", data := .fields #[.ref l, .int 0 0] }) (o := { cls := .type "enumerate", data := .fields #[.none, .bool false, .ref s.heap.objs.size, rawInt 0, .none, .none] }) rfl
  rw [hz] at e1
  show _ ∧ _
  rw [hz]
  exact ⟨⟨_, e1, rfl⟩, h _ e1 ⟨_, Heap.get?_push_of_some _ (Heap.get?_push_size _ rfl), rfl, rfl⟩ (by rw [Heap.size_push, hz]) fun b o x => Heap.get?_push_of_some _ (Heap.get?_push_of_some _ x)⟩
/-- the tuple at a, its items in new pairs with their places -/
def IteT (K : PySem.W.Frag) (a : Addr) : It :=
  ⟨fun i H => ∃ (xs : List V) (x : V), SqT K H a xs ∧ xs[i]? = some x, fun i H v H' => ∃ T x, v = .ref T ∧ H T = none ∧ H' = upd H T (.tup [.int (i : Nat), x]) ∧ ∀ xs, SqT K H a xs → xs[i]? = some x, fun i H => ∃ xs : List V, SqT K H a xs ∧ xs.length ≤ i⟩
theorem turn_enumT {P : Program} {w : World} {K : PySem.W.Frag} {elts : List Expr} {kk : Nat} {tpos : Pos} (a e it : Addr) :
    Turn P w K (.Tuple elts kk tpos) (IteT K a) [e, it] e (fun i h => (∃ old, IsEnum h e it ((i : Nat) : Int) old) ∧ h.IsTupleIter it a i ∧ e ≠ it ∧ a ≠ it ∧ a ≠ e) where
  mem := by simp
  obj := fun i h st b hb => by
    obtain ⟨⟨old, he⟩, ⟨o, ho, hc, hd⟩, _⟩ := st
    have e' : b = e ∨ b = it := by simpa using hb
    rcases e' with z | z
    · rw [z]; exact ⟨_, he, fun v q => nomatch q⟩
    · rw [z]; exact ⟨o, ho, fun v q => by rw [hd] at q; cases q⟩
  keep := fun i h h' st k => by
    obtain ⟨⟨old, he⟩, ⟨o, ho, r⟩, n⟩ := st
    exact ⟨⟨old, k e (by simp) _ he⟩, ⟨o, k it (by simp) o ho, r⟩, n⟩
  item := by
    intro X hP hw hK hc i pins s σ H E I hf st hg
    subst hP hw hK
    obtain ⟨⟨old, he⟩, hit, hne, hai, hae⟩ := st
    obtain ⟨xs, x, hq, hx⟩ := hg
    obtain ⟨its, rv, p, hz⟩ := I.tuple hq
    obtain ⟨u, hu, ru⟩ := rv.get hx
    have hel : e < s.heap.objs.size := Heap.lt_size he
    have hil : it < s.heap.objs.size := by obtain ⟨_, q, _⟩ := hit; exact Heap.lt_size q
    have hlt : i < its.toArray.size := by
      have := (List.getElem?_eq_some_iff.mp hu).1
      simpa using this
    refine wpAny_pyNext_enum_itemD (Draws.tuple (A := X.A.in1) (show X.A.in1.handled = none from I.ok.hd hc) it a hai its.toArray) he ⟨hit, p⟩ hlt hne (by simp [hne, Ne.symm hae]) fun v h' tk hv ho st' hT hsz hk => ?_
    have ev : v = u := by
      have q : its.toArray[i]? = some u := by simpa using hu
      rw [q] at hv
      exact (Option.some.inj hv).symm
    subst ev
    refine ⟨_, rfl, wpAny_letOwnedTupleGo_enum (s := { s with heap := h', toks := tk + 1 }) ho fun h'' he' sb => ?_⟩
    have hT2 : h''.get? s.heap.objs.size = some { cls := .type "tuple", data := .seq #[.int i tk, v] } := (sb.2 _ (Nat.ne_of_gt hel)).trans hT
    have new : ObjOk X.prog X.w (upd H s.heap.objs.size (.tup [.int (i : Nat), x])) h'' s.heap.objs.size (.tup [.int (i : Nat), x]) :=
      ⟨by show 2 ≤ sizeLine; decide, [.int i tk, v], .cons ⟨_, rfl⟩ (.cons ru .nil), ⟨_, hT2, rfl, _, rfl⟩⟩
    have I1 : Inv X pins σ (upd H s.heap.objs.size (.tup [.int (i : Nat), x])) { s with heap := h'', toks := tk + 1 } :=
      I.turnedNew (ch := [e, it]) (fun b ob hb q => (sb.2 b (fun z => hb (by simp [z]))).trans (hk b ob (fun z => hb (by simp [z])) (fun z => hb (by simp [z])) q)) hf (Nat.le_refl _) new
    refine ⟨.ref s.heap.objs.size, _, I1, rfl, ⟨_, x, rfl, I.hok.fresh (Nat.le_refl _), rfl, fun ys hy => by rw [I.tuple_inj hy hq]; exact hx⟩, ⟨⟨v, ?_⟩, ?_, hne, hai, hae⟩, fun b hb => ?_⟩
    · have e1 : ((i + 1 : Nat) : Int) = (i : Int) + 1 := by omega
      rw [e1]; exact he'
    · obtain ⟨⟨o, q, r⟩, _⟩ := st'
      exact ⟨o, (sb.2 it (Ne.symm hne)).trans q, r⟩
    · have hlt' : b < s.heap.objs.size := by
        have e' : b = e ∨ b = it := by simpa using hb
        rcases e' with z | z
        · rw [z]; exact hel
        · rw [z]; exact hil
      rw [upd_ne (Nat.ne_of_lt hlt')]
      exact (hf b hb).1
  done := by
    intro X hP hw hK hc i pins s σ H E I hf st hg
    subst hP hw hK
    obtain ⟨⟨old, he⟩, hit, hne, hai, hae⟩ := st
    obtain ⟨xs, hq, hle⟩ := hg
    obtain ⟨its, rv, p, hz⟩ := I.tuple hq
    obtain ⟨o, ho, hc', hd⟩ := id hit
    have hx : its.toArray[i]? = none := by
      have := rv.length
      simp
      omega
    have D0 : Draws X.prog X.w X.A.in1 it [it, a] i (fun _ _ => False) (fun k h => k = i ∧ h.IsTupleIter it a i ∧ h.IsTuple a its.toArray) := ⟨fun _ _ st => let ⟨o, ho, _⟩ := st.2.1; ⟨o, ho⟩, fun k h h' st hk => ⟨st.1, let ⟨o, q, r⟩ := st.2.1; ⟨o, hk it (by simp) o q, r⟩, let ⟨o, q, r⟩ := st.2.2; ⟨o, hk a (by simp) o q, r⟩⟩,
      fun k s Q E hlt st _ => absurd st.1 (Nat.ne_of_lt hlt), fun s Q E st hE => wpAny_nextOf_tuple_end (I.ok.hd hc) st.2.1 st.2.2 hx hE⟩
    refine wpAny_pyNext_enum_endD D0 he ⟨rfl, hit, p⟩ fun h' eb => ⟨rfl, I.turnedL (t' := s.toks) (ch := [e, it]) (fun b ob hb q => eb b ob (fun z => hb (by simp [z])) q) hf⟩
  self := fun A i s Q E st h => let ⟨⟨_, he⟩, _⟩ := st; wpAny_pyIter_enum he h
def IteP (K : PySem.W.Frag) (p : Addr × Bool) : It := match p.2 with
  | true => IteT K p.1
  | false => Ite K p.1
def iEnumA (K : PySem.W.Frag) (ta : TA) : TI := fun σ H R => ta σ H fun vs H1 => ∃ (p : Addr × Bool) (xs : List V), vs = [.ref p.1] ∧ Msz.SqP K H1 p xs ∧ R (IteP K p) H1
theorem pi_enumA {X : Cx} {e : Expr} {ta : TA} {p pos tpos : Pos} {elts : List Expr} {kk : Nat} (hg : Gl X "enumerate") (hm : X.mg "enumerate" = none) (ha : PA X [e] ta) (hs : starEach [e] X.env = [(false, eval e X.env)] := by rfl) :
    PI X (.Tuple elts kk tpos) (.Call (.Name "enumerate" p) [e] [] pos) (iEnumA X.K ta) := by
  refine ⟨fun pins s σ H R I h => ?_⟩
  refine Call_ (ld_blt I hg hm boot_enumerate (PyProof.Rows.callWith_type1 (thn (ha.run pos pins s σ H _ I h) fun us s1 ⟨vs, H1, I1, r1, q1⟩ => ?_) hs rfl))
  obtain ⟨⟨a, t⟩, xs, ex, hq, q⟩ := q1
  subst ex
  cases r1 with
  | cons r rr =>
    cases rr
    cases r
    have fr : ∀ b ∈ [s1.heap.objs.size + 1, s1.heap.objs.size], FpOk X pins H1 b := fun b hb => by
      have e' : b = s1.heap.objs.size + 1 ∨ b = s1.heap.objs.size := by simpa using hb
      have hle : s1.heap.objs.size ≤ b := by
        rcases e' with z | z
        · rw [z]; exact Nat.le_add_right _ _
        · rw [z]; exact Nat.le_refl _
      exact I1.fpOk hle (I1.hok.fresh hle)
    cases t with
    | false =>
      obtain ⟨its, rv, p', hz⟩ := I1.list hq
      refine call_enumerate_list p'.isList fun h' he hit hsz hk => wpAny_pyIter_enum he ?_
      exact ⟨s1.heap.objs.size + 1, [s1.heap.objs.size + 1, s1.heap.objs.size], _, _, H1, rfl, I1.kept (t' := s1.toks) hk, turn_enum a (s1.heap.objs.size + 1) s1.heap.objs.size, ⟨⟨.none, he⟩, hit, Nat.succ_ne_self _⟩, fr, q⟩
    | true =>
      obtain ⟨its, rv, p', hz⟩ := I1.tuple hq
      have hal : a < s1.heap.objs.size := by obtain ⟨_, x, _⟩ := p'; exact Heap.lt_size x
      refine call_enumT (show s1.heap.IsTuple a its.toArray from p') fun h' he hit hsz hk => wpAny_pyIter_enum he ?_
      exact ⟨s1.heap.objs.size + 1, [s1.heap.objs.size + 1, s1.heap.objs.size], _, _, H1, rfl, I1.kept (t' := s1.toks) hk, turn_enumT a (s1.heap.objs.size + 1) s1.heap.objs.size, ⟨⟨.none, he⟩, hit, Nat.succ_ne_self _, Nat.ne_of_lt hal, Nat.ne_of_lt (Nat.lt_succ_of_lt hal)⟩, fr, q⟩
/-- a loop over enumerate of a list or tuple that stands still -/
theorem for_enumP {K : PySem.W.Frag} {p : Addr × Bool} {xs : List V} {g : TG} {tb : TS} {D : Ends} {σ : L2.St} {H : Hp} (Pv : Nat → L2.St → Hp → Prop) (h0 : Pv 0 σ H) (hl : ∀ i σ H, Pv i σ H → Msz.SqP K H p xs)
    (hs : ∀ (i : Nat) (x : V) (T : Addr) (σ : L2.St) (H : Hp), xs[i]? = some x → Pv i σ H → H T = none → g (.ref T) σ (upd H T (.tup [.int (i : Nat), x])) fun σ2 H2 => tb { D with nx := Pv (i + 1), ct := Pv (i + 1), bk := D.nx } σ2 H2) (hd : ∀ σ H, Pv xs.length σ H → D.nx σ H) :
    ∃ W : Nat → Nat → L2.St → Hp → Prop, (∃ m, W 0 m σ H) ∧ ∀ i m σ H, W i m σ H →
      ((IteP K p).stop i H ∧ D.nx σ H) ∨ ((IteP K p).go i H ∧ ∃ N : L2.St → Hp → Prop, (∀ σ' H', N σ' H' → ∃ m', m' < m ∧ W (i + 1) m' σ' H') ∧ ∀ v H', (IteP K p).yld i H v H' → g v σ H' fun σ2 H2 => tb { D with nx := N, ct := N, bk := D.nx } σ2 H2) := by
  refine ⟨fun i m σ H => m = xs.length - i ∧ i ≤ xs.length ∧ Pv i σ H, ⟨xs.length, rfl, Nat.zero_le _, h0⟩, ?_⟩
  rintro i m σ H ⟨rfl, hi, pp⟩
  have q := hl i σ H pp
  obtain ⟨a, t⟩ := p
  by_cases hlt : i < xs.length
  · have hx : xs[i]? = some xs[i] := List.getElem?_eq_getElem hlt
    cases t with
    | false =>
      refine .inr ⟨⟨xs, _, q, hx⟩, Pv (i + 1), fun σ' H' p' => ⟨xs.length - (i + 1), by omega, rfl, hlt, p'⟩, fun v H' y => ?_⟩
      obtain ⟨T, x, rfl, hT, rfl, f⟩ := y
      exact hs i x T σ H (f xs q) pp hT
    | true =>
      refine .inr ⟨⟨xs, _, q, hx⟩, Pv (i + 1), fun σ' H' p' => ⟨xs.length - (i + 1), by omega, rfl, hlt, p'⟩, fun v H' y => ?_⟩
      obtain ⟨T, x, rfl, hT, rfl, f⟩ := y
      exact hs i x T σ H (f xs q) pp hT
  · have e : i = xs.length := by omega
    subst e
    cases t with
    | false => exact .inl ⟨⟨xs, q, Nat.le_refl _⟩, hd σ H pp⟩
    | true => exact .inl ⟨⟨xs, q, Nat.le_refl _⟩, hd σ H pp⟩
end Mse
set_option maxRecDepth 100000
set_option maxHeartbeats 1000000
namespace Mst
open PySem PySem.Spec PyProof.Rows L2
/-! ### a tuple turned round, the least of a tuple of ints -/
section
variable {prog : Program} {w : World} {A : Around} {E : Value → Shared → Prop} {s : Shared}
theorem pick_down (items : Array Value) : ((List.range items.size).filterMap fun (m : Nat) => items[(((items.size : Int) - 1) + (m : Int) * (-1)).toNat]?) = items.toList.reverse := by
  apply List.ext_getElem?
  intro j
  have e : ∀ m, m < items.size → items[(((items.size : Int) - 1) + (m : Int) * (-1)).toNat]? = some (items.toList.reverse.getD m .none) := by
    intro m hm
    have e1 : (((items.size : Int) - 1) + (m : Int) * (-1)).toNat = items.size - 1 - m := by omega
    have hlt : items.size - 1 - m < items.size := by omega
    rw [e1, Array.getElem?_eq_getElem hlt, List.getD_eq_getElem?_getD, List.getElem?_reverse (by simpa using hm)]
    simp only [Array.length_toList]
    rw [List.getElem?_eq_getElem (by simpa using hlt)]
    simp
  have e2 : ((List.range items.size).filterMap fun (m : Nat) => items[(((items.size : Int) - 1) + (m : Int) * (-1)).toNat]?) = (List.range items.size).map fun m => items.toList.reverse.getD m .none := by
    have gen : ∀ l : List Nat, (∀ m ∈ l, m < items.size) → (l.filterMap fun (m : Nat) => items[(((items.size : Int) - 1) + (m : Int) * (-1)).toNat]?) = l.map fun m => items.toList.reverse.getD m .none := by
      intro l
      induction l with
      | nil => intro _; rfl
      | cons m l ih =>
        intro h
        rw [List.filterMap_cons, e m (h m (by simp)), ih fun x hx => h x (by simp [hx])]
        rfl
    exact gen _ fun m hm => List.mem_range.mp hm
  rw [e2, List.getElem?_map]
  by_cases hj : j < items.size
  · rw [List.getElem?_range hj]
    simp only [Option.map_some]
    rw [List.getD_eq_getElem?_getD, List.getElem?_eq_getElem (by simpa using hj)]
    rfl
  · rw [List.getElem?_eq_none (by simp; omega), List.getElem?_eq_none (by simp; omega)]
    rfl
theorem getItem_tuple_rev {t sl : Addr} {items : Array Value} {vl vu vs : Value} {Q : Value → Shared → Prop} (ht : IsTup s.heap t items) (hs : s.heap.IsSliceOf sl vl vu vs) (pl : IsPart vl none) (pu : IsPart vu none) (ps : IsPart vs (some (-1)))
    (h : Q (.ref s.heap.objs.size) { s with heap := s.heap.push { cls := .type "tuple", data := .seq items.toList.reverse.toArray } }) (hsz : items.size ≤ sizeLine) : wpAny (model prog w) A (getItem (.ref t) (.ref sl)) Q E s := by
  have hok : sizeOk (.seq items.toList.reverse.toArray) := by
    show items.toList.reverse.toArray.size ≤ sizeLine
    simpa using hsz
  obtain ⟨os, hos, hcs, hds⟩ := id hs
  have hTs : s.TypeIs (.ref sl) "slice" := ⟨os, hos, hcs⟩
  unfold getItem
  try with_reducible refine wpAny_holding ?_
  first | refine wpAny_bind (wpAny_pure ?_) | skip
  refine wpAny_bind (wpAny_sequenceKey ht.typeIs (by decide) ?_)
  refine wpAny_bind (wpAny_callSpecial?_slot (name := Str.ofString "__getitem__") ht.typeIs PyProof.Rows.slot_tuple_getitem (wpAny_call_entry PyProof.Rows.slot_tuple_getitem ht.typeIs entry_tuple_getitem ?_ (args_tuple_getitem _ _)))
  show wpAny _ _ (Builtin.Tuple.tupleItemsOf (.ref t) >>= _) _ _ s
  refine wpAny_bind (tupleItemsOf_ ht ?_)
  refine wpAny_bind (wpAny_typeOf hTs ?_)
  rw [if_pos (by decide)]
  cases pl
  cases pu
  cases ps
  rename_i tk
  have happ : ∀ {Q' : Int × Int × Nat → Shared → Prop} {E' : Value → Shared → Prop} {A' : Around}, Q' ((items.size : Int) - 1, -1, items.size) s → wpAny (model prog w) A' (Builtin.Slice.sliceApplied (.ref sl) (pure (items.size : Int))) Q' E' s := fun {Q' E' A'} q => by
    unfold Builtin.Slice.sliceApplied Builtin.Slice.sliceFields
    refine wpAny_bind (wpAny_bind (wpAny_field hos hds (x := .none) rfl (wpAny_bind (wpAny_field hos hds (x := .none) rfl (wpAny_bind (wpAny_field hos hds (x := .int (-1) tk) rfl (wpAny_pure ?_)))))))
    refine wpAny_bind (slicePart_int ?_)
    show wpAny _ _ (if (((-1 : Int)) == 0) = true then _ else _) _ _ s
    rw [if_neg (by decide)]
    refine wpAny_bind (slicePart_none (wpAny_bind (slicePart_none (wpAny_bind (wpAny_pure ?_)))))
    have e2 : Builtin.Slice.slicePlaces ((items.size : Int) - 1) (-1) (-1) = items.size := by
      unfold Builtin.Slice.slicePlaces
      rw [if_neg (by decide)]
      have e3 : (-(-1 : Int)) = 1 := by decide
      rw [e3, Int.ediv_one]
      split <;> omega
    show wpAny _ _ (pure ((items.size : Int) - 1, (-1 : Int), Builtin.Slice.slicePlaces ((items.size : Int) - 1) (-1) (-1))) _ _ s
    rw [e2]
    exact wpAny_pure q
  refine wpAny_bind (happ ?_)
  have hno : ¬ ((((items.size : Int) - 1) == 0 && ((-1 : Int)) == 1 && items.size == items.size) = true) := by
    intro q
    rw [Bool.and_eq_true, Bool.and_eq_true] at q
    exact absurd q.1.2 (by decide)
  show wpAny _ _ (if ((((items.size : Int) - 1) == 0 && ((-1 : Int)) == 1 && items.size == items.size) = true) then _ else _) _ _ s
  rw [if_neg hno, pick_down]
  first
    | exact wpAny_bind (m := Builtin.Tuple.tupleExact _) (wpAny_newObj_type (wpAny_pure ⟨_, rfl, wpAny_pure h⟩) hok)
    | exact wpAny_bind (m := Builtin.Tuple.tupleExact _) (wpAny_newObj_type (wpAny_bind (wpAny_pure (wpAny_pure ⟨_, rfl, wpAny_pure h⟩))) hok)
    | exact wpAny_bind (wpAny_bind (m := Builtin.Tuple.tupleExact _) (wpAny_newObj_type (wpAny_pure (wpAny_pure ⟨_, rfl, wpAny_pure h⟩)) hok))
    | exact wpAny_bind (wpAny_bind (m := Builtin.Tuple.tupleExact _) (wpAny_newObj_type (wpAny_pure ⟨_, rfl, wpAny_pure h⟩) hok))
theorem min_tuple {l : Addr} {its : List Value} {ns : List Int} {Q : Value → Shared → Prop} (hh : A.handled = none) (hl : s.heap.IsTuple l its.toArray) (hi : IntsAre its ns) (hne : 0 < ns.length)
    (h : ∀ h' tk M t', (∀ b o, s.heap.get? b = some o → h'.get? b = some o) → M ∈ ns → (∀ a, a ∈ ns → M ≤ a) → Q (.int M t') { s with heap := h', toks := tk }) : wpAny (model prog w) A (call (.builtin "min") [.ref l]) Q E s := by
  obtain ⟨xs, e⟩ := hi.allInts.items
  have hn : numsOf (intItems xs).toList = ns := by rw [← e]; exact hi.numsOf
  rw [nums_intItems] at hn
  subst hn
  rw [e] at hl
  have hsz : 0 < xs.size := by simpa using hne
  have hlt : l < s.heap.objs.size := by obtain ⟨_, x, _⟩ := hl; exact Heap.lt_size x
  refine call_min_walk (wpAny_pyIter_tuple hl ?_)
  refine ⟨_, _, _, _, _, _, _, rfl, Walks.tuple (A := A.in1) hh s.heap.objs.size l (Nat.ne_of_lt hlt) (intItems xs), ⟨⟨_, Heap.get?_push_size _ rfl, rfl, rfl⟩, hl.push _⟩, ?_, by simpa [intItems] using hsz, CmpOf.ints_lt (numAt xs) (fun _ _ => intItems_at), fun v h' tk hP hk => ?_⟩
  · intro b hb
    show b < (s.heap.push _).objs.size
    rw [Heap.size_push]
    rcases List.mem_cons.mp hb with rfl | hb
    · exact Nat.lt_succ_self _
    · rcases List.mem_cons.mp hb with rfl | hb
      · exact Nat.lt_succ_of_lt hlt
      · cases hb
  · obtain ⟨t, rfl⟩ := intItems_at (show (intItems xs)[argBest (fun i j => decide (numAt xs i < numAt xs j)) (xs.size - 1)]? = some v by simpa [intItems] using hP)
    obtain ⟨h1, h2⟩ := argBest_lt (numAt xs) (xs.size - 1)
    have kept : ∀ b o, s.heap.get? b = some o → h'.get? b = some o := fun b o e => by
      refine hk b o (fun hm => ?_) (Heap.get?_push_of_some _ e)
      rcases List.mem_cons.mp hm with e1 | hm
      · exact absurd (e1 ▸ Heap.lt_size e) (Nat.lt_irrefl _)
      · cases hm
    refine h h' tk _ t kept ?_ fun a ha => ?_
    · rw [numAt_eq]; exact PySem.getD_mem (by rw [List.length_map, Array.length_toList]; omega)
    · obtain ⟨j, hj, rfl⟩ := mem_getD ha
      rw [List.length_map, Array.length_toList] at hj
      rw [← numAt_eq]; exact h2 j (by omega)
end
def tRevT (K : PySem.W.Frag) (te : TE) : TE := fun σ H Q => te σ H fun x H1 => ∃ a xs, x = .ref a ∧ SqT K H1 a xs ∧ ∀ p, H1 p = none → Q (.ref p) (upd H1 p (.tup xs.reverse))
theorem pe_revT {X : Cx} {e : Expr} {te : TE} {k : Nat} {p1 p2 p3 pos : Pos} (he : PE X e te) : PE X (.Subscript e (.Slice none none (some (.UnaryOp .USub (.Constant (.int 1) k p1) p2)) p3) pos) (tRevT X.K te) := by
  refine ⟨fun pins s σ H Q I h => ?_⟩
  refine Subscript_ (thn (he.run pins s σ H _ I h) fun v s1 ⟨x, H1, I1, r1, q1⟩ => ?_)
  obtain ⟨a, xs, ex, hx, q⟩ := q1
  subst ex
  cases r1
  have hst : PO X (some (.UnaryOp .USub (.Constant (.int 1) k p1) p2)) (tPart (tUn (rU fun i => .int (-i)) (tC (.int 1)))) := po_some (pe_un un_neg pe_int)
  refine wpAny_Slice (thn (po_none.run pins s1 σ H1 (fun o H2 => o = none ∧ H2 = H1) I1 ⟨rfl, rfl⟩) fun vl s2 ⟨l, H2, I2, pl, el, e2⟩ => ?_)
  subst el e2
  refine thn (po_none.run pins s2 σ H2 (fun o H3 => o = none ∧ H3 = H2) I2 ⟨rfl, rfl⟩) fun vu s3 ⟨u, H3, I3, pu, eu, e3⟩ => ?_
  subst eu e3
  refine thn (hst.run pins s3 σ H3 (fun o H4 => o = some (-1) ∧ H4 = H3) I3 ⟨1, rfl, -1, rfl, rfl, rfl⟩) fun vs s4 ⟨o, H4, I4, ps, eo, e4⟩ => ?_
  subst eo e4
  have I5 : Inv X pins σ H4 { s4 with heap := s4.heap.push { cls := .type "slice", data := .fields #[vl, vu, vs] } } := I4.kept (t' := s4.toks) fun b ob q => Heap.get?_push_of_some _ q
  obtain ⟨its, r, ht, hz⟩ := I5.tuple hx
  have hlen := r.length
  show wpAny (model X.prog X.w) X.A (subscriptTail e (.Slice none none (some (.UnaryOp .USub (.Constant (.int 1) k p1) p2)) p3) (.ref a) (.ref s4.heap.objs.size)) (EP X pins σ Q) X.xe { s4 with heap := s4.heap.push { cls := .type "slice", data := .fields #[vl, vu, vs] } }
  refine tail_any (ops := [.ref a, .ref s4.heap.objs.size]) ht.typeIs (PyProof.Rows.slot_tuple_getitem.lookup) ?_ (by with_unfolding_all rfl)
  refine getItem_tuple_rev ht (Heap.IsSliceOf.new _ vl vu vs) pl pu ps ?_ (by rw [List.size_toArray]; omega)
  refine ⟨.ref _, _, I5.laid (t' := s4.toks) (o := .tup xs.reverse) (fun b ob q => Heap.get?_push_of_some _ q) (Nat.le_refl _) ?_, rfl, q _ (I5.hok.fresh (Nat.le_refl _))⟩
  exact ⟨by rw [List.length_reverse]; exact hz, _, r.reverse, IsTup.new _ _⟩
def rMinT (K : PySem.W.Frag) : List V → Hp → VK → Prop := fun vs H Q => ∃ (a : Addr) (ns : List Int), vs = [V.ref a] ∧ SqT K H a (ns.map V.int) ∧ 0 < ns.length ∧ ∀ m, m ∈ ns → (∀ y, y ∈ ns → m ≤ y) → Q (.int m) H
theorem cr_minT {X : Cx} (hc : X.calm = true) : CallR X (.builtin "min") (rMinT X.K) := by
  intro pins s σ H vs us Q I r h
  obtain ⟨a, ns, rfl, hs, hne, q⟩ := h
  obtain ⟨its, rv, hl, _⟩ := I.tuple hs
  rw [Vals.ref1 r]
  exact min_tuple (I.ok.hd hc) hl rv.ints hne fun h' tk m t' hk h1 h2 => ⟨.int _, H, I.kept hk, ⟨_, rfl⟩, q m h1 h2⟩
end Mst
namespace Mst
open PySem L2
/-! ### a statement, then the rest, the rest shown once -/
def tMid (t u : TS) : TS := fun D σ H => ∃ M : L2.St → Hp → Prop, (∀ σ' H', M σ' H' → u D σ' H') ∧ t { D with nx := M } σ H
theorem pss_mid {X : Cx} {st : Stmt} {more : List Stmt} {t u : TS} (a : PS X st t) (b : PSs X more u) : PSs X (st :: more) (tMid t u) :=
  ⟨fun pins s σ H D I ⟨M, hu, hm⟩ => wpAny_execs_cons (thn (a.run pins s σ H { D with nx := M } I hm) fun fl s1 q =>
    match fl, q with
    | .next, ⟨σ', H', J, r⟩ => b.run pins s1 σ' H' D J (hu σ' H' r)
    | .ret _, q => q
    | .brk, q => q
    | .cont, q => q)⟩
end Mst
set_option maxRecDepth 100000
set_option maxHeartbeats 4000000
namespace Msw
open PySem L2
/-! ### the text by places (printed by base.py) -/
def topS (i : Nat) : Stmt := PySem.Challenge.pw_matedsquares_k45_whole_great_families.main.body.getD i (.Pass ⟨0, 0, 0, 0⟩)
abbrev s_is_prime : Stmt := topS 9
abbrev s_size_of : Stmt := topS 10
abbrev s_is_field : Stmt := topS 11
abbrev s_check_field : Stmt := topS 12
abbrev s_figures_of : Stmt := topS 13
abbrev s_number_of : Stmt := topS 14
abbrev s_remainder : Stmt := topS 15
abbrev s_multiplied : Stmt := topS 16
abbrev s_raised : Stmt := topS 17
abbrev s_trimmed : Stmt := topS 18
abbrev s_have_common : Stmt := topS 19
abbrev s_turned_round : Stmt := topS 20
abbrev s_is_irreducible : Stmt := topS 21
abbrev s_lower_of : Stmt := topS 22
abbrev s_sum_of : Stmt := topS 23
abbrev s_less_of : Stmt := topS 24
abbrev s_product_of : Stmt := topS 25
abbrev s_power_of : Stmt := topS 26
abbrev s_inverse_of : Stmt := topS 27
abbrev s_polynomial : Stmt := topS 28
abbrev s_is_prime_power : Stmt := topS 33
abbrev s_checked_parts : Stmt := topS 34
abbrev s_F_init : Stmt := inClass (topS 35) 0
abbrev s_F_split : Stmt := inClass (topS 35) 1
abbrev s_F_joined : Stmt := inClass (topS 35) 2
abbrev s_F_check_kind : Stmt := inClass (topS 35) 3
abbrev s_F_check_point : Stmt := inClass (topS 35) 4
abbrev s_F_cell : Stmt := inClass (topS 35) 5
abbrev s_F_cell_of : Stmt := inClass (topS 35) 6
abbrev s_F_combined : Stmt := inClass (topS 35) 7
abbrev s_F_divided : Stmt := inClass (topS 35) 8
abbrev s_F_at_cell : Stmt := inClass (topS 35) 9
abbrev s_F_told : Stmt := inClass (topS 35) 10
abbrev s_F_check_square : Stmt := inClass (topS 35) 11
abbrev s_F_sign : Stmt := inClass (topS 35) 12
abbrev s_F_row_for : Stmt := inClass (topS 35) 13
abbrev s_F_column_for : Stmt := inClass (topS 35) 14
abbrev s_F_word : Stmt := inClass (topS 35) 15
abbrev s_kind_of : Stmt := topS 37
abbrev s_apart_of : Stmt := topS 38
abbrev s_agreement : Stmt := topS 39
abbrev s_square_with : Stmt := topS 40
abbrev s__law_row : Stmt := topS 42
abbrev s__law_numbers : Stmt := topS 43
abbrev s__law_figures : Stmt := topS 44
abbrev s__law_number : Stmt := topS 45
abbrev s__law_times : Stmt := topS 46
abbrev s__law_plus : Stmt := topS 47
abbrev s__law_size : Stmt := topS 48
abbrev s__law_order : Stmt := topS 49
abbrev s__law_many : Stmt := topS 50
abbrev s__law_split : Stmt := topS 51
abbrev s__law_joined : Stmt := topS 52
abbrev s__law_has : Stmt := topS 53
abbrev s__law_great : Stmt := topS 54
abbrev s__law_long : Stmt := topS 55
abbrev s_law : Stmt := topS 56
theorem sc_is_prime : FnScope ["number", "divisor"] ["number"] (defScope s_is_prime) := ⟨rfl, rfl, rfl, by decide +kernel, rfl, by decide +kernel, by decide +kernel⟩
theorem sc_size_of : FnScope ["prime", "degree", "size", "_"] ["prime", "degree"] (defScope s_size_of) := ⟨rfl, rfl, rfl, by decide +kernel, rfl, by decide +kernel, by decide +kernel⟩
theorem sc_is_field : FnScope ["prime", "degree"] ["prime", "degree"] (defScope s_is_field) := ⟨rfl, rfl, rfl, by decide +kernel, rfl, by decide +kernel, by decide +kernel⟩
theorem sc_check_field : FnScope ["prime", "degree"] ["prime", "degree"] (defScope s_check_field) := ⟨rfl, rfl, rfl, by decide +kernel, rfl, by decide +kernel, by decide +kernel⟩
theorem sc_figures_of : FnScope ["prime", "many", "number", "found", "_"] ["prime", "many", "number"] (defScope s_figures_of) := ⟨rfl, rfl, rfl, by decide +kernel, rfl, by decide +kernel, by decide +kernel⟩
theorem sc_number_of : FnScope ["prime", "figures", "found", "figure"] ["prime", "figures"] (defScope s_number_of) := ⟨rfl, rfl, rfl, by decide +kernel, rfl, by decide +kernel, by decide +kernel⟩
theorem sc_remainder : FnScope ["prime", "lower", "figures", "degree", "row", "at", "top", "place", "part"] ["prime", "lower", "figures"] (defScope s_remainder) := ⟨rfl, rfl, rfl, by decide +kernel, rfl, by decide +kernel, by decide +kernel⟩
theorem sc_multiplied : FnScope ["prime", "one", "other", "found", "at", "part", "place", "far"] ["prime", "one", "other"] (defScope s_multiplied) := ⟨rfl, rfl, rfl, by decide +kernel, rfl, by decide +kernel, by decide +kernel⟩
theorem sc_raised : FnScope ["prime", "lower", "figures", "times", "found"] ["prime", "lower", "figures", "times"] (defScope s_raised) := ⟨rfl, rfl, rfl, by decide +kernel, rfl, by decide +kernel, by decide +kernel⟩
theorem sc_trimmed : FnScope ["figures", "many"] ["figures"] (defScope s_trimmed) := ⟨rfl, rfl, rfl, by decide +kernel, rfl, by decide +kernel, by decide +kernel⟩
theorem sc_have_common : FnScope ["prime", "one", "other", "first", "second", "lead", "lower", "part"] ["prime", "one", "other"] (defScope s_have_common) := ⟨rfl, rfl, rfl, by decide +kernel, rfl, by decide +kernel, by decide +kernel⟩
theorem sc_turned_round : FnScope ["prime", "number", "found", "times"] ["prime", "number"] (defScope s_turned_round) := ⟨rfl, rfl, rfl, by decide +kernel, rfl, by decide +kernel, by decide +kernel⟩
theorem sc_is_irreducible : FnScope ["prime", "lower", "degree", "figures", "_", "apart"] ["prime", "lower"] (defScope s_is_irreducible) := ⟨rfl, rfl, rfl, by decide +kernel, rfl, by decide +kernel, by decide +kernel⟩
theorem sc_lower_of : FnScope ["prime", "degree", "number"] ["prime", "degree"] (defScope s_lower_of) := ⟨rfl, rfl, rfl, by decide +kernel, rfl, by decide +kernel, by decide +kernel⟩
theorem sc_sum_of : FnScope ["prime", "one", "other", "found", "step"] ["prime", "one", "other"] (defScope s_sum_of) := ⟨rfl, rfl, rfl, by decide +kernel, rfl, by decide +kernel, by decide +kernel⟩
theorem sc_less_of : FnScope ["prime", "one", "other", "found", "step"] ["prime", "one", "other"] (defScope s_less_of) := ⟨rfl, rfl, rfl, by decide +kernel, rfl, by decide +kernel, by decide +kernel⟩
theorem sc_product_of : FnScope ["prime", "lower", "one", "other", "degree", "parts"] ["prime", "lower", "one", "other"] (defScope s_product_of) := ⟨rfl, rfl, rfl, by decide +kernel, rfl, by decide +kernel, by decide +kernel⟩
theorem sc_power_of : FnScope ["prime", "lower", "one", "times"] ["prime", "lower", "one", "times"] (defScope s_power_of) := ⟨rfl, rfl, rfl, by decide +kernel, rfl, by decide +kernel, by decide +kernel⟩
theorem sc_inverse_of : FnScope ["prime", "lower", "one"] ["prime", "lower", "one"] (defScope s_inverse_of) := ⟨rfl, rfl, rfl, by decide +kernel, rfl, by decide +kernel, by decide +kernel⟩
theorem sc_polynomial : FnScope ["prime", "degree"] ["prime", "degree"] (defScope s_polynomial) := ⟨rfl, rfl, rfl, by decide +kernel, rfl, by decide +kernel, by decide +kernel⟩
theorem sc_is_prime_power : FnScope ["part", "number"] ["part"] (defScope s_is_prime_power) := ⟨rfl, rfl, rfl, by decide +kernel, rfl, by decide +kernel, by decide +kernel⟩
theorem sc_checked_parts : FnScope ["parts", "found", "order", "part", "prime", "_"] ["parts"] (defScope s_checked_parts) := ⟨rfl, rfl, rfl, by decide +kernel, rfl, by decide +kernel, by decide +kernel⟩
theorem sc_F_init : FnScope ["self", "parts", "prime", "degree", "size"] ["self", "parts"] (defScope s_F_init) := ⟨rfl, rfl, rfl, by decide +kernel, rfl, by decide +kernel, by decide +kernel⟩
theorem sc_F_split : FnScope ["self", "point", "found", "size"] ["self", "point"] (defScope s_F_split) := ⟨rfl, rfl, rfl, by decide +kernel, rfl, by decide +kernel, by decide +kernel⟩
theorem sc_F_joined : FnScope ["self", "figures", "point", "size", "figure"] ["self", "figures"] (defScope s_F_joined) := ⟨rfl, rfl, rfl, by decide +kernel, rfl, by decide +kernel, by decide +kernel⟩
theorem sc_F_check_kind : FnScope ["self", "kind"] ["self", "kind"] (defScope s_F_check_kind) := ⟨rfl, rfl, rfl, by decide +kernel, rfl, by decide +kernel, by decide +kernel⟩
theorem sc_F_check_point : FnScope ["self", "point"] ["self", "point"] (defScope s_F_check_point) := ⟨rfl, rfl, rfl, by decide +kernel, rfl, by decide +kernel, by decide +kernel⟩
theorem sc_F_cell : FnScope ["self", "one", "other", "kind", "point"] ["self", "one", "other"] (defScope s_F_cell) := ⟨rfl, rfl, rfl, by decide +kernel, rfl, by decide +kernel, by decide +kernel⟩
theorem sc_F_cell_of : FnScope ["self", "one", "other", "kind", "point", "column"] ["self", "one", "other"] (defScope s_F_cell_of) := ⟨rfl, rfl, rfl, by decide +kernel, rfl, by decide +kernel, by decide +kernel⟩
theorem sc_F_combined : FnScope ["self", "point", "other", "kind", "together", "found", "prime", "_", "lower", "one", "far"] ["self", "point", "other", "kind", "together"] (defScope s_F_combined) := ⟨rfl, rfl, rfl, by decide +kernel, rfl, by decide +kernel, by decide +kernel⟩
theorem sc_F_divided : FnScope ["self", "point", "kind", "other", "found", "prime", "_", "lower", "one"] ["self", "point", "kind", "other"] (defScope s_F_divided) := ⟨rfl, rfl, rfl, by decide +kernel, rfl, by decide +kernel, by decide +kernel⟩
theorem sc_F_at_cell : FnScope ["self", "row", "column", "kind"] ["self", "row", "column", "kind"] (defScope s_F_at_cell) := ⟨rfl, rfl, rfl, by decide +kernel, rfl, by decide +kernel, by decide +kernel⟩
theorem sc_F_told : FnScope ["self", "one", "other", "wanted", "row", "column"] ["self", "one", "other", "wanted"] (defScope s_F_told) := ⟨rfl, rfl, rfl, by decide +kernel, rfl, by decide +kernel, by decide +kernel⟩
theorem sc_F_check_square : FnScope ["self", "number"] ["self", "number"] (defScope s_F_check_square) := ⟨rfl, rfl, rfl, by decide +kernel, rfl, by decide +kernel, by decide +kernel⟩
theorem sc_F_sign : FnScope ["self", "number", "row", "column"] ["self", "number", "row", "column"] (defScope s_F_sign) := ⟨rfl, rfl, rfl, by decide +kernel, rfl, by decide +kernel, by decide +kernel⟩
theorem sc_F_row_for : FnScope ["self", "number", "column", "sign"] ["self", "number", "column", "sign"] (defScope s_F_row_for) := ⟨rfl, rfl, rfl, by decide +kernel, rfl, by decide +kernel, by decide +kernel⟩
theorem sc_F_column_for : FnScope ["self", "number", "row", "sign"] ["self", "number", "row", "sign"] (defScope s_F_column_for) := ⟨rfl, rfl, rfl, by decide +kernel, rfl, by decide +kernel, by decide +kernel⟩
theorem sc_F_word : FnScope ["self", "row", "column", "kinds", "kind"] ["self", "row", "column", "kinds"] (defScope s_F_word) := ⟨rfl, rfl, rfl, by decide +kernel, rfl, by decide +kernel, by decide +kernel⟩
theorem sc_kind_of : FnScope ["family", "apart", "across", "chosen", "prime", "_", "lower", "one", "other", "kind"] ["family", "apart", "across"] (defScope s_kind_of) := ⟨rfl, rfl, rfl, by decide +kernel, rfl, by decide +kernel, by decide +kernel⟩
theorem sc_apart_of : FnScope ["family", "one", "other", "found", "prime", "_", "first", "second"] ["family", "one", "other"] (defScope s_apart_of) := ⟨rfl, rfl, rfl, by decide +kernel, rfl, by decide +kernel, by decide +kernel⟩
theorem sc_agreement : FnScope ["family", "cell", "other", "point"] ["family", "cell", "other"] (defScope s_agreement) := ⟨rfl, rfl, rfl, by decide +kernel, rfl, by decide +kernel, by decide +kernel⟩
theorem sc_square_with : FnScope ["family", "row", "column", "sign", "point", "kind"] ["family", "row", "column", "sign"] (defScope s_square_with) := ⟨rfl, rfl, rfl, by decide +kernel, rfl, by decide +kernel, by decide +kernel⟩
theorem sc__law_row : FnScope ["_law_cell", "_law_many_here", "_law_row_here", "_law_rest", "_law_mixed", "_law_k"] ["_law_cell", "_law_many_here"] (defScope s__law_row) := ⟨rfl, rfl, rfl, by decide +kernel, rfl, by decide +kernel, by decide +kernel⟩
theorem sc__law_numbers : FnScope ["_law_script", "_law_many_here", "_law_cells", "_law_each", "_law_numbers_here", "_law_cell", "_law_number_here"] ["_law_script", "_law_many_here"] (defScope s__law_numbers) := ⟨rfl, rfl, rfl, by decide +kernel, rfl, by decide +kernel, by decide +kernel⟩
theorem sc__law_figures : FnScope ["_law_p", "_law_k", "_law_number_here", "_law_found", "_law_turn"] ["_law_p", "_law_k", "_law_number_here"] (defScope s__law_figures) := ⟨rfl, rfl, rfl, by decide +kernel, rfl, by decide +kernel, by decide +kernel⟩
theorem sc__law_number : FnScope ["_law_p", "_law_figures_here", "_law_found", "_law_figure"] ["_law_p", "_law_figures_here"] (defScope s__law_number) := ⟨rfl, rfl, rfl, by decide +kernel, rfl, by decide +kernel, by decide +kernel⟩
theorem sc__law_times : FnScope ["_law_p", "_law_lower", "_law_one", "_law_other", "_law_k", "_law_first", "_law_second", "_law_row_here", "_law_i", "_law_j", "_law_at", "_law_top", "_law_part"] ["_law_p", "_law_lower", "_law_one", "_law_other"] (defScope s__law_times) := ⟨rfl, rfl, rfl, by decide +kernel, rfl, by decide +kernel, by decide +kernel⟩
theorem sc__law_plus : FnScope ["_law_p", "_law_k", "_law_one", "_law_other", "_law_first", "_law_second", "_law_i"] ["_law_p", "_law_k", "_law_one", "_law_other"] (defScope s__law_plus) := ⟨rfl, rfl, rfl, by decide +kernel, rfl, by decide +kernel, by decide +kernel⟩
theorem sc__law_size : FnScope ["_law_p", "_law_k", "_law_total", "_law_turn"] ["_law_p", "_law_k"] (defScope s__law_size) := ⟨rfl, rfl, rfl, by decide +kernel, rfl, by decide +kernel, by decide +kernel⟩
theorem sc__law_order : FnScope ["_law_parts", "_law_total", "_law_p", "_law_k"] ["_law_parts"] (defScope s__law_order) := ⟨rfl, rfl, rfl, by decide +kernel, rfl, by decide +kernel, by decide +kernel⟩
theorem sc__law_many : FnScope ["_law_parts", "_law_p", "_law_k"] ["_law_parts"] (defScope s__law_many) := ⟨rfl, rfl, rfl, by decide +kernel, rfl, by decide +kernel, by decide +kernel⟩
theorem sc__law_split : FnScope ["_law_parts", "_law_point", "_law_found", "_law_p", "_law_k", "_law_size_here"] ["_law_parts", "_law_point"] (defScope s__law_split) := ⟨rfl, rfl, rfl, by decide +kernel, rfl, by decide +kernel, by decide +kernel⟩
theorem sc__law_joined : FnScope ["_law_parts", "_law_figures_here", "_law_point", "_law_at"] ["_law_parts", "_law_figures_here"] (defScope s__law_joined) := ⟨rfl, rfl, rfl, by decide +kernel, rfl, by decide +kernel, by decide +kernel⟩
theorem sc__law_has : FnScope ["_law_parts", "_law_lowers", "_law_kind", "_law_row_here", "_law_column", "_law_rows", "_law_columns", "_law_found", "_law_at", "_law_p", "_law_k"] ["_law_parts", "_law_lowers", "_law_kind", "_law_row_here", "_law_column"] (defScope s__law_has) := ⟨rfl, rfl, rfl, by decide +kernel, rfl, by decide +kernel, by decide +kernel⟩
theorem sc__law_great : FnScope ["_law_numbers_here", "_law_at", "_law_primes", "_law_parts", "_law_turn", "_law_p", "_law_most", "_law_k", "_law_from"] ["_law_numbers_here", "_law_at"] (defScope s__law_great) := ⟨rfl, rfl, rfl, by decide +kernel, rfl, by decide +kernel, by decide +kernel⟩
theorem sc__law_long : FnScope ["_law_numbers_here", "_law_at", "_law_total", "_law_k"] ["_law_numbers_here", "_law_at"] (defScope s__law_long) := ⟨rfl, rfl, rfl, by decide +kernel, rfl, by decide +kernel, by decide +kernel⟩
theorem sc_law : FnScope ["_law_script", "_law_numbers_here", "_law_parts", "_law_turn", "_law_order_here", "_law_many_here", "_law_lowers", "_law_family", "_law_row_here", "_law_column", "_law_number_here", "_law_sign", "_law_other", "_law_wanted", "_law_far", "_law_due", "_law_across", "_law_met", "_law_p", "_law_k"] ["_law_script"] (defScope s_law) := ⟨rfl, rfl, rfl, by decide +kernel, rfl, by decide +kernel, by decide +kernel⟩
/-! ### what the text's names stand for -/
structure Txt (K : PySem.W.Frag) (mg : Str → Option Value) (C : Addr) (fS fL : Addr) : Prop where
  cl : Cls K C
  abs_ : mg "abs" = none
  all_ : mg "all" = none
  enumerate_ : mg "enumerate" = none
  int_ : mg "int" = none
  isinstance_ : mg "isinstance" = none
  len_ : mg "len" = none
  list_ : mg "list" = none
  max_ : mg "max" = none
  min_ : mg "min" = none
  range_ : mg "range" = none
  repr_ : mg "repr" = none
  tuple_ : mg "tuple" = none
  zip_ : mg "zip" = none
  COLUMN : ∃ t, mg "COLUMN" = some (.int (-1) t)
  MOST_BASE : ∃ t, mg "MOST_BASE" = some (.int 97 t)
  MOST_DEGREE : ∃ t, mg "MOST_DEGREE" = some (.int 12 t)
  MOST_ORDER : ∃ t, mg "MOST_ORDER" = some (.int 1000000000000000000000000000000 t)
  MOST_PRIME : ∃ t, mg "MOST_PRIME" = some (.int 1000000 t)
  MOST_SIZE : ∃ t, mg "MOST_SIZE" = some (.int 1000000000000000 t)
  ROW : ∃ t, mg "ROW" = some (.int 0 t)
  Family : mg "Family" = some (.ref C)
  sum_of : mg "sum_of" = some (.ref fS)
  less_of : mg "less_of" = some (.ref fL)
  n_parts : NoAttr K C "parts"
  n_sizes : NoAttr K C "sizes"
  n_many : NoAttr K C "many"
  n_lowers : NoAttr K C "lowers"
  n_order : NoAttr K C "order"
/-- a def as the text has it; a method -/
def Dfn (K : PySem.W.Frag) (mg : Str → Option Value) (x : Str) (st : Stmt) (ps : List Str) : Prop := ∃ f fd, Fun K x x st f fd ∧ mg x = some (.ref f) ∧ Binds K fd ps []
def Mtd (K : PySem.W.Frag) (C : Addr) (x qual : Str) (st : Stmt) (ps : List Str) : Prop := ∃ f fd, Fun K x qual st f fd ∧ Meth K C x f ∧ Binds K fd ps []
/-- it keeps a promise -/
def Hs (P : Program) (w : World) (K : PySem.W.Frag) (mg : Str → Option Value) (base : Heap) (k : Nat) (x : Str) (ps : List Str) (sp : Sp) : Prop := ∃ f fd, FnOk P w K mg base CX0 k f fd ps sp ∧ mg x = some (.ref f) ∧ PySem.W.keepIn K (.ref f) = true ∧ Binds K fd ps []
def Hm (P : Program) (w : World) (K : PySem.W.Frag) (mg : Str → Option Value) (base : Heap) (C : Addr) (k : Nat) (m : Str) (ps : List Str) (sp : Sp) : Prop := ∃ f fd, FnOk P w K mg base CX0 k f fd ps sp ∧ Meth K C m f ∧ Binds K fd ps []
def Hf (P : Program) (w : World) (K : PySem.W.Frag) (mg : Str → Option Value) (base : Heap) (k : Nat) (f : Addr) (ps : List Str) (sp : Sp) : Prop := ∃ fd, FnOk P w K mg base CX0 k f fd ps sp ∧ PySem.W.keepIn K (.ref f) = true ∧ Binds K fd ps []
section
variable {X : Cx} {x m : Str} {p pos apos : Pos} {e o : Expr} {es : List Expr} {t : TA} {ta : TE} {k i : Nat} {ps : List Str} {sp : Sp} {v : Int} {C f : Addr}
theorem pe_gi (hm : ∃ t, X.mg x = some (.int v t)) (hg : Gl X x := by rfl) (hd : (x == ("__debug__" : Str)) = false := by decide) : PE X (.Name x pos) (tC (.int v)) := by
  obtain ⟨t, h⟩ := hm
  exact pe_glob hg h ⟨t, rfl⟩ hd
theorem pe_c (G : Hs X.prog X.w X.K X.mg X.base k x ps sp) (hr : Room k X.A) (hg : Gl X x) (ha : PA X (e :: es) t) (hdb : (x == ("__debug__" : Str)) = false := by decide) (he : starEach (e :: es) X.env = (false, eval e X.env) :: starEach es X.env := by rfl) (hpl : (backTo pos (starEach es X.env)).any (·.1) = false := by rfl) :
    PE X (.Call (.Name x p) (e :: es) [] pos) (tCall sp [] E0 t) := by
  obtain ⟨f, fd, F, hm, hk, hb⟩ := G
  exact pe_call F hr hg hm hk hb .nil pass0 ha hdb he hpl
theorem pe_cf (G : Hf X.prog X.w X.K X.mg X.base k f ps sp) (hr : Room k X.A) (hN : X.N[i]? = some x) (hv : Vis X.env.scope x) (ha : PA X (e :: es) t)
    (hdb : (x == ("__debug__" : Str)) = false := by decide) (hcd : (x == ("__classdict__" : Str)) = false := by decide)
    (he : starEach (e :: es) X.env = (false, eval e X.env) :: starEach es X.env := by rfl) (hpl : (backTo pos (starEach es X.env)).any (·.1) = false := by rfl) : PE X (.Call (.Name x p) (e :: es) [] pos) (tCallL i f sp [] E0 t) := by
  obtain ⟨fd, F, hk, hb⟩ := G
  exact pe_callL F hr hN hv hk hb .nil pass0 ha hdb hcd he hpl
theorem pe_m {pl : Sem Bool} (c : Cls X.K C) (G : Hm X.prog X.w X.K X.mg X.base C k m ps sp) (hr : Room k X.A) (ho : PE X o ta) (ha : PA X (e :: es) t)
    (he : starEach (e :: es) X.env = (false, eval e X.env) :: starEach es X.env := by rfl) (hpl : (backTo pos (starEach es X.env)).any (·.1) = false := by rfl)
    (ht : eval (.Call (.Attribute o m apos) (e :: es) [] pos) X.env = (eval o X.env >>= fun ov => standAt apos.atName >>= fun _ => holding [ov] (getMethod ov m pl) >>= fun r => callWith pos r.1 r.2 (backTo pos (starEach (e :: es) X.env)) (backToKw pos (keywordEach [] X.env))) := by rfl) :
    PE X (.Call (.Attribute o m apos) (e :: es) [] pos) (tMeth C m sp [] E0 ta t) := by
  obtain ⟨f, fd, F, hm, hb⟩ := G
  exact pe_meth ho c hm F hr hb .nil pass0 ha (hst := he) (hpl := hpl) (ht := ht)
theorem pe_k (M : PySem.W.makesIn X.K C = true ∧ PySem.W.keepIn X.K (.ref C) = true) (G : Hm X.prog X.w X.K X.mg X.base C k "__init__" ps sp) (hr : Room (k + 1) X.A) (hg : Gl X x) (hm : X.mg x = some (.ref C)) (ha : PA X (e :: es) t)
    (hdb : (x == ("__debug__" : Str)) = false := by decide) (he : starEach (e :: es) X.env = (false, eval e X.env) :: starEach es X.env := by rfl) (hpl : (backTo pos (starEach es X.env)).any (·.1) = false := by rfl) :
    PE X (.Call (.Name x p) (e :: es) [] pos) (tMake C sp [] E0 t) := by
  obtain ⟨f, fd, F, hM, hb⟩ := G
  exact pe_make ⟨M.1, hM.at_, hM.fn, M.2⟩ F hr hg hm hb .nil pass0 ha hdb he hpl
end
end Msw
set_option maxRecDepth 100000
set_option maxHeartbeats 4000000
namespace Msw
open PySem L2 Msq
/-! ### the promises -/
abbrev vints (l : List Int) : List V := l.map V.int
abbrev vrefs (l : List Addr) : List V := l.map V.ref
/-- what is handed back: a value, a new list, a new tuple; what was tracked stays -/
def RV (v : V) (H : Hp) (Q : VK) : Prop := ∀ H', Same H H' → Q v H'
def RL (xs : List V) (H : Hp) (Q : VK) : Prop := ∀ p H', Same H H' → H p = none → H' p = some (.lst xs) → Q (.ref p) H'
def RT (xs : List V) (H : Hp) (Q : VK) : Prop := ∀ p H', Same H H' → H p = none → H' p = some (.tup xs) → Q (.ref p) H'
theorem RV.up {v : V} {H H' : Hp} {Q : VK} (k : RV v H Q) (s : Same H H') : RV v H' Q := fun H2 s2 => k H2 (s.trans s2)
theorem RL.up {xs : List V} {H H' : Hp} {Q : VK} (k : RL xs H Q) (s : Same H H') : RL xs H' Q := fun p H2 s2 hp h => k p H2 (s.trans s2) (s.free hp) h
theorem RT.up {xs : List V} {H H' : Hp} {Q : VK} (k : RT xs H Q) (s : Same H H') : RT xs H' Q := fun p H2 s2 hp h => k p H2 (s.trans s2) (s.free hp) h
theorem same_new {H : Hp} {p : Addr} {o : HO} (h : H p = none) : Same H (upd H p o) := fun b u e => by rw [upd_ne (ne_of_none e h)]; exact e
theorem same_mut {H H' : Hp} {p : Addr} {o : HO} (s : Same H H') (h : H p = none) : Same H (upd H' p o) := fun b u e => by rw [upd_ne (ne_of_none e h)]; exact s b u e
theorem Same.sqt {K : PySem.W.Frag} {H H' : Hp} {a : Addr} {xs : List V} (e : Same H H') (h : SqT K H a xs) : SqT K H' a xs := by
  rcases h with (h | ⟨o, h⟩) | h
  · exact .inl (.inl (e _ _ h))
  · exact .inl (.inr ⟨o, e _ _ h⟩)
  · exact .inr h
theorem Same.sqp {K : PySem.W.Frag} {H H' : Hp} {p : Addr × Bool} {xs : List V} (e : Same H H') (h : Msz.SqP K H p xs) : Msz.SqP K H' p xs := by
  obtain ⟨a, t⟩ := p
  cases t with
  | true => exact Same.sqt e h
  | false => exact e.seq h
/-- a prime in its bounds -/
def Pb (p : Int) : Prop := 1 < p ∧ p ≤ 999983
structure POk (P : Part) : Prop where
  p1 : 1 < P.p
  p2 : P.p ≤ 999983
  k0 : 0 < P.lower.length
  k4 : P.lower.length ≤ 4
  dg : Dg P.p P.lower
  q : P.q < 1073741824
structure PsOk (Ps : List Part) : Prop where
  fld : Flds Ps
  ok : ∀ P ∈ Ps, POk P
  ne : Ps ≠ []
  len : Ps.length ≤ 8
/-- the least size -/
def minq : List Part → Int
  | [] => 0
  | P :: Ps => if Ps = [] then P.q else if P.q ≤ minq Ps then P.q else minq Ps
def manyP (Ps : List Part) : Int := minq Ps - 1
theorem minq_le : ∀ {Ps : List Part} {P : Part}, P ∈ Ps → minq Ps ≤ P.q
  | [], _, h => by simp at h
  | P :: Ps, Q, h => by
    simp only [minq]
    by_cases e : Ps = []
    · subst e
      have : Q = P := by simpa using h
      rw [if_pos rfl, this]
      exact Int.le_refl _
    · rw [if_neg e]
      rcases List.mem_cons.mp h with rfl | h
      · split <;> omega
      · have := minq_le h
        split <;> omega
theorem minq_mem : ∀ {Ps : List Part}, Ps ≠ [] → ∃ P ∈ Ps, minq Ps = P.q
  | [], h => absurd rfl h
  | P :: Ps, _ => by
    simp only [minq]
    by_cases e : Ps = []
    · rw [if_pos e]
      exact ⟨P, by simp, rfl⟩
    · rw [if_neg e]
      split
      · exact ⟨P, by simp, rfl⟩
      · obtain ⟨Q, h1, h2⟩ := minq_mem e
        exact ⟨Q, by simp [h1], h2⟩
theorem minq_is {Ps : List Part} {m : Int} (h1 : m ∈ Ps.map (·.q)) (h2 : ∀ y, y ∈ Ps.map (·.q) → m ≤ y) : m = minq Ps := by
  obtain ⟨P, hP, rfl⟩ := List.mem_map.mp h1
  have a := minq_le hP
  obtain ⟨Q, hQ, e⟩ := minq_mem (Ps := Ps) (by intro e; rw [e] at hP; simp at hP)
  have b := h2 Q.q (List.mem_map.mpr ⟨Q, hQ, rfl⟩)
  omega
/-- a kind -/
def Kn (Ps : List Part) (j : Int) : Prop := -1 ≤ j ∧ j ≤ manyP Ps
theorem Kn.kd {Ps : List Part} {j : Int} (h : Kn Ps j) (h0 : j ≠ -1) : Kd Ps j := ⟨by have := h.1; omega, fun P hP => by
  have := minq_le hP
  have := h.2
  simp only [manyP] at this
  omega⟩
theorem PsOk.many1 {Ps : List Part} (h : PsOk Ps) : 1 ≤ manyP Ps := by
  obtain ⟨Q, hQ, e⟩ := minq_mem h.ne
  have := (h.fld Q hQ).q2
  simp only [manyP]
  omega
/-! #### the fields of the table -/
theorem tab_all {e : Ent} (h : e ∈ tab) : e.size = true ∧ e.facs = true ∧ e.found = true ∧ e.gen = true :=
  ⟨List.all_eq_true.mp tab_size e h, List.all_eq_true.mp tab_facs e h, List.all_eq_true.mp tab_found e h, List.all_eq_true.mp tab_gen e h⟩
structure EntOk (e : Ent) : Prop where
  p1 : 1 < e.p
  k0 : 0 < e.k
  k4 : e.k ≤ 4
  p2 : e.p ≤ 999983
  kp : e.k = 1 ∨ e.p ≤ 97
  tr : trial e.p 1001 2 = true
  n : e.n < 100
theorem ent_ok {e : Ent} (h : e ∈ tab) : EntOk e := by
  have hs := (tab_all h).1
  simp only [Ent.size, Bool.and_eq_true, Bool.or_eq_true, decide_eq_true_eq] at hs
  obtain ⟨⟨⟨⟨⟨⟨h1, h2⟩, h3⟩, h4⟩, h5⟩, h6⟩, h7⟩ := hs
  exact ⟨h1, h2, h3, h4, h5, h6, h7⟩
theorem ent_fld {e : Ent} (h : e ∈ tab) : Fld e.P := Ent.fld (tab_all h).1 (tab_all h).2.1 (tab_all h).2.2.2
theorem ent_len (e : Ent) : e.P.lower.length = e.k := figs_len _ _ _
theorem ent_q (e : Ent) : e.P.q = (e.p : Int) ^ e.k := by simp only [Part.q, ent_len]; rfl
theorem pow_le4 {p : Nat} (h : p ≤ 97) {k : Nat} (hk : k ≤ 4) : p ^ k ≤ 88529281 := by
  have h1 : p ^ k ≤ 97 ^ k := Nat.pow_le_pow_left h k
  have h2 : 97 ^ k ≤ 97 ^ 4 := Nat.pow_le_pow_right (by decide) hk
  have h3 : (97 : Nat) ^ 4 = 88529281 := by decide
  omega
theorem ent_small {e : Ent} (h : e ∈ tab) : e.p ^ e.k ≤ 88529281 := by
  have o := ent_ok h
  rcases o.kp with hk | hp
  · rw [hk, Nat.pow_one]
    have := o.p2
    omega
  · exact pow_le4 hp o.k4
theorem ent_pok {e : Ent} (h : e ∈ tab) : POk e.P := by
  have o := ent_ok h
  have l := ent_len e
  have hp : e.P.p = (e.p : Int) := rfl
  refine ⟨by rw [hp]; have := o.p1; omega, by rw [hp]; have := o.p2; omega, by rw [l]; exact o.k0, by rw [l]; exact o.k4, figs_dg (by have := o.p1; omega) _ _, ?_⟩
  rw [ent_q]
  have := ent_small h
  rw [← Int.natCast_pow]
  omega
/-- the parts' numbers -/
abbrev prt (es : List Ent) : List Part := es.map Ent.P
structure EsOk (es : List Ent) : Prop where
  ne : es ≠ []
  tab : ∀ e ∈ es, e ∈ tab
  nd : (es.map (·.p)).Nodup
  len : es.length ≤ 8
theorem EsOk.ps {es : List Ent} (h : EsOk es) : PsOk (prt es) := by
  refine ⟨fun P hP => ?_, fun P hP => ?_, by simpa using h.ne, by simpa using h.len⟩
  · obtain ⟨e, he, rfl⟩ := List.mem_map.mp hP
    exact ent_fld (h.tab e he)
  · obtain ⟨e, he, rfl⟩ := List.mem_map.mp hP
    exact ent_pok (h.tab e he)
/-- tuples of a prime and a degree -/
def Tups (H : Hp) (ts : List Addr) (es : List Ent) : Prop := ts.length = es.length ∧ ∀ (i : Nat) (t : Addr) (e : Ent), ts[i]? = some t → es[i]? = some e → H t = some (.tup [.int e.p, .int e.k])
theorem Tups.up {H H' : Hp} {ts : List Addr} {es : List Ent} (h : Tups H ts es) (s : Same H H') : Tups H' ts es := ⟨h.1, fun i t e a b => s _ _ (h.2 i t e a b)⟩
/-- a family: its sizes alone; the whole -/
def SzAt (C : Addr) (H : Hp) (x : Addr) (Ps : List Part) : Prop := ∃ dx fs a, H x = some (.ins C dx fs) ∧ fs.lookup ("sizes" : Str) = some (.ref a) ∧ H a = some (.tup (vints (Ps.map (·.q))))
def TupP (H : Hp) (ts : List Addr) (Ps : List Part) : Prop := ts.length = Ps.length ∧ ∀ (i : Nat) (t : Addr) (P : Part), ts[i]? = some t → Ps[i]? = some P → H t = some (.tup [.int P.p, .int (P.lower.length : Nat)])
def TupW (H : Hp) (ts : List Addr) (Ps : List Part) : Prop := ts.length = Ps.length ∧ ∀ (i : Nat) (t : Addr) (P : Part), ts[i]? = some t → Ps[i]? = some P → H t = some (.tup (vints P.lower))
def flds (aP aS aL : Addr) (m o : Int) : List (Str × V) := [("parts", .ref aP), ("sizes", .ref aS), ("many", .int m), ("lowers", .ref aL), ("order", .int o)]
structure FamAt (C : Addr) (H : Hp) (x : Addr) (Ps : List Part) : Prop where
  ex : ∃ dx aP aS aL tP tL, H x = some (.ins C dx (flds aP aS aL (manyP Ps) (ordP Ps))) ∧ H aP = some (.tup (vrefs tP)) ∧ TupP H tP Ps ∧ H aS = some (.tup (vints (Ps.map (·.q)))) ∧ H aL = some (.tup (vrefs tL)) ∧ TupW H tL Ps
theorem FamAt.up {C : Addr} {H H' : Hp} {x : Addr} {Ps : List Part} (h : FamAt C H x Ps) (s : Same H H') : FamAt C H' x Ps := by
  obtain ⟨dx, aP, aS, aL, tP, tL, h1, h2, h3, h4, h5, h6⟩ := h.ex
  exact ⟨dx, aP, aS, aL, tP, tL, s _ _ h1, s _ _ h2, ⟨h3.1, fun i t P a b => s _ _ (h3.2 i t P a b)⟩, s _ _ h4, s _ _ h5, ⟨h6.1, fun i t P a b => s _ _ (h6.2 i t P a b)⟩⟩
theorem lk_parts (aP aS aL : Addr) (m o : Int) : (flds aP aS aL m o).lookup ("parts" : Str) = some (.ref aP) := rfl
theorem lk_sizes (aP aS aL : Addr) (m o : Int) : (flds aP aS aL m o).lookup ("sizes" : Str) = some (.ref aS) := by
  have h : (("sizes" : Str) == ("parts" : Str)) = false := by decide +kernel
  simp [flds, List.lookup, h]
theorem lk_many (aP aS aL : Addr) (m o : Int) : (flds aP aS aL m o).lookup ("many" : Str) = some (.int m) := by
  have h1 : (("many" : Str) == ("parts" : Str)) = false := by decide +kernel
  have h2 : (("many" : Str) == ("sizes" : Str)) = false := by decide +kernel
  simp [flds, List.lookup, h1, h2]
theorem lk_lowers (aP aS aL : Addr) (m o : Int) : (flds aP aS aL m o).lookup ("lowers" : Str) = some (.ref aL) := by
  have h1 : (("lowers" : Str) == ("parts" : Str)) = false := by decide +kernel
  have h2 : (("lowers" : Str) == ("sizes" : Str)) = false := by decide +kernel
  have h3 : (("lowers" : Str) == ("many" : Str)) = false := by decide +kernel
  simp [flds, List.lookup, h1, h2, h3]
theorem lk_order (aP aS aL : Addr) (m o : Int) : (flds aP aS aL m o).lookup ("order" : Str) = some (.int o) := by
  have h1 : (("order" : Str) == ("parts" : Str)) = false := by decide +kernel
  have h2 : (("order" : Str) == ("sizes" : Str)) = false := by decide +kernel
  have h3 : (("order" : Str) == ("many" : Str)) = false := by decide +kernel
  have h4 : (("order" : Str) == ("lowers" : Str)) = false := by decide +kernel
  simp [flds, List.lookup, h1, h2, h3, h4]
theorem lk_no (aP aS aL : Addr) (m o : Int) {f : Str} (h1 : (f == ("parts" : Str)) = false) (h2 : (f == ("sizes" : Str)) = false) (h3 : (f == ("many" : Str)) = false) (h4 : (f == ("lowers" : Str)) = false) (h5 : (f == ("order" : Str)) = false) : (flds aP aS aL m o).lookup f = none := by
  simp [flds, List.lookup, h1, h2, h3, h4, h5]
theorem FamAt.sz {C : Addr} {H : Hp} {x : Addr} {Ps : List Part} (h : FamAt C H x Ps) : SzAt C H x Ps := by
  obtain ⟨dx, aP, aS, aL, tP, tL, h1, h2, h3, h4, h5, h6⟩ := h.ex
  exact ⟨dx, _, aS, h1, lk_sizes _ _ _ _ _, h4⟩
/-! #### fields.py -/
def sp_is_prime : Sp := fun vs H Q _ => ∃ n : Nat, vs = [.int n] ∧ (2 ≤ n ∧ n ≤ 999983) ∧ trial n 1001 2 = true ∧ RV (.bl true) H Q
def sp_size_of : Sp := fun vs H Q _ => ∃ (p : Int) (k : Nat), vs = [.int p, .int k] ∧ (0 ≤ p ∧ p ≤ 999983) ∧ k ≤ 12 ∧ RV (.int (p ^ k)) H Q
def sp_is_field : Sp := fun vs H Q _ => ∃ e : Ent, vs = [.int e.p, .int e.k] ∧ e ∈ tab ∧ RV (.bl true) H Q
def sp_check_field : Sp := fun vs H Q _ => ∃ e : Ent, vs = [.int e.p, .int e.k] ∧ e ∈ tab ∧ RV .non H Q
def sp_figures_of : Sp := fun vs H Q _ => ∃ (p : Int) (k : Nat) (n : Int), vs = [.int p, .int k, .int n] ∧ (0 < p ∧ p ≤ 999983) ∧ k ≤ 12 ∧ RL (vints (figs p k n)) H Q
def sp_number_of (K : PySem.W.Frag) : Sp := fun vs H Q _ => ∃ (p : Int) (a : Addr) (l : List Int), vs = [.int p, .ref a] ∧ (0 < p ∧ p ≤ 999983) ∧ SqL K H a (vints l) ∧ l.length ≤ 100 ∧ RV (.int (num p l)) H Q
def sp_remainder (K : PySem.W.Frag) : Sp := fun vs H Q _ => ∃ (p : Int) (lo : Addr × Bool) (lw : List Int) (a : Addr) (fg : List Int), vs = [.int p, .ref lo.1, .ref a] ∧ (0 < p ∧ p ≤ 999983) ∧ Msz.SqP K H lo (vints lw) ∧ Dg p lw ∧ SqL K H a (vints fg) ∧ lw.length ≤ 100 ∧ fg.length ≤ 100 ∧ RL (vints (rema p lw fg)) H Q
def sp_multiplied (K : PySem.W.Frag) : Sp := fun vs H Q _ => ∃ (p : Int) (a : Addr) (one : List Int) (b : Addr) (other : List Int), vs = [.int p, .ref a, .ref b] ∧ (0 < p ∧ p ≤ 999983) ∧ SqL K H a (vints one) ∧ SqL K H b (vints other) ∧ Dg p one ∧ one.length ≤ 50 ∧ other.length ≤ 50 ∧ RL (vints (mult p one other)) H Q
def sp_raised (K : PySem.W.Frag) : Sp := fun vs H Q _ => ∃ (p : Int) (lo : Addr × Bool) (lw : List Int) (a : Addr) (fg : List Int) (n : Nat), vs = [.int p, .ref lo.1, .ref a, .int n] ∧ Pb p ∧ Msz.SqP K H lo (vints lw) ∧ Dg p lw ∧ SqL K H a (vints fg) ∧ Dg p fg ∧ lw.length ≤ 50 ∧ fg.length ≤ 50 ∧ RL (vints (raised p lw fg n)) H Q
def sp_trimmed (K : PySem.W.Frag) : Sp := fun vs H Q _ => ∃ (a : Addr) (l : List Int), vs = [.ref a] ∧ SqL K H a (vints l) ∧ l.length ≤ 100 ∧ RL (vints (trim l)) H Q
def sp_have_common (K : PySem.W.Frag) : Sp := fun vs H Q _ => ∃ (p : Int) (a : Addr) (one : List Int) (b : Addr) (other : List Int), vs = [.int p, .ref a, .ref b] ∧ Pb p ∧ SqL K H a (vints one) ∧ SqL K H b (vints other) ∧ Dg p one ∧ Dg p other ∧ one.length ≤ 50 ∧ other.length ≤ 50 ∧ RV (.bl (hc p one other)) H Q
def sp_turned_round : Sp := fun vs H Q _ => ∃ (p n : Int), vs = [.int p, .int n] ∧ Pb p ∧ (0 ≤ n ∧ n < p) ∧ RV (.int (turned p n)) H Q
def sp_is_irreducible (K : PySem.W.Frag) : Sp := fun vs H Q _ => ∃ (p : Int) (a : Addr) (lw : List Int), vs = [.int p, .ref a] ∧ Pb p ∧ SqL K H a (vints lw) ∧ Dg p lw ∧ (1 ≤ lw.length ∧ lw.length ≤ 12) ∧ RV (.bl (isIrr p lw)) H Q
def sp_lower_of : Sp := fun vs H Q _ => ∃ e : Ent, vs = [.int e.p, .int e.k] ∧ e ∈ tab ∧ RT (vints e.P.lower) H Q
def sp_tog (t : Part → Int → Int → Int) : Sp := fun vs H Q _ => ∃ (P : Part) (a b : Int), vs = [.int P.p, .int a, .int b] ∧ POk P ∧ El P a ∧ El P b ∧ RV (.int (t P a b)) H Q
def sp_product_of (K : PySem.W.Frag) : Sp := fun vs H Q _ => ∃ (P : Part) (b : Addr) (a c : Int), vs = [.int P.p, .ref b, .int a, .int c] ∧ POk P ∧ SqT K H b (vints P.lower) ∧ RV (.int (fmul P a c)) H Q
def sp_power_of (K : PySem.W.Frag) : Sp := fun vs H Q _ => ∃ (P : Part) (b : Addr) (a : Int) (n : Nat), vs = [.int P.p, .ref b, .int a, .int n] ∧ POk P ∧ SqT K H b (vints P.lower) ∧ RV (.int (fpow P a n)) H Q
def sp_inverse_of (K : PySem.W.Frag) : Sp := fun vs H Q _ => ∃ (P : Part) (b : Addr) (a : Int), vs = [.int P.p, .ref b, .int a] ∧ POk P ∧ SqT K H b (vints P.lower) ∧ RV (.int (finv P a)) H Q
def sp_polynomial : Sp := sp_lower_of
/-! #### families.py -/
def sp_is_prime_power : Sp := fun vs H Q _ => ∃ (t : Addr) (e : Ent), vs = [.ref t] ∧ e ∈ tab ∧ H t = some (.tup [.int e.p, .int e.k]) ∧ RV (.bl true) H Q
def sp_checked_parts : Sp := fun vs H Q _ => ∃ (a : Addr) (ts : List Addr) (es : List Ent), vs = [.ref a] ∧ H a = some (.lst (vrefs ts)) ∧ Tups H ts es ∧ EsOk es ∧ ordP (prt es) ≤ 10 ^ 30 ∧ RT (vrefs ts) H Q
def sp_F_init (C : Addr) : Sp := fun vs H Q _ => ∃ (x dx a : Addr) (ts : List Addr) (es : List Ent), vs = [.ref x, .ref a] ∧ H x = some (.ins C dx []) ∧ H a = some (.lst (vrefs ts)) ∧ Tups H ts es ∧ EsOk es ∧ ordP (prt es) ≤ 10 ^ 30 ∧
  ∀ H', FamAt C H' x (prt es) → (∀ b o, H b = some o → b ≠ x → H' b = some o) → Q .non H'
def sp_F_split (C : Addr) : Sp := fun vs H Q _ => ∃ (x : Addr) (Ps : List Part) (n : Int), vs = [.ref x, .int n] ∧ SzAt C H x Ps ∧ PsOk Ps ∧ RL (vints (splitP Ps n)) H Q
def sp_F_joined (K : PySem.W.Frag) (C : Addr) : Sp := fun vs H Q _ => ∃ (x : Addr) (Ps : List Part) (a : Addr) (ds : List Int), vs = [.ref x, .ref a] ∧ SzAt C H x Ps ∧ PsOk Ps ∧ SqL K H a (vints ds) ∧ ds.length = Ps.length ∧ RV (.int (joinP Ps ds)) H Q
def sp_F_check_kind (C : Addr) : Sp := fun vs H Q _ => ∃ (x : Addr) (Ps : List Part) (j : Int), vs = [.ref x, .int j] ∧ FamAt C H x Ps ∧ Kn Ps j ∧ RV .non H Q
def sp_F_check_point (C : Addr) : Sp := fun vs H Q _ => ∃ (x : Addr) (Ps : List Part) (n : Int), vs = [.ref x, .int n] ∧ FamAt C H x Ps ∧ Pt Ps n ∧ RV .non H Q
def sp_F_check_square (C : Addr) : Sp := fun vs H Q _ => ∃ (x : Addr) (Ps : List Part) (j : Int), vs = [.ref x, .int j] ∧ FamAt C H x Ps ∧ (1 ≤ j ∧ j ≤ manyP Ps) ∧ RV .non H Q
def sp_F_cell (K : PySem.W.Frag) (C : Addr) : Sp := fun vs H Q _ => ∃ (x : Addr) (Ps : List Part) (a b : Addr) (i j r c : Int), vs = [.ref x, .ref a, .ref b] ∧ FamAt C H x Ps ∧ PsOk Ps ∧ SqT K H a [.int i, .int (hasP Ps i r c)] ∧ SqT K H b [.int j, .int (hasP Ps j r c)] ∧ Kn Ps i ∧ Kn Ps j ∧ i ≠ j ∧ Pt Ps r ∧ Pt Ps c ∧ RT [.int r, .int c] H Q
def sp_F_combined (C fS fL : Addr) : Sp := fun vs H Q _ => ∃ (x : Addr) (Ps : List Part) (n m j : Int) (f : Addr) (t : Part → Int → Int → Int), vs = [.ref x, .int n, .int m, .int j, .ref f] ∧ FamAt C H x Ps ∧ PsOk Ps ∧ ((f = fS ∧ t = fsum) ∨ (f = fL ∧ t = fsub)) ∧
  RV (.int (joinP Ps (cmb t j Ps (splitP Ps n) (splitP Ps m)))) H Q
def sp_F_divided (C : Addr) : Sp := fun vs H Q _ => ∃ (x : Addr) (Ps : List Part) (n i j : Int), vs = [.ref x, .int n, .int i, .int j] ∧ FamAt C H x Ps ∧ PsOk Ps ∧ Kd Ps i ∧ Kd Ps j ∧ RV (.int (joinP Ps (dvd i j Ps (splitP Ps n)))) H Q
def sp_F_at_cell (C : Addr) : Sp := fun vs H Q _ => ∃ (x : Addr) (Ps : List Part) (r c j : Int), vs = [.ref x, .int r, .int c, .int j] ∧ FamAt C H x Ps ∧ PsOk Ps ∧ Kn Ps j ∧ RV (.int (hasP Ps j r c)) H Q
def sp_F_told (K : PySem.W.Frag) (C : Addr) : Sp := fun vs H Q _ => ∃ (x : Addr) (Ps : List Part) (a b : Addr) (i j r c g : Int), vs = [.ref x, .ref a, .ref b, .int g] ∧ FamAt C H x Ps ∧ PsOk Ps ∧ SqT K H a [.int i, .int (hasP Ps i r c)] ∧ SqT K H b [.int j, .int (hasP Ps j r c)] ∧ Kn Ps i ∧ Kn Ps j ∧ i ≠ j ∧ Pt Ps r ∧ Pt Ps c ∧ Kn Ps g ∧ RV (.int (hasP Ps g r c)) H Q
def sp_F_sign (C : Addr) : Sp := fun vs H Q _ => ∃ (x : Addr) (Ps : List Part) (j r c : Int), vs = [.ref x, .int j, .int r, .int c] ∧ FamAt C H x Ps ∧ PsOk Ps ∧ (1 ≤ j ∧ j ≤ manyP Ps) ∧ Pt Ps r ∧ Pt Ps c ∧ RV (.int (hasP Ps j r c)) H Q
def sp_F_row_for (C : Addr) : Sp := fun vs H Q _ => ∃ (x : Addr) (Ps : List Part) (j r c : Int), vs = [.ref x, .int j, .int c, .int (hasP Ps j r c)] ∧ FamAt C H x Ps ∧ PsOk Ps ∧ (1 ≤ j ∧ j ≤ manyP Ps) ∧ Pt Ps r ∧ Pt Ps c ∧ RV (.int r) H Q
def sp_F_column_for (C : Addr) : Sp := fun vs H Q _ => ∃ (x : Addr) (Ps : List Part) (j r c : Int), vs = [.ref x, .int j, .int r, .int (hasP Ps j r c)] ∧ FamAt C H x Ps ∧ PsOk Ps ∧ (1 ≤ j ∧ j ≤ manyP Ps) ∧ Pt Ps r ∧ Pt Ps c ∧ RV (.int c) H Q
def sp_F_word (K : PySem.W.Frag) (C : Addr) : Sp := fun vs H Q _ => ∃ (x : Addr) (Ps : List Part) (r c : Int) (a : Addr) (js : List Int), vs = [.ref x, .int r, .int c, .ref a] ∧ FamAt C H x Ps ∧ PsOk Ps ∧ Pt Ps r ∧ Pt Ps c ∧ SqL K H a (vints js) ∧ (∀ j ∈ js, Kn Ps j) ∧ js.length ≤ 100 ∧ RT (vints (js.map fun j => hasP Ps j r c)) H Q
/-! #### meetings.py -/
def sp_kind_of (K : PySem.W.Frag) (C : Addr) : Sp := fun vs H Q _ => ∃ (x : Addr) (Ps : List Part) (a b : Addr) (cs : List Int) (j : Int), vs = [.ref x, .ref a, .ref b] ∧ FamAt C H x Ps ∧ PsOk Ps ∧ SqL K H a (vints (tms j Ps cs)) ∧ SqL K H b (vints cs) ∧ Els Ps cs ∧ (∃ y ∈ cs, y ≠ 0) ∧ (0 ≤ j ∧ j ≤ manyP Ps) ∧ RV (.int j) H Q
def sp_apart_of (C : Addr) : Sp := fun vs H Q _ => ∃ (x : Addr) (Ps : List Part) (n m : Int), vs = [.ref x, .int n, .int m] ∧ FamAt C H x Ps ∧ PsOk Ps ∧ RL (vints (subs Ps (splitP Ps n) (splitP Ps m))) H Q
def sp_agreement (K : PySem.W.Frag) (C : Addr) : Sp := fun vs H Q _ => ∃ (x : Addr) (Ps : List Part) (a b : Addr) (r c s d j : Int), vs = [.ref x, .ref a, .ref b] ∧ FamAt C H x Ps ∧ PsOk Ps ∧ SqT K H a [.int r, .int c] ∧ SqT K H b [.int s, .int d] ∧ (Pt Ps r ∧ Pt Ps c ∧ Pt Ps s ∧ Pt Ps d) ∧
  ((c = d ∧ r ≠ s ∧ j = -1) ∨ (c ≠ d ∧ (0 ≤ j ∧ j ≤ manyP Ps) ∧ hasP Ps j r c = hasP Ps j s d)) ∧ RV (.int j) H Q
def sp_square_with (C : Addr) : Sp := fun vs H Q _ => ∃ (x : Addr) (Ps : List Part) (r c j : Int), vs = [.ref x, .int r, .int c, .int (hasP Ps j r c)] ∧ FamAt C H x Ps ∧ PsOk Ps ∧ Pt Ps r ∧ Pt Ps c ∧ c ≠ 0 ∧ (1 ≤ j ∧ j ≤ manyP Ps) ∧ RV (.int j) H Q
/-! #### the law -/
/-- drawn numbers -/
def Drn (ns : List Int) : Prop := ∀ n ∈ ns, 0 ≤ n ∧ n < 1009
def sp__law_row : Sp := fun vs H Q _ => ∃ (c : Int) (m : Nat), vs = [.int c, .int m] ∧ m ≤ 100 ∧ ∀ ns : List Int, ns.length = m → Drn ns → RL (vints ns) H Q
def sp__law_numbers (K : PySem.W.Frag) : Sp := fun vs H Q _ => ∃ (a : Addr) (cs : List Int), vs = [.ref a, .int 90] ∧ SqL K H a (vints cs) ∧ cs.length ≤ 63 ∧ ∀ ns : List Int, ns.length = 90 → Drn ns → RL (vints ns) H Q
def sp__law_figures : Sp := sp_figures_of
def sp__law_number (K : PySem.W.Frag) : Sp := sp_number_of K
def sp__law_times (K : PySem.W.Frag) : Sp := sp_product_of K
def sp__law_plus : Sp := fun vs H Q _ => ∃ (P : Part) (a b : Int), vs = [.int P.p, .int (P.lower.length : Nat), .int a, .int b] ∧ POk P ∧ RV (.int (fsum P a b)) H Q
def sp__law_size : Sp := sp_size_of
def sp__law_order (K : PySem.W.Frag) : Sp := fun vs H Q _ => ∃ (a : Addr) (ts : List Addr) (es : List Ent), vs = [.ref a] ∧ SqL K H a (vrefs ts) ∧ Tups H ts es ∧ EsOk es ∧ RV (.int (ordP (prt es))) H Q
def sp__law_many (K : PySem.W.Frag) : Sp := fun vs H Q _ => ∃ (a : Addr) (ts : List Addr) (es : List Ent), vs = [.ref a] ∧ SqL K H a (vrefs ts) ∧ Tups H ts es ∧ EsOk es ∧ RV (.int (manyP (prt es))) H Q
def sp__law_split (K : PySem.W.Frag) : Sp := fun vs H Q _ => ∃ (a : Addr) (ts : List Addr) (es : List Ent) (n : Int), vs = [.ref a, .int n] ∧ SqL K H a (vrefs ts) ∧ Tups H ts es ∧ EsOk es ∧ RL (vints (splitP (prt es) n)) H Q
def sp__law_joined (K : PySem.W.Frag) : Sp := fun vs H Q _ => ∃ (a : Addr) (ts : List Addr) (es : List Ent) (b : Addr) (ds : List Int), vs = [.ref a, .ref b] ∧ SqL K H a (vrefs ts) ∧ Tups H ts es ∧ EsOk es ∧ SqL K H b (vints ds) ∧ ds.length = es.length ∧ RV (.int (joinP (prt es) ds)) H Q
def sp__law_has (K : PySem.W.Frag) : Sp := fun vs H Q _ => ∃ (a : Addr) (ts : List Addr) (es : List Ent) (b : Addr) (tl : List Addr) (j r c : Int), vs = [.ref a, .ref b, .int j, .int r, .int c] ∧ SqL K H a (vrefs ts) ∧ Tups H ts es ∧ EsOk es ∧ SqL K H b (vrefs tl) ∧ TupW H tl (prt es) ∧ RV (.int (hasP (prt es) j r c)) H Q
def sp__law_great (K : PySem.W.Frag) : Sp := fun vs H Q _ => ∃ (a : Addr) (ns : List Int), vs = [.ref a, .int 0] ∧ SqL K H a (vints ns) ∧ ns.length = 90 ∧ Drn ns ∧ ∀ (es : List Ent) (ts : List Addr) (p : Addr) (H' : Hp), EsOk es → Same H H' → H' p = some (.lst (vrefs ts)) → Tups H' ts es → Q (.ref p) H'
def sp__law_long (K : PySem.W.Frag) : Sp := fun vs H Q _ => ∃ (a : Addr) (ns : List Int) (i : Nat), vs = [.ref a, .int i] ∧ SqL K H a (vints ns) ∧ ns.length = 90 ∧ Drn ns ∧ i + 10 ≤ 90 ∧ ∀ m : Int, 0 ≤ m → RV (.int m) H Q
def sp_law (K : PySem.W.Frag) : Sp := fun vs H Q _ => ∃ (a : Addr) (ns : List Int), vs = [.ref a] ∧ SqL K H a (vints ns) ∧ ns.length ≤ 63 ∧ ∀ H', Q (.bl true) H'
end Msw
set_option maxRecDepth 100000
set_option maxHeartbeats 4000000
namespace Msw
open PySem L2 Msq
section
variable {P : Program} {w : World} {K : PySem.W.Frag} {mg : Str → Option Value} {base : Heap} {C fS fL : Addr}
/-! ### small helps -/
theorem wl {c : TT} {tb : TS} {D : Ends} {σ : L2.St} {H : Hp} (W : Nat → L2.St → Hp → Prop) (m : Nat) (h0 : W m σ H)
    (hs : ∀ m σ H, W m σ H → c σ H fun b H1 => if b = true then ∃ N : L2.St → Hp → Prop, (∀ σ' H', N σ' H' → ∃ m', m' < m ∧ W m' σ' H') ∧ tb { D with nx := N, ct := N, bk := D.nx } σ H1 else D.nx σ H1) : tWhile c tb D σ H := ⟨W, ⟨m, h0⟩, hs⟩
theorem mul_ok {a b : Int} (h0 : 0 ≤ b) (h1 : b ≤ 1000000) : CMul a b := .inr ⟨by omega, by omega⟩
theorem mul_okL {a b : Int} (h0 : 0 ≤ a) (h1 : a ≤ 1000000) : CMul a b := .inl ⟨by omega, by omega⟩
theorem div_ok {a b : Int} (h0 : 0 < b) (h1 : b ≤ 1000000) : CDiv a b := ⟨h0, by omega⟩
theorem vints_snoc (l : List Int) (x : Int) : vints (l ++ [x]) = vints l ++ [V.int x] := by simp [vints]
theorem vints_len (l : List Int) : (vints l).length = l.length := by simp [vints]
theorem vints_get {l : List Int} {i : Nat} (h : i < l.length) : (vints l)[i]? = some (V.int (l.getD i 0)) := by
  rw [List.getElem?_map, List.getElem?_eq_getElem h, List.getD_eq_getElem?_getD, List.getElem?_eq_getElem h]
  rfl
theorem vints_get' {l : List Int} {i : Nat} {x : V} (h : (vints l)[i]? = some x) : i < l.length ∧ x = V.int (l.getD i 0) := by
  have hi : i < l.length := by have := (List.getElem?_eq_some_iff.mp h).1; simpa [vints] using this
  rw [vints_get hi] at h
  exact ⟨hi, (Option.some.inj h).symm⟩
theorem vints_set (l : List Int) (i : Nat) (x : Int) : (vints l).set i (V.int x) = vints (l.set i x) := by simp [vints, List.map_set]
theorem at_v {l : List Int} {z : Int} {j : Nat} (e : z = (j : Int)) (h : j < l.length) : atI (vints l) z = some (V.int (l.getD j 0)) := at_of e (vints_get h)
theorem ix_v {n : Nat} {z : Int} {j : Nat} (e : z = (j : Int)) (h : j < n) : ixN n z = some j := by
  subst e
  unfold ixN
  rw [if_pos (by omega), if_pos (by omega)]
  simp
theorem rep_flat (n : Nat) (v : V) : (List.replicate n [v]).flatten = List.replicate n v := by
  induction n with
  | zero => rfl
  | succ n ih => simp [List.replicate_succ, ih]
theorem vints_rep (n : Nat) : List.replicate n (V.int 0) = vints (List.replicate n 0) := by simp [vints]
theorem cut_to (xs : List V) (k : Nat) : cutV xs none (some (k : Int)) = xs.take k := by
  unfold cutV
  rw [HT.sIx_none, HT.sIx_nat, List.drop_zero, Nat.sub_zero]
  by_cases h : k ≤ xs.length
  · rw [Nat.min_eq_left h]
  · rw [Nat.min_eq_right (by omega), List.take_length, List.take_of_length_le (by omega)]
theorem cut_from (xs : List V) (k : Nat) : cutV xs (some (k : Int)) none = xs.drop k := by
  unfold cutV
  rw [HT.sIx_none, HT.sIx_nat]
  by_cases h : k ≤ xs.length
  · rw [Nat.min_eq_left h, List.take_of_length_le (by simp)]
  · rw [Nat.min_eq_right (by omega), List.drop_length, List.drop_eq_nil_of_le (by omega)]
    simp
theorem cut_last (xs : List V) : cutV xs none (some (-1)) = xs.dropLast := by
  unfold cutV
  have e : HT.sIx xs.length xs.length (some (-1)) = xs.length - 1 := by
    show (if (-1 : Int) < 0 then ((-1 : Int) + (xs.length : Int)).toNat else min ((-1 : Int)).toNat xs.length) = xs.length - 1
    rw [if_pos (by decide)]
    omega
  rw [HT.sIx_none, e, List.drop_zero, Nat.sub_zero, List.dropLast_eq_take]
theorem vints_take (l : List Int) (k : Nat) : (vints l).take k = vints (l.take k) := by simp [vints, List.map_take]
theorem vints_drop (l : List Int) (k : Nat) : (vints l).drop k = vints (l.drop k) := by simp [vints, List.map_drop]
theorem sqp_or {H : Hp} {p : Addr × Bool} {xs : List V} (h : Msz.SqP K H p xs) : SqL K H p.1 xs ∨ SqT K H p.1 xs := by
  obtain ⟨a, t⟩ := p
  cases t with
  | true => exact .inr h
  | false => exact .inl h
theorem sz_of {n : Nat} (h : n ≤ 50000) : n ≤ sizeLine := Nat.le_trans h (by decide)
theorem sz_lt {n : Nat} (h : n < 50000) : n < sizeLine := Nat.lt_of_lt_of_le h (by decide)
theorem dg_get {p : Int} {l : List Int} (h : Dg p l) {i : Nat} (hi : i < l.length) : 0 ≤ l.getD i 0 ∧ l.getD i 0 < p := by
  rw [List.getD_eq_getElem?_getD, List.getElem?_eq_getElem hi]
  exact h _ (List.getElem_mem hi)
theorem updRow_nil (p c : Int) (r : List Int) : updRow p c [] r = r := by cases r <;> rfl
theorem updRow_take (p c : Int) : ∀ (l r : List Int) (j : Nat), j < l.length → l.length ≤ r.length →
    (updRow p c (l.take j) r).set j (((updRow p c (l.take j) r).getD j 0 + c * l.getD j 0) % p) = updRow p c (l.take (j + 1)) r
  | [], _, _, h, _ => by simp at h
  | _ :: _, [], _, _, h => by simp at h
  | a :: l, b :: r, 0, _, _ => by simp [updRow, updRow_nil]
  | a :: l, b :: r, j + 1, h1, h2 => by
    have ih := updRow_take p c l r j (by simpa using h1) (by simpa using h2)
    simp only [List.take_succ_cons, updRow, List.set_cons_succ, List.getD_cons_succ]
    rw [ih]
theorem updAt_take (p c : Int) : ∀ (m : Nat) (l r : List Int) (j : Nat), j < l.length → m + l.length ≤ r.length →
    (updAt p c (l.take j) m r).set (m + j) (((updAt p c (l.take j) m r).getD (m + j) 0 + c * l.getD j 0) % p) = updAt p c (l.take (j + 1)) m r
  | 0, l, r, j, h1, h2 => by
    simp only [updAt, Nat.zero_add]
    exact updRow_take p c l r j h1 (by omega)
  | m + 1, l, [], j, h1, h2 => by simp at h2
  | m + 1, l, b :: r, j, h1, h2 => by
    have ih := updAt_take p c m l r j h1 (by simp at h2; omega)
    rw [show m + 1 + j = (m + j) + 1 by omega]
    simp only [updAt, List.set_cons_succ, List.getD_cons_succ]
    rw [ih]
theorem updAt_zero (p c : Int) : ∀ (m : Nat) (r : List Int), updAt p c [] m r = r
  | 0, r => updRow_nil p c r
  | m + 1, [] => rfl
  | m + 1, b :: r => by simp only [updAt, updAt_zero p c m r]
/-! ### loops, what follows them as a letter of its own -/
abbrev LoopI (J : It) (g : TG) (tb : TS) (Nx : L2.St → Hp → Prop) (Rt : VK) (σ : L2.St) (H : Hp) : Prop :=
  ∃ W : Nat → Nat → L2.St → Hp → Prop, (∃ m, W 0 m σ H) ∧ ∀ i m σ H, W i m σ H →
    (J.stop i H ∧ Nx σ H) ∨ (J.go i H ∧ ∃ N : L2.St → Hp → Prop, (∀ σ' H', N σ' H' → ∃ m', m' < m ∧ W (i + 1) m' σ' H') ∧ ∀ x H', J.yld i H x H' → g x σ H' fun σ2 H2 => tb ⟨N, Rt, Nx, N⟩ σ2 H2)
section
variable {g : TG} {tb : TS} {Nx : L2.St → Hp → Prop} {Rt : VK} {σ : L2.St} {H : Hp} {a : Addr} {xs : List V}
theorem fl (Pv : Nat → L2.St → Hp → Prop) (h0 : Pv 0 σ H) (hl : ∀ i σ H, i ≤ xs.length → Pv i σ H → SqL K H a xs)
    (hs : ∀ i x σ H, xs[i]? = some x → Pv i σ H → g x σ H fun σ2 H2 => tb ⟨Pv (i + 1), Rt, Nx, Pv (i + 1)⟩ σ2 H2) (hd : ∀ σ H, Pv xs.length σ H → Nx σ H) : LoopI (Itl K a) g tb Nx Rt σ H :=
  for_list (D := ⟨Nx, Rt, fun _ _ => False, fun _ _ => False⟩) Pv h0 hl hs hd
theorem ft (Pv : Nat → L2.St → Hp → Prop) (h0 : Pv 0 σ H) (hl : ∀ i σ H, i ≤ xs.length → Pv i σ H → SqT K H a xs)
    (hs : ∀ i x σ H, xs[i]? = some x → Pv i σ H → g x σ H fun σ2 H2 => tb ⟨Pv (i + 1), Rt, Nx, Pv (i + 1)⟩ σ2 H2) (hd : ∀ σ H, Pv xs.length σ H → Nx σ H) : LoopI (Itt K a) g tb Nx Rt σ H :=
  for_tup (D := ⟨Nx, Rt, fun _ _ => False, fun _ _ => False⟩) Pv h0 hl hs hd
theorem fr {lo : Int} {n : Nat} (Pv : Nat → L2.St → Hp → Prop) (h0 : Pv 0 σ H)
    (hs : ∀ i σ H, i < n → Pv i σ H → g (.int (lo + (i : Nat))) σ H fun σ2 H2 => tb ⟨Pv (i + 1), Rt, Nx, Pv (i + 1)⟩ σ2 H2) (hd : ∀ σ H, Pv n σ H → Nx σ H) : LoopI (Itr lo n) g tb Nx Rt σ H :=
  for_range (D := ⟨Nx, Rt, fun _ _ => False, fun _ _ => False⟩) Pv h0 hs hd
theorem frc {lo c : Int} {n : Nat} (Pv : Nat → L2.St → Hp → Prop) (h0 : Pv 0 σ H)
    (hs : ∀ i σ H, i < n → Pv i σ H → g (.int (lo + (i : Nat) * c)) σ H fun σ2 H2 => tb ⟨Pv (i + 1), Rt, Nx, Pv (i + 1)⟩ σ2 H2) (hd : ∀ σ H, Pv n σ H → Nx σ H) : LoopI (Itc lo c n) g tb Nx Rt σ H :=
  for_rangeC (D := ⟨Nx, Rt, fun _ _ => False, fun _ _ => False⟩) Pv h0 hs hd
theorem fe {p : Addr × Bool} (Pv : Nat → L2.St → Hp → Prop) (h0 : Pv 0 σ H) (hl : ∀ i σ H, Pv i σ H → Msz.SqP K H p xs)
    (hs : ∀ (i : Nat) (x : V) (T : Addr) (σ : L2.St) (H : Hp), xs[i]? = some x → Pv i σ H → H T = none → g (.ref T) σ (upd H T (.tup [.int (i : Nat), x])) fun σ2 H2 => tb ⟨Pv (i + 1), Rt, Nx, Pv (i + 1)⟩ σ2 H2) (hd : ∀ σ H, Pv xs.length σ H → Nx σ H) : LoopI (Mse.IteP K p) g tb Nx Rt σ H :=
  Mse.for_enumP (D := ⟨Nx, Rt, fun _ _ => False, fun _ _ => False⟩) Pv h0 hl hs hd
theorem fz {ss : List (Addr × Bool)} {ls : List (List V)} {n : Nat} (hne : ss ≠ []) (Pv : Nat → L2.St → Hp → Prop) (h0 : Pv 0 σ H) (hq : ∀ i σ H, Pv i σ H → Msz.Cols K H n ss ls)
    (hs : ∀ (i : Nat) (T : Addr) (σ : L2.St) (H : Hp), i < n → Pv i σ H → H T = none → g (.ref T) σ (upd H T (.tup (ls.map fun l => l.getD i .non))) fun σ2 H2 => tb ⟨Pv (i + 1), Rt, Nx, Pv (i + 1)⟩ σ2 H2) (hd : ∀ σ H, Pv n σ H → Nx σ H) : LoopI (Msz.ItN K ss) g tb Nx Rt σ H :=
  Msz.for_zipN (D := ⟨Nx, Rt, fun _ _ => False, fun _ _ => False⟩) hne Pv h0 hq hs hd
end
theorem at_lastv {l : List Int} (h : 0 < l.length) : atI (vints l) (-1) = some (V.int (l.getD (l.length - 1) 0)) := by
  have e : ixN (vints l).length (-1) = some (l.length - 1) := by
    unfold ixN
    rw [if_neg (by decide), if_pos (by rw [vints_len]; omega), vints_len]
    congr 1
    omega
  unfold atI
  rw [e]
  exact vints_get (by omega)
theorem map_getD (f : Int → Int) {l : List Int} {i : Nat} (h : i < l.length) : (l.map f).getD i 0 = f (l.getD i 0) := by
  rw [List.getD_eq_getElem?_getD, List.getD_eq_getElem?_getD, List.getElem?_map, List.getElem?_eq_getElem h]
  rfl
theorem vints_range {xs : List V} {l : List Int} (h : xs.length = l.length) : (List.range xs.length).map (fun i => V.int (l.getD i 0)) = vints l := by
  refine List.ext_getElem (by simp [h]) fun i h1 h2 => ?_
  have hi : i < l.length := by simpa using h2
  simp [List.getElem?_eq_getElem hi]
theorem is_tup {K : PySem.W.Frag} : PySem.W.kitAny K (.type "tuple") [.type "tuple", .type "list"] = some true := kitAny_cons (b := true) (kit_ty (by decide +kernel)) (fun h => by cases h) (fun _ => rfl)
theorem is_lst {K : PySem.W.Frag} : PySem.W.kitAny K (.type "list") [.type "tuple", .type "list"] = some true := kitAny_cons (b := false) (kit_ty (by decide +kernel)) (fun _ => kitAny_cons (b := true) (kit_ty (by decide +kernel)) (fun h => by cases h) (fun _ => rfl)) (fun h => by cases h)
theorem is_int {K : PySem.W.Frag} : PySem.W.kitOne K (.type "int") (.type "int") = some true := kit_ty (by decide +kernel)
/-! ### comprehensions without a test -/
section
variable {g : TG} {te : TE} {vs : List Nat} {σ : L2.St} {H1 : Hp} {D : Addr} {Qd : Hp → Prop}
abbrev LcI (J : It) (g : TG) (te : TE) (vs : List Nat) (σ : L2.St) (H1 : Hp) (D : Addr) (Qd : Hp → Prop) : Prop :=
  ∃ W : Nat → Nat → Hp → Prop, (∃ m, W 0 m (upd H1 D (.lst []))) ∧ ∀ i m H, W i m H →
      (J.stop i H ∧ Qd H) ∨ (J.go i H ∧ ∃ Nx : Hp → Prop, (∀ H', Nx H' → ∃ m', m' < m ∧ W (i + 1) m' H') ∧ ∀ x H', J.yld i H x H' → g x (wipe σ vs) H' fun σ2 H2 => wipe σ2 vs = wipe σ vs ∧ tYes σ2 H2 fun b H3 =>
        if b = true then te σ2 H3 fun y H4 => ∃ acc, H4 D = some (.lst acc) ∧ acc.length < sizeLine ∧ Nx (upd H4 D (.lst (acc ++ [y]))) else Nx H3)
/-- so far: the list stands at D -/
def Sf (H1 : Hp) (D : Addr) (v : Nat → V) (i : Nat) (H : Hp) : Prop := H1 D = none ∧ Same H1 H ∧ H D = some (.lst ((List.range i).map v))
theorem Sf.next {H1 : Hp} {D : Addr} {v : Nat → V} {i : Nat} {H H4 : Hp} (h : Sf H1 D v i H) (s : Same H H4) (hz : i < 50000) : ∃ acc, H4 D = some (.lst acc) ∧ acc.length < sizeLine ∧ Sf H1 D v (i + 1) (upd H4 D (.lst (acc ++ [v i]))) :=
  ⟨_, s _ _ h.2.2, sz_lt (by simp; omega), h.1, same_mut (h.2.1.trans s) h.1, by rw [upd_same, List.range_succ, List.map_append]; rfl⟩
theorem lcl {a : Addr} {xs : List V} (v : Nat → V) (hx : SqL K H1 a xs) (hD : H1 D = none) (hz : xs.length ≤ 50000)
    (hs : ∀ (i : Nat) (x : V) (H : Hp) (Q : VK), xs[i]? = some x → Same H1 H → (∀ H4, Same H H4 → Q (v i) H4) → g x (wipe σ vs) H fun σ2 H2 => wipe σ2 vs = wipe σ vs ∧ te σ2 H2 Q)
    (hd : ∀ H, Same H1 H → H D = some (.lst ((List.range xs.length).map v)) → Qd H) : LcI (Itl K a) g te vs σ H1 D Qd :=
  lc_list (tt := tYes) (Sf H1 D v) ⟨hD, same_new hD, upd_same⟩ (fun i H _ p => p.2.1.seq hx) (fun i x H hi p => hs i x H _ hi p.2.1 fun H4 s => p.next s (by have := (List.getElem?_eq_some_iff.mp hi).1; omega)) (fun H p => hd H p.2.1 p.2.2)
theorem lct {a : Addr} {xs : List V} (v : Nat → V) (hx : SqT K H1 a xs) (hD : H1 D = none) (hz : xs.length ≤ 50000)
    (hs : ∀ (i : Nat) (x : V) (H : Hp) (Q : VK), xs[i]? = some x → Same H1 H → (∀ H4, Same H H4 → Q (v i) H4) → g x (wipe σ vs) H fun σ2 H2 => wipe σ2 vs = wipe σ vs ∧ te σ2 H2 Q)
    (hd : ∀ H, Same H1 H → H D = some (.lst ((List.range xs.length).map v)) → Qd H) : LcI (Itt K a) g te vs σ H1 D Qd :=
  lc_tup (tt := tYes) (Sf H1 D v) ⟨hD, same_new hD, upd_same⟩ (fun i H _ p => Same.sqt p.2.1 hx) (fun i x H hi p => hs i x H _ hi p.2.1 fun H4 s => p.next s (by have := (List.getElem?_eq_some_iff.mp hi).1; omega)) (fun H p => hd H p.2.1 p.2.2)
theorem lcr {lo : Int} {n : Nat} (v : Nat → V) (hD : H1 D = none) (hz : n ≤ 50000)
    (hs : ∀ (i : Nat) (H : Hp) (Q : VK), i < n → Same H1 H → (∀ H4, Same H H4 → Q (v i) H4) → g (.int (lo + (i : Nat))) (wipe σ vs) H fun σ2 H2 => wipe σ2 vs = wipe σ vs ∧ te σ2 H2 Q)
    (hd : ∀ H, Same H1 H → H D = some (.lst ((List.range n).map v)) → Qd H) : LcI (Itr lo n) g te vs σ H1 D Qd :=
  lc_range (tt := tYes) (Sf H1 D v) ⟨hD, same_new hD, upd_same⟩ (fun i H hi p => hs i H _ hi p.2.1 fun H4 s => p.next s (by omega)) (fun H p => hd H p.2.1 p.2.2)
/-! #### .. whose items are new objects -/
def Sg (H1 : Hp) (D : Addr) (G : Nat → HO) (i : Nat) (H : Hp) : Prop := H1 D = none ∧ Same H1 H ∧ ∃ tl : List Addr, tl.length = i ∧ H D = some (.lst (vrefs tl)) ∧ ∀ j t, tl[j]? = some t → H t = some (G j)
theorem Sg.next {H1 : Hp} {D p : Addr} {G : Nat → HO} {i : Nat} {H H4 : Hp} (h : Sg H1 D G i H) (s : Same H H4) (hp : H4 p = some (G i)) (hG : ∀ j acc, G j ≠ .lst acc) (hz : i < 50000) : ∃ acc, H4 D = some (.lst acc) ∧ acc.length < sizeLine ∧ Sg H1 D G (i + 1) (upd H4 D (.lst (acc ++ [.ref p]))) := by
  obtain ⟨h0, s1, tl, l1, hD, hg⟩ := h
  have hD4 := s _ _ hD
  have nd : ∀ t j, H4 t = some (G j) → t ≠ D := fun t j e q => by
    subst q
    rw [hD4] at e
    exact hG j _ (Option.some.inj e).symm
  refine ⟨_, hD4, sz_lt (by simp; omega), h0, same_mut (s1.trans s) h0, tl ++ [p], by simp [l1], by rw [upd_same]; simp [vrefs], ?_⟩
  intro j t ht
  by_cases hj : j < tl.length
  · rw [List.getElem?_append_left hj] at ht
    have := s _ _ (hg j t ht)
    rw [upd_ne (nd t j this)]
    exact this
  · have e : j = tl.length := by
      have := (List.getElem?_eq_some_iff.mp ht).1
      simp at this
      omega
    subst e
    rw [List.getElem?_append_right (Nat.le_refl _), Nat.sub_self] at ht
    have e : t = p := (Option.some.inj ht).symm
    subst e
    have := hp
    rw [← l1] at this
    rw [upd_ne (nd _ _ this)]
    exact this
theorem lctA {a : Addr} {xs : List V} (G : Nat → HO) (hG : ∀ j acc, G j ≠ .lst acc) (hx : SqT K H1 a xs) (hD : H1 D = none) (hz : xs.length ≤ 50000)
    (hs : ∀ (i : Nat) (x : V) (H : Hp) (Q : VK), xs[i]? = some x → Same H1 H → (∀ p H4, Same H H4 → H4 p = some (G i) → Q (.ref p) H4) → g x (wipe σ vs) H fun σ2 H2 => wipe σ2 vs = wipe σ vs ∧ te σ2 H2 Q)
    (hd : ∀ (H : Hp) (tl : List Addr), Same H1 H → tl.length = xs.length → H D = some (.lst (vrefs tl)) → (∀ j t, tl[j]? = some t → H t = some (G j)) → Qd H) : LcI (Itt K a) g te vs σ H1 D Qd :=
  lc_tup (tt := tYes) (Sg H1 D G) ⟨hD, same_new hD, [], rfl, upd_same, fun j t h => by simp at h⟩ (fun i H _ p => Same.sqt p.2.1 hx) (fun i x H hi p => hs i x H _ hi p.2.1 fun q H4 s e => p.next s e hG (by have := (List.getElem?_eq_some_iff.mp hi).1; omega)) (fun H p => by
    obtain ⟨_, s, tl, l1, h1, h2⟩ := p
    exact hd H tl s l1 h1 h2)
theorem lclA {a : Addr} {xs : List V} (G : Nat → HO) (hG : ∀ j acc, G j ≠ .lst acc) (hx : SqL K H1 a xs) (hD : H1 D = none) (hz : xs.length ≤ 50000)
    (hs : ∀ (i : Nat) (x : V) (H : Hp) (Q : VK), xs[i]? = some x → Same H1 H → (∀ p H4, Same H H4 → H4 p = some (G i) → Q (.ref p) H4) → g x (wipe σ vs) H fun σ2 H2 => wipe σ2 vs = wipe σ vs ∧ te σ2 H2 Q)
    (hd : ∀ (H : Hp) (tl : List Addr), Same H1 H → tl.length = xs.length → H D = some (.lst (vrefs tl)) → (∀ j t, tl[j]? = some t → H t = some (G j)) → Qd H) : LcI (Itl K a) g te vs σ H1 D Qd :=
  lc_list (tt := tYes) (Sg H1 D G) ⟨hD, same_new hD, [], rfl, upd_same, fun j t h => by simp at h⟩ (fun i H _ p => p.2.1.seq hx) (fun i x H hi p => hs i x H _ hi p.2.1 fun q H4 s e => p.next s e hG (by have := (List.getElem?_eq_some_iff.mp hi).1; omega)) (fun H p => by
    obtain ⟨_, s, tl, l1, h1, h2⟩ := p
    exact hd H tl s l1 h1 h2)
end
theorem putF_new {f : Str} {v : V} : ∀ {fs : List (Str × V)}, (∀ p ∈ fs, p.1 ≠ f) → putF f v fs = fs ++ [(f, v)]
  | [], _ => rfl
  | (g, x) :: r, h => by
    rw [putF, if_neg (h (g, x) (by simp)), putF_new fun p hp => h p (by simp [hp])]
    rfl
theorem vrefs_get {l : List Addr} {i : Nat} {x : V} (h : (vrefs l)[i]? = some x) : ∃ t, l[i]? = some t ∧ x = .ref t := by
  rw [List.getElem?_map] at h
  cases e : l[i]? with
  | none => rw [e] at h; cases h
  | some t => rw [e] at h; exact ⟨t, rfl, (Option.some.inj h).symm⟩
theorem some_at {α : Type} {l : List α} {n i : Nat} (h : l.length = n) (hi : i < n) : ∃ x, l[i]? = some x := ⟨l[i]'(by omega), List.getElem?_eq_getElem (by omega)⟩
theorem drop_at {α : Type} {l : List α} {i : Nat} {x : α} (h : l[i]? = some x) : l.drop i = x :: l.drop (i + 1) := by
  obtain ⟨h1, h2⟩ := List.getElem?_eq_some_iff.mp h
  rw [List.drop_eq_getElem_cons h1, h2]
theorem take_at {α : Type} {l : List α} {i : Nat} {x : α} (h : l[i]? = some x) : l.take (i + 1) = l.take i ++ [x] := by
  obtain ⟨h1, h2⟩ := List.getElem?_eq_some_iff.mp h
  rw [List.take_succ_eq_append_getElem h1, h2]
theorem getD_at {α : Type} {l : List α} {i : Nat} {x d : α} (h : l[i]? = some x) : l.getD i d = x := by rw [List.getD_eq_getElem?_getD, h]; rfl
theorem vi_at {l : List Int} {i : Nat} {x : Int} (h : l[i]? = some x) : (vints l).getD i V.non = .int x := getD_at (by rw [List.getElem?_map, h]; rfl)
theorem vr_at {l : List Addr} {i : Nat} {x : Addr} (h : l[i]? = some x) : (vrefs l).getD i V.non = .ref x := getD_at (by rw [List.getElem?_map, h]; rfl)
theorem Hf.hs {P : Program} {w : World} {mg : Str → Option Value} {base : Heap} {k : Nat} {f : Addr} {ps : List Str} {sp : Sp} {x : Str} (h : Hf P w K mg base k f ps sp) (e : mg x = some (.ref f)) : Hs P w K mg base k x ps sp := by
  obtain ⟨fd, a, b, c⟩ := h
  exact ⟨f, fd, a, e, b, c⟩
theorem els_at : ∀ {Ps : List Part} {ds : List Int}, Els Ps ds → ∀ {i : Nat} {P : Part} {d : Int}, Ps[i]? = some P → ds[i]? = some d → El P d
  | _, _, .cons h r, 0, _, _, h1, h2 => by
    have e1 := Option.some.inj h1
    have e2 := Option.some.inj h2
    subst e1 e2
    exact h
  | _, _, .cons h r, i + 1, _, _, h1, h2 => els_at r (i := i) h1 h2
theorem els_len : ∀ {Ps : List Part} {ds : List Int}, Els Ps ds → ds.length = Ps.length
  | _, _, .nil => rfl
  | _, _, .cons _ r => by simp [els_len r]
theorem PsOk.at {Ps : List Part} (h : PsOk Ps) {i : Nat} {P : Part} (e : Ps[i]? = some P) : POk P := h.ok P (List.mem_of_getElem? e)
theorem PsOk.fat {Ps : List Part} (h : PsOk Ps) {i : Nat} {P : Part} (e : Ps[i]? = some P) : Fld P := h.fld P (List.mem_of_getElem? e)
theorem no_m {aP aS aL : Addr} {m o : Int} {f : Str} (h : (("parts" : Str) != f && ("sizes" : Str) != f && ("many" : Str) != f && ("lowers" : Str) != f && ("order" : Str) != f) = true) : (flds aP aS aL m o).lookup f = none := by
  simp only [Bool.and_eq_true, bne_iff_ne, ne_eq] at h
  obtain ⟨⟨⟨⟨h1, h2⟩, h3⟩, h4⟩, h5⟩ := h
  have q : ∀ g : Str, ¬ g = f → (f == g) = false := fun g hg => by
    rw [beq_eq_false_iff_ne]
    exact fun e => hg e.symm
  exact lk_no aP aS aL m o (q _ h1) (q _ h2) (q _ h3) (q _ h4) (q _ h5)
end
end Msw
set_option maxRecDepth 100000
set_option maxHeartbeats 4000000
namespace Msw
open PySem L2 Msq
section
variable {P : Program} {w : World} {K : PySem.W.Frag} {mg : Str → Option Value} {base : Heap} {C fS fL : Addr}
theorem ordP_snoc : ∀ (Ps : List Part) (P : Part), ordP (Ps ++ [P]) = ordP Ps * P.q
  | [], P => by simp [ordP]
  | R :: Ps, P => by
    rw [List.cons_append, ordP, ordP_snoc Ps P, ordP, Int.mul_assoc]
theorem ok_checked_parts (T : Txt K mg C fS fL) (D : Dfn K mg "checked_parts" s_checked_parts ["parts"]) (G_is_prime_power : Hs P w K mg base 3 "is_prime_power" ["part"] sp_is_prime_power) (G_size_of : Hs P w K mg base 1 "size_of" ["prime", "degree"] sp_size_of) : Hs P w K mg base 4 "checked_parts" ["parts"] sp_checked_parts := by
  obtain ⟨f, fd, F, g, b⟩ := D
  refine ⟨f, fd, F.ok sc_checked_parts (fun vs H Q E h => ?_) (fun cdv A outer s H vs Q E hr h => ?_), g, F.kp, b⟩
  · obtain ⟨a, ts, es, rfl, _⟩ := h
    rfl
  · obtain ⟨a, ts, es, rfl, ha, tu, ok, h30, k⟩ := h
    refine ⟨_, (pss_cons (ps_if (pt_not (pt_val (pe_callB call_isiT rfl T.isinstance_ (by decide +kernel) (pa_cons (pv 0) (pa_cons (pe_tup (pa_cons (pe_bltn (v := .ty "tuple") rfl T.tuple_ (by decide +kernel) rfl) (pa_cons (pe_bltn (v := .ty "list") rfl T.list_ (by decide +kernel) rfl) pa_nil))) pa_nil))))) (pss_one (ps_never)) pss_nil)
      (pss_cons (ps_set (i := 1) sc_checked_parts.nd rfl (Or.inl rfl) (pe_lst pa_nil))
      (pss_cons (ps_set (i := 2) sc_checked_parts.nd rfl (Or.inl rfl) pe_int)
      (pss_cons (ps_for PassesOwn.never rfl (pi_list (pv 0)) (pg_name (i := 3) sc_checked_parts.nd rfl (Or.inl rfl))
        (pss_cons (ps_if (PW.pt (pw_or (pt_not (pt_val (pe_c G_is_prime_power (hr.mono (by decide)) rfl (pa_cons (pv 3) pa_nil)))) (pw_or1 (pt_cmpR op_in_seq (pe_ix (r := rIxT K) ix_tup (pv 3) pe_int (fun _ _ => rfl)) (pe_lc (own := [("prime", 4), ("_", 5)]) (g := (gTup K 2 (gCons (gName 4) (gCons (gName 5) gNil)))) (tt := tYes) rfl sc_checked_parts.nd (pi_list (pv 1)) (blkOk_by (own := [("prime", 4), ("_", 5)]) (N := ["parts", "found", "order", "part", "prime", "_"]) (sc := defScope s_checked_parts) (by decide +kernel)) (fun _ _ _ _ _ => pg_tup rfl (pgs_cons (pg_name (i := 4) sc_checked_parts.nd rfl (Or.inl rfl)) (pgs_cons (pg_name (i := 5) sc_checked_parts.nd rfl (Or.inl rfl)) pgs_nil))) (fun _ _ _ _ _ => pts_nil) (fun _ _ _ _ _ => (pv 4))) (by with_unfolding_all rfl))))) (pss_one (ps_never)) pss_nil)
        (pss_cons (ps_expr (pe_bm PySem.F.plainAttrs_list PySem.F.slot_list_append PySem.F.type_list_append mt_append (pv 1) (pa_cons (pe_callTy call_tuple_of rfl T.tuple_ (by decide +kernel) (pa_cons (pv 3) pa_nil)) pa_nil)))
        (pss_one (ps_aug (i := 2) sc_checked_parts.nd rfl (Or.inl rfl) (pe_c G_size_of (hr.mono (by decide)) rfl (pa_cons (pe_ix (r := rIxT K) ix_tup (pv 3) pe_int (fun _ _ => rfl)) (pa_cons (pe_ix (r := rIxT K) ix_tup (pv 3) pe_int (fun _ _ => rfl)) pa_nil))) iop_mul)))))
      (pss_cons (ps_if (PW.pt (pw_or (pt_cmpR op_eq (pe_callB call_len_seq rfl T.len_ (by decide +kernel) (pa_cons (pv 1) pa_nil)) pe_int (nomark _)) (pw_or1 (pt_cmpR op_gt (pv 2) (pe_gi T.MOST_ORDER) (nomark _))))) (pss_one (ps_never)) pss_nil)
      (pss_one (ps_ret (pe_callTy call_tuple_of rfl T.tuple_ (by decide +kernel) (pa_cons (pv 1) pa_nil))))))))), ?_⟩
    refine ⟨_, rfl, by show 2 ≤ sizeLine; decide, fun z hz => ?_⟩
    have s1 : Same H _ := same_new (o := .tup [.ty "tuple", .ty "list"]) hz
    refine ⟨.ref a, z, _, _, _, true, rfl, upd_same, .cons (.ty _) (.cons (.ty _) .nil), .base (.lst (s1 _ _ ha)), is_lst, _, rfl, ?_⟩
    refine iteF ?_
    refine ⟨by show 0 ≤ sizeLine; decide, fun b hb => ?_⟩
    have s2 := s1.trans (same_new (o := .lst []) hb)
    have fb := s1.free hb
    refine ⟨_, rfl, a, rfl, ⟨_, SqL.of (s2 _ _ ha)⟩, ?_⟩
    refine fl (K := K) (a := a) (xs := vrefs ts) (fun i σ H' => ∃ (v3 : Option V), σ = [some (.ref a), some (.ref b), some (.int (ordP (prt (es.take i)))), v3, none, none] ∧ Same H H' ∧ H' b = some (.lst (vrefs (ts.take i)))) ⟨none, rfl, s2, upd_same⟩ (fun i σ H1 _ ⟨_, _, t1, _⟩ => SqL.of (t1 _ _ ha)) ?_ ?_
    · rintro i x σ H1 hx ⟨v3, rfl, t1, h1⟩
      have hi : i < ts.length := by have := (List.getElem?_eq_some_iff.mp hx).1; simpa using this
      have hie : i < es.length := by rw [← tu.1]; exact hi
      have hx' : x = V.ref ts[i] := by
        rw [List.getElem?_map, List.getElem?_eq_getElem hi] at hx
        exact (Option.some.inj hx).symm
      subst hx'
      have he : es[i] ∈ tab := ok.tab _ (List.getElem_mem hie)
      have htH : H ts[i] = some (.tup [.int es[i].p, .int es[i].k]) := tu.2 i _ _ (List.getElem?_eq_getElem hi) (List.getElem?_eq_getElem hie)
      have o := ent_ok he
      have o1 := o.p1
      have o2 := o.p2
      have o3 := o.k4
      have lT : (ts.take i).length = i := by rw [List.length_take]; omega
      have l8 := ok.len
      refine ⟨_, rfl, ts[i], es[i], rfl, he, t1 _ _ htH, fun H2 s2 => ⟨_, rfl, ?_⟩⟩
      refine iteF ?_
      have t2 := t1.trans s2
      have h2 := s2 _ _ h1
      refine ⟨_, rfl, ts[i], _, _, _, rfl, rfl, SqT.of (t2 _ _ htH), rfl, _, rfl, b, rfl, ⟨_, SqL.of h2⟩, fun D hD => ?_⟩
      refine lcl (K := K) (a := b) (xs := vrefs (ts.take i)) (fun j => V.int (((es.map fun e => (e.p : Int)).getD j 0))) (SqL.of h2) hD (by simp; omega) ?_ ?_
      · intro j y H3 Q3 hy s3 k3
        have hj : j < i := by have := (List.getElem?_eq_some_iff.mp hy).1; simp at this; omega
        have hjt : j < ts.length := by omega
        have hje : j < es.length := by omega
        have hy' : y = V.ref ts[j] := by
          rw [List.getElem?_map, List.getElem?_take, if_pos hj, List.getElem?_eq_getElem hjt] at hy
          exact (Option.some.inj hy).symm
        subst hy'
        have hjH : H ts[j] = some (.tup [.int es[j].p, .int es[j].k]) := tu.2 j _ _ (List.getElem?_eq_getElem hjt) (List.getElem?_eq_getElem hje)
        refine ⟨ts[j], _, rfl, SqT.of ((t2.trans s3) _ _ hjH), rfl, _, _, rfl, _, _, rfl, rfl, rfl, _, rfl, ?_⟩
        have ev : (es.map fun e => (e.p : Int)).getD j 0 = (es[j].p : Int) := by
          rw [List.getD_eq_getElem?_getD, List.getElem?_map, List.getElem?_eq_getElem hje]
          rfl
        have := k3 H3 (Same.refl H3)
        rw [ev] at this
        exact this
      intro H3 s3 h3
      have t3 := t2.trans s3
      have hno : inV (V.int es[i].p) ((List.range (vrefs (ts.take i)).length).map fun j => V.int (((es.map fun e => (e.p : Int)).getD j 0))) = false := by
        rw [Bool.eq_false_iff]
        intro hin
        obtain ⟨y, hy, e⟩ := List.any_eq_true.mp hin
        obtain ⟨j, hj, rfl⟩ := List.mem_map.mp hy
        have hj : j < i := by have := List.mem_range.mp hj; simp at this; omega
        have hje : j < es.length := by omega
        have ev : (es.map fun e => (e.p : Int)).getD j 0 = (es[j].p : Int) := by
          rw [List.getD_eq_getElem?_getD, List.getElem?_map, List.getElem?_eq_getElem hje]
          rfl
        have e : (es.map fun e => (e.p : Int)).getD j 0 = (es[i].p : Int) := by simpa [eqV] using e
        rw [ev] at e
        have hnd := List.pairwise_iff_getElem.mp ok.nd j i (by simpa using hje) (by simpa using hie) hj
        simp only [List.getElem_map] at hnd
        omega
      refine ⟨D, _, rfl, .inl (SqL.of h3), rfl, List.all_eq_true.mpr (fun z hz => by obtain ⟨j, _, rfl⟩ := List.mem_map.mp hz; rfl), _, rfl, ?_⟩
      show if inV (V.int es[i].p) ((List.range (vrefs (ts.take i)).length).map fun j => V.int (((es.map fun e => (e.p : Int)).getD j 0))) = true then _ else _
      rw [hno]
      refine iteF ?_
      have h4 := s3 _ _ h2
      refine ⟨_, rfl, .inl ⟨rfl, _, SqL.of h4⟩, _, rfl, ts[i], _, rfl, .inr ⟨SqT.of (t3 _ _ htH), b, _, _, rfl, rfl, h4, sz_lt (by simp; omega), ?_⟩⟩
      have t4 := same_mut (o := .lst (vrefs (ts.take i) ++ [V.ref ts[i]])) t3 fb
      refine ⟨_, rfl, _, rfl, ts[i], _, _, _, rfl, rfl, SqT.of (t4 _ _ htH), rfl, _, rfl, ts[i], _, _, _, rfl, rfl, SqT.of (t4 _ _ htH), rfl, es[i].p, es[i].k, rfl, ⟨by omega, by omega⟩, by omega, fun H5 s5 => ?_⟩
      have hq := ent_small he
      have hqi : (es[i].p : Int) ^ es[i].k = ((es[i].p ^ es[i].k : Nat) : Int) := (Int.natCast_pow _ _).symm
      refine ⟨_, _, rfl, rfl, .inr ⟨by rw [hqi]; omega, by rw [hqi]; omega⟩, some (.ref ts[i]), ?_, t4.trans s5, ?_⟩
      · have e6 : ordP (prt (es.take (i + 1))) = ordP (prt (es.take i)) * (es[i].p : Int) ^ es[i].k := by
          rw [List.take_succ_eq_append_getElem hie, prt, List.map_append]
          show ordP (prt (es.take i) ++ [es[i].P]) = _
          rw [ordP_snoc, ent_q]
        rw [e6]
        rfl
      · have e7 : vrefs (ts.take (i + 1)) = vrefs (ts.take i) ++ [V.ref ts[i]] := by
          rw [List.take_succ_eq_append_getElem hi]
          show (ts.take i ++ [ts[i]]).map V.ref = _
          rw [List.map_append]
          rfl
        rw [e7]
        exact s5 _ _ upd_same
    · rintro σ H1 ⟨v3, rfl, t1, h1⟩
      rw [List.length_map, List.take_length] at h1
      have eL : (es.take (vrefs ts).length) = es := by rw [List.length_map, tu.1, List.take_length]
      rw [eL]
      have n0 : 0 < ts.length := by rw [tu.1]; exact List.length_pos_iff.mpr ok.ne
      refine ⟨_, rfl, b, _, rfl, .inl (SqL.of h1), rfl, _, rfl, ?_⟩
      have e0 : decide (V.int ((vrefs ts).length : Nat) = V.int 0) = false := decide_eq_false (by intro e; injection e with e; simp at e; rw [e] at n0; simp at n0)
      show if decide (V.int ((vrefs ts).length : Nat) = V.int 0) = true then _ else _
      rw [e0]
      refine iteF ⟨_, rfl, _, _, rfl, rfl, _, rfl, ?_⟩
      have e1 : decide ((1000000000000000000000000000000 : Int) < ordP (prt es)) = false := decide_eq_false (by
        have e : (10 : Int) ^ 30 = 1000000000000000000000000000000 := by decide
        omega)
      show if decide ((1000000000000000000000000000000 : Int) < ordP (prt es)) = true then _ else _
      rw [e1]
      refine iteF ?_
      refine ⟨_, rfl, b, _, rfl, .inl ⟨SqL.of h1, fun R hR => ?_⟩⟩
      exact k R _ (t1.trans (same_new hR)) (t1.free hR) upd_same
end
end Msw
set_option maxRecDepth 100000
set_option maxHeartbeats 4000000
namespace Msw
open PySem L2 Msq
section
variable {P : Program} {w : World} {K : PySem.W.Frag} {mg : Str → Option Value} {base : Heap} {C fS fL : Addr}
theorem Tups.get {H : Hp} {ts : List Addr} {es : List Ent} (h : Tups H ts es) {i : Nat} (hi : i < es.length) : ∃ t e, ts[i]? = some t ∧ es[i]? = some e ∧ H t = some (.tup [.int e.p, .int e.k]) := by
  obtain ⟨e, he⟩ := some_at (l := es) rfl hi
  obtain ⟨t, ht⟩ := some_at (l := ts) h.1 hi
  exact ⟨t, e, ht, he, h.2 i t e ht he⟩
theorem ent_bd {e : Ent} (h : e ∈ tab) : (0 ≤ (e.p : Int) ∧ (e.p : Int) ≤ 999983) ∧ e.k ≤ 12 := by
  have o := ent_ok h
  have o1 := o.p1
  have o2 := o.p2
  have o3 := o.k4
  exact ⟨⟨by omega, by omega⟩, by omega⟩
theorem ent_mul {e : Ent} (h : e ∈ tab) (a : Int) : CMul a ((e.p : Int) ^ e.k) := by
  have hq := ent_small h
  have hqi : (e.p : Int) ^ e.k = ((e.p ^ e.k : Nat) : Int) := (Int.natCast_pow _ _).symm
  exact .inr ⟨by rw [hqi]; omega, by rw [hqi]; omega⟩
theorem prt_take {es : List Ent} {i : Nat} {e : Ent} (h : es[i]? = some e) : prt (es.take (i + 1)) = prt (es.take i) ++ [e.P] := by
  rw [take_at h]
  show (es.take i ++ [e]).map Ent.P = _
  rw [List.map_append]
  rfl
theorem ok__law_order (T : Txt K mg C fS fL) (D : Dfn K mg "_law_order" s__law_order ["_law_parts"]) (G__law_size : Hs P w K mg base 1 "_law_size" ["_law_p", "_law_k"] sp__law_size) : Hs P w K mg base 2 "_law_order" ["_law_parts"] (sp__law_order K) := by
  obtain ⟨f, fd, F, g, b⟩ := D
  refine ⟨f, fd, F.ok sc__law_order (fun vs H Q E h => ?_) (fun cdv A outer s H vs Q E hr h => ?_), g, F.kp, b⟩
  · obtain ⟨a, ts, es, rfl, _⟩ := h
    rfl
  · obtain ⟨a, ts, es, rfl, ha, tu, ok, k⟩ := h
    refine ⟨_, (pss_cons (ps_set (i := 1) sc__law_order.nd rfl (Or.inl rfl) pe_int)
      (pss_cons (ps_for PassesOwn.never rfl (pi_list (pv 0)) (pg_tup rfl (pgs_cons (pg_name (i := 2) sc__law_order.nd rfl (Or.inl rfl)) (pgs_cons (pg_name (i := 3) sc__law_order.nd rfl (Or.inl rfl)) pgs_nil)))
        (pss_one (ps_set (i := 1) sc__law_order.nd rfl (Or.inl rfl) (pe_op op_mul (pv 1) (pe_c G__law_size (hr.mono (by decide)) rfl (pa_cons (pv 2) (pa_cons (pv 3) pa_nil)))))))
      (pss_one (ps_ret (pv 1))))), ?_⟩
    refine ⟨_, rfl, a, rfl, ⟨_, ha⟩, ?_⟩
    refine fl (K := K) (a := a) (xs := vrefs ts) (fun i σ H' => ∃ (v2 v3 : Option V), σ = [some (.ref a), some (.int (ordP (prt (es.take i)))), v2, v3] ∧ Same H H') ⟨none, none, rfl, Same.refl H⟩ (fun i σ H1 _ ⟨_, _, _, t1⟩ => t1.seq ha) ?_ ?_
    · rintro i x σ H1 hx ⟨v2, v3, rfl, t1⟩
      obtain ⟨t, ht, rfl⟩ := vrefs_get hx
      have hi : i < es.length := by have := (List.getElem?_eq_some_iff.mp ht).1; rw [tu.1] at this; exact this
      obtain ⟨t', e, ht', he, hH⟩ := tu.get hi
      obtain rfl : t' = t := Option.some.inj (ht'.symm.trans ht)
      have h0 := ok.tab e (List.mem_of_getElem? he)
      have hb := ent_bd h0
      refine ⟨t', _, rfl, SqT.of (t1 _ _ hH), rfl, _, _, rfl, _, _, rfl, rfl, ?_⟩
      refine ⟨_, rfl, _, rfl, _, rfl, e.p, e.k, rfl, hb.1, hb.2, fun H2 s2 => ?_⟩
      refine ⟨_, _, rfl, rfl, ent_mul h0 _, some (.int e.p), some (.int e.k), ?_, t1.trans s2⟩
      rw [prt_take he, ordP_snoc, ent_q]
      rfl
    · rintro σ H1 ⟨v2, v3, rfl, t1⟩
      have eL : es.take (vrefs ts).length = es := by rw [List.length_map, tu.1, List.take_length]
      rw [eL]
      exact ⟨_, rfl, k H1 t1⟩
end
end Msw
set_option maxRecDepth 100000
set_option maxHeartbeats 4000000
namespace Msw
open PySem L2 Msq
section
variable {P : Program} {w : World} {K : PySem.W.Frag} {mg : Str → Option Value} {base : Heap} {C fS fL : Addr}
theorem drn_get {ns : List Int} (h : Drn ns) {i : Nat} (hi : i < ns.length) : 0 ≤ ns.getD i 0 ∧ ns.getD i 0 < 1009 := by
  rw [List.getD_eq_getElem?_getD, List.getElem?_eq_getElem hi]
  exact h _ (List.getElem_mem hi)
theorem ok__law_long (T : Txt K mg C fS fL) (D : Dfn K mg "_law_long" s__law_long ["_law_numbers_here", "_law_at"]) : Hs P w K mg base 1 "_law_long" ["_law_numbers_here", "_law_at"] (sp__law_long K) := by
  obtain ⟨f, fd, F, g, b⟩ := D
  refine ⟨f, fd, F.ok sc__law_long (fun vs H Q E h => ?_) (fun cdv A outer s H vs Q E hr h => ?_), g, F.kp, b⟩
  · obtain ⟨a, ns, i, rfl, _⟩ := h
    rfl
  · obtain ⟨a, ns, i, rfl, ha, hl, hd, hi, k⟩ := h
    refine ⟨_, (pss_cons (ps_set (i := 2) sc__law_long.nd rfl (Or.inl rfl) pe_int)
      (pss_cons (ps_for PassesOwn.never rfl (pi_range1 rfl T.range_ (pa_cons pe_int pa_nil)) (pg_name (i := 3) sc__law_long.nd rfl (Or.inl rfl))
        (pss_one (ps_set (i := 2) sc__law_long.nd rfl (Or.inl rfl) (pe_op op_add (pe_op op_mul (pv 2) pe_int) (pe_ix (r := rIxL K) ix_list (pv 0) (pe_op op_add (pv 1) (pv 3)) (fun _ _ => rfl))))))
      (pss_one (ps_ret (pv 2))))), ?_⟩
    refine ⟨10, rfl, by omega, by omega, ?_⟩
    refine fr (lo := 0) (n := 10) (fun j σ H' => ∃ (z : Int) (v3 : Option V), σ = [some (.ref a), some (.int i), some (.int z), v3] ∧ Same H H' ∧ 0 ≤ z) ⟨0, none, rfl, Same.refl H, by omega⟩ ?_ ?_
    · rintro j σ H1 hj ⟨z, v3, rfl, t1, z0⟩
      have eix : (i : Int) + (0 + (j : Nat)) = ((i + j : Nat) : Int) := by omega
      have hd' := drn_get hd (i := i + j) (by omega)
      refine ⟨_, rfl, _, _, rfl, rfl, mul_ok (by decide) (by decide), _, rfl, _, rfl, _, rfl, _, _, rfl, rfl, a, _, _, _, rfl, rfl, t1.seq ha, at_v eix (by omega), _, _, rfl, rfl, z * 1009 + ns.getD (i + j) 0, _, rfl, t1, by omega⟩
    · rintro σ H1 ⟨z, v3, rfl, t1, z0⟩
      exact ⟨_, rfl, k z z0 H1 t1⟩
end
end Msw
set_option maxRecDepth 100000
set_option maxHeartbeats 4000000
namespace Msw
open PySem L2 Msq
section
variable {P : Program} {w : World} {K : PySem.W.Frag} {mg : Str → Option Value} {base : Heap} {C fS fL : Addr}
def base16 : List Int := [2, 3, 5, 7, 11, 13, 17, 89, 97, 101, 1009, 999953, 999959, 999961, 999979, 999983]
theorem base_tab : (base16.all fun p => (List.range 4).all fun k => (decide (97 < p) && decide (k ≠ 0)) || tab.any fun e => decide ((e.p : Int) = p) && decide (e.k = k + 1)) = true := by decide +kernel
theorem base_has {p : Int} (hp : p ∈ base16) {k : Nat} (h1 : 1 ≤ k) (h4 : k ≤ 4) (h97 : 97 < p → k = 1) : ∃ e ∈ tab, (e.p : Int) = p ∧ e.k = k := by
  have h := List.all_eq_true.mp (List.all_eq_true.mp base_tab p hp) (k - 1) (List.mem_range.mpr (by omega))
  rw [Bool.or_eq_true] at h
  rcases h with h | h
  · simp only [Bool.and_eq_true, decide_eq_true_eq] at h
    have := h97 h.1
    omega
  · obtain ⟨e, he, h⟩ := List.any_eq_true.mp h
    simp only [Bool.and_eq_true, decide_eq_true_eq] at h
    exact ⟨e, he, h.1, by omega⟩
theorem Tups.take {H : Hp} {ts : List Addr} {es : List Ent} (h : Tups H ts es) (n : Nat) : Tups H (ts.take n) (es.take n) := by
  refine ⟨by rw [List.length_take, List.length_take, h.1], fun i t e a b => ?_⟩
  rw [List.getElem?_take] at a b
  split at a
  · rename_i hi
    rw [if_pos hi] at b
    exact h.2 i t e a b
  · cases a
theorem Tups.drop {H : Hp} {ts : List Addr} {es : List Ent} (h : Tups H ts es) (n : Nat) : Tups H (ts.drop n) (es.drop n) := by
  refine ⟨by rw [List.length_drop, List.length_drop, h.1], fun i t e a b => ?_⟩
  rw [List.getElem?_drop] at a b
  exact h.2 _ t e a b
theorem Tups.append {H : Hp} {ts ts' : List Addr} {es es' : List Ent} (h : Tups H ts es) (h' : Tups H ts' es') : Tups H (ts ++ ts') (es ++ es') := by
  refine ⟨by simp [h.1, h'.1], fun i t e a b => ?_⟩
  by_cases hi : i < ts.length
  · rw [List.getElem?_append_left hi] at a
    rw [List.getElem?_append_left (by rw [← h.1]; exact hi)] at b
    exact h.2 i t e a b
  · rw [List.getElem?_append_right (by omega)] at a
    rw [List.getElem?_append_right (by rw [← h.1]; omega), ← h.1] at b
    exact h'.2 _ t e a b
theorem at2 (x : Int) : ∃ d : Int, atI [V.int 4, V.int 8] (x % 2) = some (.int d) ∧ 4 ≤ d ∧ d ≤ 8 := by
  have h : x % 2 = 0 ∨ x % 2 = 1 := by omega
  rcases h with h | h <;> rw [h]
  · exact ⟨4, rfl, by omega, by omega⟩
  · exact ⟨8, rfl, by omega, by omega⟩
theorem at3 (x : Int) : ∃ d : Int, atI [V.int 1, V.int 4, V.int 3] (x % 3) = some (.int d) ∧ 1 ≤ d ∧ d ≤ 4 := by
  have h : x % 3 = 0 ∨ x % 3 = 1 ∨ x % 3 = 2 := by omega
  rcases h with h | h | h <;> rw [h]
  · exact ⟨1, rfl, by omega, by omega⟩
  · exact ⟨4, rfl, by omega, by omega⟩
  · exact ⟨3, rfl, by omega, by omega⟩
theorem Tups.put {H : Hp} {ts : List Addr} {es : List Ent} {p : Addr} {xs : List V} {o : HO} (h : Tups H ts es) (hp : H p = some (.lst xs)) : Tups (upd H p o) ts es := ⟨h.1, fun i t e a b => by
  have hh := h.2 i t e a b
  rw [upd_ne (fun q => by rw [q, hp] at hh; cases hh)]
  exact hh⟩
def es5 : List Ent := tab.filter fun e => decide (999953 ≤ e.p)
theorem es5_is : es5.map (fun e => ((e.p : Int), e.k)) = [(999953, 1), (999959, 1), (999961, 1), (999979, 1), (999983, 1)] := by decide +kernel
theorem es5_nd : (es5.map (·.p)).Nodup := by decide +kernel
theorem es5_len : es5.length = 5 := by decide +kernel
theorem es5_at {i : Nat} {e : Ent} (h : es5[i]? = some e) : (([999953, 999959, 999961, 999979, 999983] : List Int).getD i 0) = e.p ∧ e.k = 1 := by
  have h1 : (es5.map (fun e => ((e.p : Int), e.k)))[i]? = some ((e.p : Int), e.k) := by rw [List.getElem?_map, h]; rfl
  rw [es5_is] at h1
  match i, h1 with
  | 0, h1 => have h2 := Prod.mk.inj (Option.some.inj h1); exact ⟨h2.1, h2.2.symm⟩
  | 1, h1 => have h2 := Prod.mk.inj (Option.some.inj h1); exact ⟨h2.1, h2.2.symm⟩
  | 2, h1 => have h2 := Prod.mk.inj (Option.some.inj h1); exact ⟨h2.1, h2.2.symm⟩
  | 3, h1 => have h2 := Prod.mk.inj (Option.some.inj h1); exact ⟨h2.1, h2.2.symm⟩
  | 4, h1 => have h2 := Prod.mk.inj (Option.some.inj h1); exact ⟨h2.1, h2.2.symm⟩
  | n + 5, h1 => simp at h1
theorem map_era (l : List Int) : ∀ j, (vints l).eraseIdx j = vints (l.eraseIdx j) := by
  induction l with
  | nil => intro j; rfl
  | cons x l ih =>
    intro j
    cases j with
    | zero => rfl
    | succ j => simp only [List.map_cons, List.eraseIdx_cons_succ, ih j]
theorem es5_rot (n : Nat) : EsOk (es5.drop n ++ es5.take n) := by
  have hp : (es5.drop n ++ es5.take n).Perm es5 := by
    have h := List.perm_append_comm (l₁ := es5.drop n) (l₂ := es5.take n)
    rw [List.take_append_drop] at h
    exact h
  refine ⟨fun e => ?_, fun e he => ?_, ?_, ?_⟩
  · have := hp.length_eq
    rw [e, es5_len] at this
    simp at this
  · exact (List.mem_filter.mp (hp.mem_iff.mp he)).1
  · exact ((hp.map (·.p)).nodup_iff).mpr es5_nd
  · rw [hp.length_eq, es5_len]
    omega
theorem base_nd : base16.Nodup := by decide +kernel
theorem ok__law_great (T : Txt K mg C fS fL) (D : Dfn K mg "_law_great" s__law_great ["_law_numbers_here", "_law_at"]) : Hs P w K mg base 1 "_law_great" ["_law_numbers_here", "_law_at"] (sp__law_great K) := by
  obtain ⟨f, fd, F, g, b⟩ := D
  refine ⟨f, fd, F.ok sc__law_great (fun vs H Q E h => ?_) (fun cdv A outer s H vs Q E hr h => ?_), g, F.kp, b⟩
  · obtain ⟨a, ns, rfl, _⟩ := h
    rfl
  · obtain ⟨a, ns, rfl, ha, hl, hd, k⟩ := h
    refine ⟨_, (pss_cons (ps_set (i := 2) sc__law_great.nd rfl (Or.inl rfl) (pe_lst (pa_cons pe_int (pa_cons pe_int (pa_cons pe_int (pa_cons pe_int (pa_cons pe_int (pa_cons pe_int (pa_cons pe_int (pa_cons pe_int (pa_cons pe_int (pa_cons pe_int (pa_cons pe_int (pa_cons pe_int (pa_cons pe_int (pa_cons pe_int (pa_cons pe_int (pa_cons pe_int pa_nil))))))))))))))))))
      (pss_cons (ps_set (i := 3) sc__law_great.nd rfl (Or.inl rfl) (pe_lst pa_nil))
      (pss_cons (ps_for PassesOwn.never rfl (pi_range1 rfl T.range_ (pa_cons (pe_op op_add pe_int (pe_op op_mod (pe_callTy call_int1 rfl T.int_ (by decide +kernel) (pa_cons (pe_ix (r := rIxL K) ix_list (pv 0) (pv 1) (fun _ _ => rfl)) pa_nil)) (pe_ix (r := rIxL K) ix_list (pe_lst (pa_cons pe_int (pa_cons pe_int pa_nil))) (pe_op op_mod (pe_callTy call_int1 rfl T.int_ (by decide +kernel) (pa_cons (pe_op op_fdiv (pe_ix (r := rIxL K) ix_list (pv 0) (pv 1) (fun _ _ => rfl)) pe_int) pa_nil)) pe_int) (fun _ _ => rfl)))) pa_nil)) (pg_name (i := 4) sc__law_great.nd rfl (Or.inl rfl))
        (pss_cons (ps_set (i := 5) sc__law_great.nd rfl (Or.inl rfl) (pe_bm PySem.F.plainAttrs_list PySem.F.slot_list_pop PySem.F.type_list_pop mt_popAt (pv 2) (pa_cons (pe_op op_mod (pe_callTy call_int1 rfl T.int_ (by decide +kernel) (pa_cons (pe_ix (r := rIxL K) ix_list (pv 0) (pe_op op_add (pe_op op_add (pv 1) pe_int) (pe_op op_mul pe_int (pv 4))) (fun _ _ => rfl)) pa_nil)) (pe_callB call_len_seq rfl T.len_ (by decide +kernel) (pa_cons (pv 2) pa_nil))) pa_nil)))
        (pss_cons (ps_set (i := 6) sc__law_great.nd rfl (Or.inl rfl) (pe_ix (r := rIxL K) ix_list (pe_lst (pa_cons pe_int (pa_cons pe_int (pa_cons pe_int pa_nil)))) (pe_op op_mod (pe_callTy call_int1 rfl T.int_ (by decide +kernel) (pa_cons (pe_ix (r := rIxL K) ix_list (pv 0) (pe_op op_add (pe_op op_add (pv 1) pe_int) (pe_op op_mul pe_int (pv 4))) (fun _ _ => rfl)) pa_nil)) pe_int) (fun _ _ => rfl)))
        (pss_cons (ps_set (i := 7) sc__law_great.nd rfl (Or.inl rfl) (pe_op op_add pe_int (pe_op op_mod (pe_callTy call_int1 rfl T.int_ (by decide +kernel) (pa_cons (pe_op op_fdiv (pe_ix (r := rIxL K) ix_list (pv 0) (pe_op op_add (pe_op op_add (pv 1) pe_int) (pe_op op_mul pe_int (pv 4))) (fun _ _ => rfl)) pe_int) pa_nil)) (pv 6))))
        (pss_cons (ps_if (pt_cmpR op_gt (pv 5) pe_int (nomark _)) (pss_one (ps_set (i := 7) sc__law_great.nd rfl (Or.inl rfl) pe_int)) pss_nil)
        (pss_one (ps_expr (pe_bm PySem.F.plainAttrs_list PySem.F.slot_list_append PySem.F.type_list_append mt_append (pv 3) (pa_cons (pe_tup (pa_cons (pv 5) (pa_cons (pv 7) pa_nil))) pa_nil)))))))))
      (pss_cons (ps_if (pt_cmpR op_eq (pe_op op_mod (pe_callTy call_int1 rfl T.int_ (by decide +kernel) (pa_cons (pe_ix (r := rIxL K) ix_list (pv 0) (pe_op op_add (pv 1) pe_int) (fun _ _ => rfl)) pa_nil)) pe_int) pe_int (nomark _)) (pss_cons (ps_set (i := 8) sc__law_great.nd rfl (Or.inl rfl) (pe_op op_mod (pe_callTy call_int1 rfl T.int_ (by decide +kernel) (pa_cons (pe_ix (r := rIxL K) ix_list (pv 0) (pe_op op_add (pv 1) pe_int) (fun _ _ => rfl)) pa_nil)) pe_int))
        (pss_cons (ps_setLc (i := 3) (own := [("_law_p", 5)]) (g := gName 5) (tt := tYes) rfl sc__law_great.nd rfl rfl (sw_true rfl rfl rfl (by decide +kernel)) (pi_list (pe_lst (pa_cons pe_int (pa_cons pe_int (pa_cons pe_int (pa_cons pe_int (pa_cons pe_int pa_nil))))))) (blkOk_by (own := [("_law_p", 5)]) (N := ["_law_numbers_here", "_law_at", "_law_primes", "_law_parts", "_law_turn", "_law_p", "_law_most", "_law_k", "_law_from"]) (sc := defScope s__law_great) (by decide +kernel)) (fun _ _ _ _ _ => pg_name (i := 5) sc__law_great.nd rfl (Or.inl rfl)) (fun _ _ _ _ _ => pts_nil) (fun _ _ _ _ _ => (pe_tup (pa_cons (pv 5) (pa_cons pe_int pa_nil)))))
        (pss_one (ps_set (i := 3) sc__law_great.nd rfl (Or.inl rfl) (pe_op op_cat (pe_slice sl_list (pv 3) (po_some (pv 8)) po_none) (pe_slice sl_list (pv 3) po_none (po_some (pv 8)))))))) pss_nil)
      (pss_one (ps_ret (pv 3))))))), ?_⟩
    refine ⟨by show 16 ≤ sizeLine; decide, fun P1 hP1 => ?_⟩
    have s1 : Same H _ := same_new (o := .lst (vints base16)) hP1
    refine ⟨by show 0 ≤ sizeLine; decide, fun L1 hL1 => ?_⟩
    have s2 := s1.trans (same_new (o := .lst []) hL1)
    have fP : H P1 = none := hP1
    have fL : H L1 = none := s1.free hL1
    have nPL : P1 ≠ L1 := ne_of_none upd_same hL1
    have a0 := drn_get hd (i := 0) (by omega)
    have a2 := s2.seq ha
    refine ⟨_, rfl, _, rfl, a, _, _, _, rfl, rfl, a2, at_v (j := 0) rfl (by omega), .inl ⟨_, rfl, by show 2 ≤ sizeLine; decide, fun w1 hw1 => ?_⟩⟩
    have s3 := s2.trans (same_new (o := .lst [.int 4, .int 8]) hw1)
    obtain ⟨d, hd1, hd2, hd3⟩ := at2 (ns.getD 0 0 / 8)
    refine ⟨_, rfl, _, rfl, a, _, _, _, rfl, rfl, s3.seq ha, at_v (j := 0) rfl (by omega), _, _, rfl, rfl, div_ok (by decide) (by decide), .inl ⟨_, rfl, _, _, rfl, rfl, (show (0 : Int) < 2 by decide), w1, _, _, _, rfl, rfl, SqL.of upd_same, hd1, _, _, rfl, rfl, (show (0 : Int) < d by omega), _, _, rfl, rfl, ?_⟩⟩
    have hm0 : 0 ≤ ns.getD 0 0 % d := Int.emod_nonneg _ (by omega)
    have hm1 : ns.getD 0 0 % d < d := Int.emod_lt_of_pos _ (by omega)
    obtain ⟨n, hn⟩ : ∃ n : Nat, (1 : Int) + ns.getD 0 0 % d = (n : Int) := ⟨(1 + ns.getD 0 0 % d).toNat, by omega⟩
    refine ⟨n, by rw [← hn], by omega, by omega, ?_⟩
    rw [Int.toNat_natCast]
    refine fr (lo := 0) (n := n) (fun i σ H' => ∃ (ps : List Int) (ts : List Addr) (es : List Ent) (v4 v5 v6 v7 : Option V), σ = [some (.ref a), some (.int 0), some (.ref P1), some (.ref L1), v4, v5, v6, v7, none] ∧ Same H H' ∧ H' P1 = some (.lst (vints ps)) ∧ H' L1 = some (.lst (vrefs ts)) ∧ ps.length = 16 - i ∧ ps.Nodup ∧ (∀ p ∈ ps, p ∈ base16) ∧ Tups H' ts es ∧ es.length = i ∧ (∀ e ∈ es, e ∈ tab) ∧ (es.map (·.p)).Nodup ∧ ∀ e ∈ es, ¬ (e.p : Int) ∈ ps) ⟨base16, [], [], none, none, none, none, rfl, s3, (same_new hw1) _ _ ((same_new hL1) _ _ upd_same), (same_new hw1) _ _ upd_same, rfl, base_nd, fun p hp => hp, ⟨rfl, fun i t e h => by simp at h⟩, rfl, fun e h => by simp at h, by simp, fun e h => by simp at h⟩ ?_ ?_
    · rintro i σ H1 hi ⟨ps, ts, es, v4, v5, v6, v7, rfl, t1, hP, hL, hpl, hnd, hbase, tu, hel, htab, hend, hdis⟩
      have e1 : (0 : Int) + 1 + 2 * (0 + (i : Nat)) = ((1 + 2 * i : Nat) : Int) := by omega
      have e2 : (0 : Int) + 2 + 2 * (0 + (i : Nat)) = ((2 + 2 * i : Nat) : Int) := by omega
      have g1 := drn_get hd (i := 1 + 2 * i) (by omega)
      have g2 := drn_get hd (i := 2 + 2 * i) (by omega)
      have hl0 : 0 < (ps.length : Int) := by omega
      obtain ⟨j, hj0⟩ : ∃ j : Nat, ns.getD (1 + 2 * i) 0 % (ps.length : Int) = (j : Int) := ⟨(ns.getD (1 + 2 * i) 0 % (ps.length : Int)).toNat, by have := Int.emod_nonneg (ns.getD (1 + 2 * i) 0) (show (ps.length : Int) ≠ 0 by omega); omega⟩
      have hj : j < ps.length := by have := Int.emod_lt_of_pos (ns.getD (1 + 2 * i) 0) hl0; omega
      refine ⟨_, rfl, .inl ⟨rfl, _, SqL.of hP⟩, _, rfl, _, rfl, _, _, rfl, rfl, _, rfl, _, _, rfl, rfl, mul_okL (by decide) (by decide), _, _, rfl, rfl, a, _, _, _, rfl, rfl, t1.seq ha, at_v e1 (by omega), .inl ⟨_, rfl, _, rfl, P1, _, rfl, .inl (SqL.of hP), _, _, rfl, rfl, by rw [vints_len]; exact hl0, ?_⟩⟩
      refine ⟨P1, vints ps, ns.getD (1 + 2 * i) 0 % (ps.length : Int), j, .int ps[j], rfl, by rw [vints_len], hP, by omega, by omega, (ixN_seq (ix_v hj0 (by rw [vints_len]; exact hj))).1, by rw [List.getElem?_map, List.getElem?_eq_getElem hj]; rfl, ?_⟩
      rw [map_era]
      have hPp : upd H1 P1 (.lst (vints (ps.eraseIdx j))) P1 = some (.lst (vints (ps.eraseIdx j))) := upd_same
      have t2 : Same H (upd H1 P1 (.lst (vints (ps.eraseIdx j)))) := same_mut t1 fP
      have hL' : upd H1 P1 (.lst (vints (ps.eraseIdx j))) L1 = some (.lst (vrefs ts)) := by rw [upd_ne (Ne.symm nPL)]; exact hL
      have hyb : ps[j] ∈ base16 := hbase _ (List.getElem_mem hj)
      -- most
      obtain ⟨d3, hd31, hd32, hd33⟩ := at3 (ns.getD (2 + 2 * i) 0)
      refine ⟨by show 3 ≤ sizeLine; decide, fun w2 hw2 => ?_⟩
      have t3 := t2.trans (same_new (o := .lst [.int 1, .int 4, .int 3]) hw2)
      have hP3 := same_new (o := .lst [.int 1, .int 4, .int 3]) hw2 _ _ hPp
      have hL3 := same_new (o := .lst [.int 1, .int 4, .int 3]) hw2 _ _ hL'
      have tu3 := (tu.put (o := .lst (vints (ps.eraseIdx j))) hP).up (same_new (o := .lst [.int 1, .int 4, .int 3]) hw2)
      have hw3 : upd (upd H1 P1 (.lst (vints (ps.eraseIdx j)))) w2 (.lst [.int 1, .int 4, .int 3]) w2 = some (.lst [.int 1, .int 4, .int 3]) := upd_same
      generalize hHc : upd (upd H1 P1 (.lst (vints (ps.eraseIdx j)))) w2 (.lst [.int 1, .int 4, .int 3]) = Hc at *
      refine ⟨_, rfl, _, rfl, _, _, rfl, rfl, _, rfl, _, _, rfl, rfl, mul_okL (by decide) (by decide), _, _, rfl, rfl, a, _, _, _, rfl, rfl, t3.seq ha, at_v e2 (by omega), .inl ⟨_, rfl, _, _, rfl, rfl, (show (0 : Int) < 3 by decide), w2, _, _, _, rfl, rfl, SqL.of hw3, hd31, ?_⟩⟩
      refine ⟨_, rfl, _, rfl, _, _, rfl, rfl, _, rfl, _, _, rfl, rfl, mul_okL (by decide) (by decide), _, _, rfl, rfl, a, _, _, _, rfl, rfl, t3.seq ha, at_v e2 (by omega), _, _, rfl, rfl, div_ok (by decide) (by decide), .inl ⟨_, rfl, _, rfl, _, _, rfl, rfl, (show (0 : Int) < d3 by omega), _, _, rfl, rfl, ?_⟩⟩
      have hk0 : 0 ≤ ns.getD (2 + 2 * i) 0 / 3 % d3 := Int.emod_nonneg _ (by omega)
      have hk1 : ns.getD (2 + 2 * i) 0 / 3 % d3 < d3 := Int.emod_lt_of_pos _ (by omega)
      obtain ⟨kk, hkk⟩ : ∃ kk : Nat, (1 : Int) + ns.getD (2 + 2 * i) 0 / 3 % d3 = (kk : Int) := ⟨(1 + ns.getD (2 + 2 * i) 0 / 3 % d3).toNat, by omega⟩
      simp only [hkk]
      refine ⟨_, rfl, _, _, rfl, rfl, _, rfl, ?_⟩
      refine ite2 (fun h97 => ?_) (fun h97 => ?_)
      · have h97 : 97 < ps[j] := of_decide_eq_true h97
        refine ⟨_, rfl, .inl ⟨rfl, _, SqL.of hL3⟩, _, rfl, _, rfl, by show 2 ≤ sizeLine; decide, fun T1 hT => ?_⟩
        have nT : L1 ≠ T1 := ne_of_none hL3 hT
        have nTP : P1 ≠ T1 := ne_of_none hP3 hT
        obtain ⟨e, he, ep, ek⟩ := base_has hyb (k := 1) (by omega) (by omega) (fun _ => rfl)
        refine ⟨L1, _, _, rfl, rfl, by rw [upd_ne nT]; exact hL3, sz_lt (by simp; rw [tu.1]; omega), ?_⟩
        refine ⟨ps.eraseIdx j, ts ++ [T1], es ++ [e], _, _, _, _, rfl, same_mut (t3.trans (same_new hT)) fL, ?_, ?_, by rw [List.length_eraseIdx_of_lt hj]; omega, (List.eraseIdx_sublist ps j).nodup hnd, fun q hq => hbase q ((List.eraseIdx_sublist ps j).subset hq), ?_, by simp [hel], ?_, ?_, ?_⟩
        · rw [upd_ne nPL, upd_ne nTP]
          exact hP3
        · rw [upd_same]
          simp [vrefs]
        · have tu1 : Tups (upd Hc T1 (.tup [.int ps[j], .int 1])) ts es := tu3.up (same_new hT)
          have tu2 := tu1.put (o := .lst (vrefs ts ++ [V.ref T1])) (p := L1) (xs := vrefs ts) (by rw [upd_ne nT]; exact hL3)
          refine tu2.append ⟨rfl, fun i t e' a b => ?_⟩
          match i, a, b with
          | 0, a, b =>
            obtain rfl := Option.some.inj a
            obtain rfl := Option.some.inj b
            rw [upd_ne (Ne.symm nT), upd_same, ep, ek]
            rfl
        · intro e' he'
          rcases List.mem_append.mp he' with h | h
          · exact htab e' h
          · obtain rfl : e' = e := by simpa using h
            exact he
        · rw [List.map_append]
          refine List.nodup_append.mpr ⟨hend, by simp, ?_⟩
          intro x hx y hy e0
          subst e0
          obtain ⟨e1, he1, rfl⟩ := List.mem_map.mp hx
          have e2 : e1.p = e.p := by simpa using hy
          refine hdis e1 he1 ?_
          rw [e2, ep]
          exact List.getElem_mem hj
        · intro e' he' hm
          rcases List.mem_append.mp he' with h | h
          · exact hdis e' h ((List.eraseIdx_sublist ps j).subset hm)
          · obtain rfl : e' = e := by simpa using h
            rw [ep] at hm
            obtain ⟨i2, h2, hne, heq⟩ := List.mem_eraseIdx_iff_getElem.mp hm
            exact hne ((List.getElem_inj hnd).mp heq)
      · have h97 : ¬ 97 < ps[j] := fun q => h97 (decide_eq_true q)
        refine ⟨_, rfl, .inl ⟨rfl, _, SqL.of hL3⟩, _, rfl, _, rfl, by show 2 ≤ sizeLine; decide, fun T1 hT => ?_⟩
        have nT : L1 ≠ T1 := ne_of_none hL3 hT
        have nTP : P1 ≠ T1 := ne_of_none hP3 hT
        obtain ⟨e, he, ep, ek⟩ := base_has hyb (k := kk) (by omega) (by omega) (fun q => absurd q h97)
        refine ⟨L1, _, _, rfl, rfl, by rw [upd_ne nT]; exact hL3, sz_lt (by simp; rw [tu.1]; omega), ?_⟩
        refine ⟨ps.eraseIdx j, ts ++ [T1], es ++ [e], _, _, _, _, rfl, same_mut (t3.trans (same_new hT)) fL, ?_, ?_, by rw [List.length_eraseIdx_of_lt hj]; omega, (List.eraseIdx_sublist ps j).nodup hnd, fun q hq => hbase q ((List.eraseIdx_sublist ps j).subset hq), ?_, by simp [hel], ?_, ?_, ?_⟩
        · rw [upd_ne nPL, upd_ne nTP]
          exact hP3
        · rw [upd_same]
          simp [vrefs]
        · have tu1 : Tups (upd Hc T1 (.tup [.int ps[j], .int kk])) ts es := tu3.up (same_new hT)
          have tu2 := tu1.put (o := .lst (vrefs ts ++ [V.ref T1])) (p := L1) (xs := vrefs ts) (by rw [upd_ne nT]; exact hL3)
          refine tu2.append ⟨rfl, fun i t e' a b => ?_⟩
          match i, a, b with
          | 0, a, b =>
            obtain rfl := Option.some.inj a
            obtain rfl := Option.some.inj b
            rw [upd_ne (Ne.symm nT), upd_same, ep, ek]
            skip
        · intro e' he'
          rcases List.mem_append.mp he' with h | h
          · exact htab e' h
          · obtain rfl : e' = e := by simpa using h
            exact he
        · rw [List.map_append]
          refine List.nodup_append.mpr ⟨hend, by simp, ?_⟩
          intro x hx y hy e0
          subst e0
          obtain ⟨e1, he1, rfl⟩ := List.mem_map.mp hx
          have e2 : e1.p = e.p := by simpa using hy
          refine hdis e1 he1 ?_
          rw [e2, ep]
          exact List.getElem_mem hj
        · intro e' he' hm
          rcases List.mem_append.mp he' with h | h
          · exact hdis e' h ((List.eraseIdx_sublist ps j).subset hm)
          · obtain rfl : e' = e := by simpa using h
            rw [ep] at hm
            obtain ⟨i2, h2, hne, heq⟩ := List.mem_eraseIdx_iff_getElem.mp hm
            exact hne ((List.getElem_inj hnd).mp heq)
    · rintro σ H1 ⟨ps, ts, es, v4, v5, v6, v7, rfl, t1, hP, hL, hpl, hnd, hbase, tu, hel, htab, hend, hdis⟩
      have e17 : (0 : Int) + 17 = ((17 : Nat) : Int) := rfl
      have e18 : (0 : Int) + 18 = ((18 : Nat) : Int) := rfl
      refine ⟨_, rfl, _, rfl, _, _, rfl, rfl, a, _, _, _, rfl, rfl, t1.seq ha, at_v e17 (by omega), .inl ⟨_, rfl, _, _, rfl, rfl, (show (0 : Int) < 5 by decide), rfl, _, rfl, ?_⟩⟩
      refine ite2 (fun _ => ?_) (fun _ => ?_)
      · refine ⟨_, rfl, _, rfl, _, _, rfl, rfl, a, _, _, _, rfl, rfl, t1.seq ha, at_v e18 (by omega), .inl ⟨_, rfl, _, _, rfl, rfl, (show (0 : Int) < 5 by decide), ?_⟩⟩
        obtain ⟨fr', hfr⟩ : ∃ f' : Nat, ns.getD 18 0 % 5 = (f' : Int) := ⟨(ns.getD 18 0 % 5).toNat, by omega⟩
        simp only [hfr]
        refine ⟨by show 5 ≤ sizeLine; decide, fun w3 hw3 => ?_⟩
        have t2 := t1.trans (same_new (o := .lst (vints [999953, 999959, 999961, 999979, 999983])) hw3)
        refine ⟨w3, rfl, ⟨_, SqL.of upd_same⟩, fun D hD => ?_⟩
        refine lclA (K := K) (a := w3) (xs := vints [999953, 999959, 999961, 999979, 999983]) (fun i => .tup [.int (([999953, 999959, 999961, 999979, 999983] : List Int).getD i 0), .int 1]) (fun j acc q => by cases q) (SqL.of upd_same) hD (by show 5 ≤ 50000; decide) ?_ ?_
        · intro m x H2 Q2 hx s2' k2
          obtain ⟨hm, rfl⟩ := vints_get' hx
          refine ⟨rfl, _, rfl, by show 2 ≤ sizeLine; decide, fun p hp => ?_⟩
          exact k2 p _ (same_new hp) upd_same
        intro H2 tl s5 ltl h2 g2
        have t3 := t2.trans s5
        have tu5 : Tups H2 tl es5 := ⟨by rw [ltl, es5_len]; rfl, fun m t e a b => by
          obtain ⟨q1, q2⟩ := es5_at b
          rw [g2 m t a, q1, q2]
          rfl⟩
        refine ⟨_, rfl, _, rfl, _, rfl, D, _, rfl, SqL.of h2, fun u hu => ?_⟩
        rw [cut_from]
        have nuD : D ≠ u := ne_of_none h2 hu
        refine ⟨_, rfl, _, rfl, _, rfl, D, _, rfl, SqL.of (by rw [upd_ne nuD]; exact h2), fun v hv => ?_⟩
        rw [cut_to]
        have nuv : u ≠ v := ne_of_none upd_same hv
        refine ⟨u, v, _, _, rfl, rfl, by rw [upd_ne nuv]; exact upd_same, upd_same, sz_of (by simp; rw [ltl]; show _ ≤ 50000; simp; omega), fun q hq => ?_⟩
        have t4 := ((t3.trans (same_new hu)).trans (same_new hv)).trans (same_new (o := .lst ((vrefs tl).drop fr' ++ (vrefs tl).take fr')) hq)
        have t5 := ((same_new hu).trans (same_new hv)).trans (same_new (o := .lst ((vrefs tl).drop fr' ++ (vrefs tl).take fr')) hq)
        refine ⟨_, rfl, ?_⟩
        refine k (es5.drop fr' ++ es5.take fr') (tl.drop fr' ++ tl.take fr') q _ (es5_rot fr') t4 ?_ (((tu5.drop fr').append (tu5.take fr')).up t5)
        rw [upd_same]
        simp [vrefs, List.map_drop, List.map_take]
      · refine ⟨_, rfl, ?_⟩
        refine k es ts L1 H1 ⟨fun q => ?_, htab, hend, by omega⟩ t1 hL tu
        rw [q] at hel
        simp at hel
        omega
end
end Msw
set_option maxRecDepth 100000
set_option maxHeartbeats 4000000
namespace Msw
open PySem L2 Msq
section
variable {P : Program} {w : World} {K : PySem.W.Frag} {mg : Str → Option Value} {base : Heap} {C fS fL : Addr}
theorem ok__law_size (T : Txt K mg C fS fL) (D : Dfn K mg "_law_size" s__law_size ["_law_p", "_law_k"]) : Hs P w K mg base 1 "_law_size" ["_law_p", "_law_k"] sp__law_size := by
  obtain ⟨f, fd, F, g, b⟩ := D
  refine ⟨f, fd, F.ok sc__law_size (fun vs H Q E h => ?_) (fun cdv A outer s H vs Q E hr h => ?_), g, F.kp, b⟩
  · obtain ⟨p, n, rfl, _⟩ := h
    rfl
  · obtain ⟨p, n, rfl, ⟨p0, p9⟩, n12, k⟩ := h
    refine ⟨_, (pss_cons (ps_set (i := 2) sc__law_size.nd rfl (Or.inl rfl) pe_int)
      (pss_cons (ps_for PassesOwn.never rfl (pi_range1 rfl T.range_ (pa_cons (pv 1) pa_nil)) (pg_name (i := 3) sc__law_size.nd rfl (Or.inl rfl))
        (pss_one (ps_set (i := 2) sc__law_size.nd rfl (Or.inl rfl) (pe_op op_mul (pv 2) (pv 0)))))
      (pss_one (ps_ret (pv 2))))), ?_⟩
    refine ⟨_, rfl, (n : Int), rfl, by omega, by omega, ?_⟩
    refine for_range (lo := 0) (n := (n : Int).toNat) (fun i σ H' => ∃ v, σ = [some (.int p), some (.int n), some (.int (p ^ i)), v] ∧ Same H H') ⟨none, by rw [Int.pow_zero]; rfl, Same.refl H⟩ ?_ ?_
    · rintro i σ H1 hi ⟨v, rfl, s1⟩
      refine ⟨_, rfl, _, rfl, _, _, rfl, rfl, mul_ok p0 (by omega), some (.int (0 + (i : Int))), ?_, s1⟩
      rw [Int.pow_succ]
      rfl
    · rintro σ H1 ⟨v, rfl, s1⟩
      refine ⟨_, rfl, ?_⟩
      rw [Int.toNat_natCast]
      exact k H1 s1
end
end Msw
set_option maxRecDepth 100000
set_option maxHeartbeats 4000000
namespace Msw
open PySem L2 Msq
section
variable {P : Program} {w : World} {K : PySem.W.Frag} {mg : Str → Option Value} {base : Heap} {C fS fL : Addr}
theorem ok__law_joined (T : Txt K mg C fS fL) (D : Dfn K mg "_law_joined" s__law_joined ["_law_parts", "_law_figures_here"]) (G__law_size : Hs P w K mg base 1 "_law_size" ["_law_p", "_law_k"] sp__law_size) : Hs P w K mg base 2 "_law_joined" ["_law_parts", "_law_figures_here"] (sp__law_joined K) := by
  obtain ⟨f, fd, F, g, b⟩ := D
  refine ⟨f, fd, F.ok sc__law_joined (fun vs H Q E h => ?_) (fun cdv A outer s H vs Q E hr h => ?_), g, F.kp, b⟩
  · obtain ⟨a, ts, es, b, ds, rfl, _⟩ := h
    rfl
  · obtain ⟨a, ts, es, b, ds, rfl, ha, tu, eok, hb, hl, k⟩ := h
    have l8 := eok.len
    have lPs : (prt es).length = es.length := by simp
    refine ⟨_, (pss_cons (ps_set (i := 2) sc__law_joined.nd rfl (Or.inl rfl) pe_int)
      (pss_cons (ps_for PassesOwn.never rfl (pi_range1 rfl T.range_ (pa_cons (pe_callB call_len_seq rfl T.len_ (by decide +kernel) (pa_cons (pv 0) pa_nil)) pa_nil)) (pg_name (i := 3) sc__law_joined.nd rfl (Or.inl rfl))
        (pss_one (ps_set (i := 2) sc__law_joined.nd rfl (Or.inl rfl) (pe_op op_add (pe_op op_mul (pv 2) (pe_c G__law_size (hr.mono (by decide)) rfl (pa_cons (pe_ix (r := rIxT K) ix_tup (pe_ix (r := rIxL K) ix_list (pv 0) (pv 3) (fun _ _ => rfl)) pe_int (fun _ _ => rfl)) (pa_cons (pe_ix (r := rIxT K) ix_tup (pe_ix (r := rIxL K) ix_list (pv 0) (pv 3) (fun _ _ => rfl)) pe_int (fun _ _ => rfl)) pa_nil)))) (pe_ix (r := rIxL K) ix_list (pv 1) (pv 3) (fun _ _ => rfl))))))
      (pss_one (ps_ret (pv 2))))), ?_⟩
    refine ⟨_, rfl, a, _, rfl, .inl ha, _, rfl, ?_⟩
    have eL : (vrefs ts).length = es.length := by simp [tu.1]
    rw [eL]
    refine ⟨by omega, by omega, ?_⟩
    rw [Int.toNat_natCast]
    refine fr (lo := 0) (n := es.length) (fun i σ H' => ∃ (z : Int) (v3 : Option V), σ = [some (.ref a), some (.ref b), some (.int z), v3] ∧ Same H H' ∧ z * ordP ((prt es).drop i) + joinP ((prt es).drop i) (ds.drop i) = joinP (prt es) ds) ⟨0, none, rfl, Same.refl H, by simp⟩ ?_ ?_
    · rintro i σ H1 hi ⟨z, v3, rfl, t1, e1⟩
      obtain ⟨t, e, ht, he, hH⟩ := tu.get hi
      obtain ⟨d, hd⟩ := some_at (l := ds) hl hi
      have h0 := eok.tab e (List.mem_of_getElem? he)
      have hbd := ent_bd h0
      have ez : (0 : Int) + (i : Nat) = (i : Int) := Int.zero_add _
      have hat : ∀ H2, Same H H2 → atI (vrefs ts) (0 + (i : Nat)) = some (.ref t) := fun H2 _ => at_of ez (by rw [List.getElem?_map, ht]; rfl)
      have t1T := SqT.of (K := K) (t1 _ _ hH)
      refine ⟨_, rfl, _, rfl, _, rfl, a, _, _, _, rfl, rfl, t1.seq ha, hat _ t1, t, _, _, _, rfl, rfl, t1T, rfl, _, rfl, _, rfl, a, _, _, _, rfl, rfl, t1.seq ha, hat _ t1, t, _, _, _, rfl, rfl, t1T, rfl, e.p, e.k, rfl, hbd.1, hbd.2, fun H2 s2 => ?_⟩
      have t2 := t1.trans s2
      refine ⟨_, _, rfl, rfl, ent_mul h0 _, _, rfl, _, rfl, b, _, _, _, rfl, rfl, t2.seq hb, at_of ez (by rw [List.getElem?_map, hd]; rfl), _, _, rfl, rfl, z * (e.p : Int) ^ e.k + d, _, rfl, t2, ?_⟩
      have hP : (prt es)[i]? = some e.P := by rw [List.getElem?_map, he]; rfl
      rw [← e1, drop_at hP, drop_at hd, joinP, ordP, ent_q, Int.add_mul, Int.mul_assoc, Int.add_assoc]
    · rintro σ H1 ⟨z, v3, rfl, t1, e1⟩
      rw [← lPs, List.drop_length, lPs, ← hl, List.drop_length, ordP] at e1
      have ej : joinP [] [] = 0 := by simp [joinP]
      have ez : z = joinP (prt es) ds := by omega
      refine ⟨_, rfl, ?_⟩
      rw [ez]
      exact k H1 t1
end
end Msw
set_option maxRecDepth 100000
set_option maxHeartbeats 4000000
namespace Msw
open PySem L2 Msq
section
variable {P : Program} {w : World} {K : PySem.W.Frag} {mg : Str → Option Value} {base : Heap} {C fS fL : Addr}
theorem figs_snoc {p : Int} (hp : 0 ≤ p) : ∀ (k : Nat) (n : Int), figs p (k + 1) n = figs p k n ++ [n / p ^ k % p]
  | 0, n => by simp [figs]
  | k + 1, n => by
    have ih := figs_snoc hp k (n / p)
    rw [figs, ih, Int.ediv_ediv_of_nonneg hp, Int.pow_succ, Int.mul_comm (p ^ k) p]
    rfl
theorem ediv_pow {p : Int} (hp : 0 ≤ p) (n : Int) (i : Nat) : n / p ^ i / p = n / p ^ (i + 1) := by
  rw [Int.pow_succ, Int.ediv_ediv_of_nonneg (Int.pow_nonneg hp)]
theorem ok_figures_of (T : Txt K mg C fS fL) (D : Dfn K mg "figures_of" s_figures_of ["prime", "many", "number"]) : Hs P w K mg base 1 "figures_of" ["prime", "many", "number"] sp_figures_of := by
  obtain ⟨f, fd, F, g, b⟩ := D
  refine ⟨f, fd, F.ok sc_figures_of (fun vs H Q E h => ?_) (fun cdv A outer s H vs Q E hr h => ?_), g, F.kp, b⟩
  · obtain ⟨p, m, n, rfl, _⟩ := h
    rfl
  · obtain ⟨p, m, n, rfl, ⟨p0, p9⟩, m12, k⟩ := h
    refine ⟨_, (pss_cons (ps_set (i := 3) sc_figures_of.nd rfl (Or.inl rfl) (pe_lst pa_nil))
      (pss_cons (ps_for PassesOwn.never rfl (pi_range1 rfl T.range_ (pa_cons (pv 1) pa_nil)) (pg_name (i := 4) sc_figures_of.nd rfl (Or.inl rfl))
        (pss_cons (ps_expr (pe_bm PySem.F.plainAttrs_list PySem.F.slot_list_append PySem.F.type_list_append mt_append (pv 3) (pa_cons (pe_op op_mod (pv 2) (pv 0)) pa_nil)))
        (pss_one (ps_aug (i := 2) sc_figures_of.nd rfl (Or.inl rfl) (pv 0) iop_fdiv))))
      (pss_one (ps_ret (pv 3))))), ?_⟩
    refine ⟨by show 0 ≤ sizeLine; decide, fun a ha => ?_⟩
    refine ⟨_, rfl, (m : Int), rfl, by omega, by omega, ?_⟩
    refine for_range (lo := 0) (n := (m : Int).toNat) (fun i σ H' => ∃ v, σ = [some (.int p), some (.int m), some (.int (n / p ^ i)), some (.ref a), v] ∧ Same H H' ∧ H' a = some (.lst (vints (figs p i n)))) ⟨none, by rw [Int.pow_zero, Int.ediv_one]; rfl, same_new ha, upd_same⟩ ?_ ?_
    · rintro i σ H1 hi ⟨v, rfl, s1, h1⟩
      refine ⟨_, rfl, .inl ⟨rfl, _, SqL.of h1⟩, _, rfl, _, rfl, _, _, rfl, rfl, p0, a, _, _, rfl, rfl, h1, small1000 (by rw [List.length_map, figs_len]; omega), ?_⟩
      refine ⟨_, rfl, _, rfl, _, _, rfl, rfl, div_ok p0 (by omega), some (.int (0 + (i : Int))), ?_, same_mut s1 ha, ?_⟩
      · rw [← ediv_pow (by omega)]
        rfl
      · rw [upd_same, figs_snoc (by omega), vints_snoc]
    · rintro σ H1 ⟨v, rfl, s1, h1⟩
      refine ⟨_, rfl, ?_⟩
      rw [Int.toNat_natCast] at h1
      exact k a H1 s1 ha h1
end
end Msw
set_option maxRecDepth 100000
set_option maxHeartbeats 4000000
namespace Msw
open PySem L2 Msq
section
variable {P : Program} {w : World} {K : PySem.W.Frag} {mg : Str → Option Value} {base : Heap} {C fS fL : Addr}
theorem ok__law_figures (T : Txt K mg C fS fL) (D : Dfn K mg "_law_figures" s__law_figures ["_law_p", "_law_k", "_law_number_here"]) : Hs P w K mg base 1 "_law_figures" ["_law_p", "_law_k", "_law_number_here"] sp__law_figures := by
  obtain ⟨f, fd, F, g, b⟩ := D
  refine ⟨f, fd, F.ok sc__law_figures (fun vs H Q E h => ?_) (fun cdv A outer s H vs Q E hr h => ?_), g, F.kp, b⟩
  · obtain ⟨p, m, n, rfl, _⟩ := h
    rfl
  · obtain ⟨p, m, n, rfl, ⟨p0, p9⟩, m12, k⟩ := h
    refine ⟨_, (pss_cons (ps_set (i := 3) sc__law_figures.nd rfl (Or.inl rfl) (pe_lst pa_nil))
      (pss_cons (ps_for PassesOwn.never rfl (pi_range1 rfl T.range_ (pa_cons (pv 1) pa_nil)) (pg_name (i := 4) sc__law_figures.nd rfl (Or.inl rfl))
        (pss_cons (ps_expr (pe_bm PySem.F.plainAttrs_list PySem.F.slot_list_append PySem.F.type_list_append mt_append (pv 3) (pa_cons (pe_op op_mod (pe_callTy call_int1 rfl T.int_ (by decide +kernel) (pa_cons (pv 2) pa_nil)) (pv 0)) pa_nil)))
        (pss_one (ps_set (i := 2) sc__law_figures.nd rfl (Or.inl rfl) (pe_op op_fdiv (pv 2) (pv 0))))))
      (pss_one (ps_ret (pv 3))))), ?_⟩
    refine ⟨by show 0 ≤ sizeLine; decide, fun a ha => ?_⟩
    refine ⟨_, rfl, (m : Int), rfl, by omega, by omega, ?_⟩
    refine for_range (lo := 0) (n := (m : Int).toNat) (fun i σ H' => ∃ v, σ = [some (.int p), some (.int m), some (.int (n / p ^ i)), some (.ref a), v] ∧ Same H H' ∧ H' a = some (.lst (vints (figs p i n)))) ⟨none, by rw [Int.pow_zero, Int.ediv_one]; rfl, same_new ha, upd_same⟩ ?_ ?_
    · rintro i σ H1 hi ⟨v, rfl, s1, h1⟩
      refine ⟨_, rfl, .inl ⟨rfl, _, SqL.of h1⟩, _, rfl, .inl ⟨_, rfl, _, rfl, _, _, rfl, rfl, p0, a, _, _, rfl, rfl, h1, sz_lt (by rw [List.length_map, figs_len]; omega), ?_⟩⟩
      refine ⟨_, rfl, _, rfl, _, _, rfl, rfl, div_ok p0 (by omega), some (.int (0 + (i : Int))), ?_, same_mut s1 ha, ?_⟩
      · rw [← ediv_pow (by omega)]
        rfl
      · rw [upd_same, figs_snoc (by omega), vints_snoc]
    · rintro σ H1 ⟨v, rfl, s1, h1⟩
      refine ⟨_, rfl, ?_⟩
      rw [Int.toNat_natCast] at h1
      exact k a H1 s1 ha h1
end
end Msw
set_option maxRecDepth 100000
set_option maxHeartbeats 4000000
namespace Msw
open PySem L2 Msq
section
variable {P : Program} {w : World} {K : PySem.W.Frag} {mg : Str → Option Value} {base : Heap} {C fS fL : Addr}
/-- the figures from the top, as the loop takes them -/
theorem num_rev (p : Int) (l : List Int) : ∀ i, i ≤ l.length → ∀ v, l.reverse[i]? = some v → num p (l.drop (l.length - (i + 1))) = num p (l.drop (l.length - i)) * p + v := by
  intro i hi v hv
  have hlt : i < l.length := by
    have := (List.getElem?_eq_some_iff.mp hv).1
    simpa using this
  rw [List.getElem?_reverse hlt] at hv
  obtain ⟨h1, h2⟩ := List.getElem?_eq_some_iff.mp hv
  have e1 : l.length - (i + 1) = l.length - 1 - i := by omega
  have e2 : l.length - i = (l.length - 1 - i) + 1 := by omega
  rw [e1, e2, List.drop_eq_getElem_cons h1, h2]
  rfl
theorem ok_number_of (T : Txt K mg C fS fL) (D : Dfn K mg "number_of" s_number_of ["prime", "figures"]) : Hs P w K mg base 1 "number_of" ["prime", "figures"] (sp_number_of K) := by
  obtain ⟨f, fd, F, g, b⟩ := D
  refine ⟨f, fd, F.ok sc_number_of (fun vs H Q E h => ?_) (fun cdv A outer s H vs Q E hr h => ?_), g, F.kp, b⟩
  · obtain ⟨p, a, l, rfl, _⟩ := h
    rfl
  · obtain ⟨p, a, l, rfl, ⟨p0, p9⟩, hl, hlen, k⟩ := h
    refine ⟨_, (pss_cons (ps_set (i := 2) sc_number_of.nd rfl (Or.inl rfl) pe_int)
      (pss_cons (ps_for PassesOwn.never rfl (pi_list (pe_revL (pv 1))) (pg_name (i := 3) sc_number_of.nd rfl (Or.inl rfl))
        (pss_one (ps_set (i := 2) sc_number_of.nd rfl (Or.inl rfl) (pe_op op_add (pe_op op_mul (pv 2) (pv 0)) (pv 3)))))
      (pss_one (ps_ret (pv 2))))), ?_⟩
    refine ⟨_, rfl, a, _, rfl, hl, fun b hb => ?_⟩
    refine ⟨b, rfl, ⟨_, SqL.of upd_same⟩, for_list (K := K) (a := b) (xs := (vints l).reverse) (fun i σ H' => ∃ v, σ = [some (.int p), some (.ref a), some (.int (num p (l.drop (l.length - i)))), v] ∧ Same (upd H b (.lst (vints l).reverse)) H') ⟨none, by rw [Nat.sub_zero, List.drop_length]; rfl, Same.refl _⟩ (fun i σ H1 _ ⟨v, _, s1⟩ => SqL.of (s1 _ _ upd_same)) ?_ ?_⟩
    · rintro i x σ H1 hx ⟨v, rfl, s1⟩
      have hx' : (l.reverse.map V.int)[i]? = some x := by rw [List.map_reverse]; exact hx
      rw [List.getElem?_map] at hx'
      cases e : l.reverse[i]? with
      | none => rw [e] at hx'; cases hx'
      | some y =>
        rw [e] at hx'
        cases hx'
        have hi : i ≤ l.length := by
          have := (List.getElem?_eq_some_iff.mp e).1
          simp at this
          omega
        refine ⟨_, rfl, _, rfl, _, _, rfl, rfl, mul_ok (by omega) (by omega), _, rfl, _, _, rfl, rfl, some (.int y), ?_, s1⟩
        rw [num_rev p l i hi y e]
        rfl
    · rintro σ H1 ⟨v, rfl, s1⟩
      refine ⟨_, rfl, ?_⟩
      have e : l.length - (vints l).reverse.length = 0 := by simp
      rw [e, List.drop_zero]
      exact k H1 ((same_new hb).trans s1)
end
end Msw
set_option maxRecDepth 100000
set_option maxHeartbeats 4000000
namespace Msw
open PySem L2 Msq
section
variable {P : Program} {w : World} {K : PySem.W.Frag} {mg : Str → Option Value} {base : Heap} {C fS fL : Addr}
theorem ok__law_number (T : Txt K mg C fS fL) (D : Dfn K mg "_law_number" s__law_number ["_law_p", "_law_figures_here"]) : Hs P w K mg base 1 "_law_number" ["_law_p", "_law_figures_here"] (sp__law_number K) := by
  obtain ⟨f, fd, F, g, b⟩ := D
  refine ⟨f, fd, F.ok sc__law_number (fun vs H Q E h => ?_) (fun cdv A outer s H vs Q E hr h => ?_), g, F.kp, b⟩
  · obtain ⟨p, a, l, rfl, _⟩ := h
    rfl
  · obtain ⟨p, a, l, rfl, ⟨p0, p9⟩, hl, hlen, k⟩ := h
    refine ⟨_, (pss_cons (ps_set (i := 2) sc__law_number.nd rfl (Or.inl rfl) pe_int)
      (pss_cons (ps_for PassesOwn.never rfl (pi_list (pe_revL (pv 1))) (pg_name (i := 3) sc__law_number.nd rfl (Or.inl rfl))
        (pss_one (ps_set (i := 2) sc__law_number.nd rfl (Or.inl rfl) (pe_op op_add (pe_op op_mul (pv 2) (pv 0)) (pv 3)))))
      (pss_one (ps_ret (pv 2))))), ?_⟩
    refine ⟨_, rfl, a, _, rfl, hl, fun b hb => ?_⟩
    refine ⟨b, rfl, ⟨_, SqL.of upd_same⟩, for_list (K := K) (a := b) (xs := (vints l).reverse) (fun i σ H' => ∃ v, σ = [some (.int p), some (.ref a), some (.int (num p (l.drop (l.length - i)))), v] ∧ Same (upd H b (.lst (vints l).reverse)) H') ⟨none, by rw [Nat.sub_zero, List.drop_length]; rfl, Same.refl _⟩ (fun i σ H1 _ ⟨v, _, s1⟩ => SqL.of (s1 _ _ upd_same)) ?_ ?_⟩
    · rintro i x σ H1 hx ⟨v, rfl, s1⟩
      have hx' : (l.reverse.map V.int)[i]? = some x := by rw [List.map_reverse]; exact hx
      rw [List.getElem?_map] at hx'
      cases e : l.reverse[i]? with
      | none => rw [e] at hx'; cases hx'
      | some y =>
        rw [e] at hx'
        cases hx'
        have hi : i ≤ l.length := by
          have := (List.getElem?_eq_some_iff.mp e).1
          simp at this
          omega
        refine ⟨_, rfl, _, rfl, _, _, rfl, rfl, mul_ok (by omega) (by omega), _, rfl, _, _, rfl, rfl, some (.int y), ?_, s1⟩
        rw [num_rev p l i hi y e]
        rfl
    · rintro σ H1 ⟨v, rfl, s1⟩
      refine ⟨_, rfl, ?_⟩
      have e : l.length - (vints l).reverse.length = 0 := by simp
      rw [e, List.drop_zero]
      exact k H1 ((same_new hb).trans s1)
end
end Msw
set_option maxRecDepth 100000
set_option maxHeartbeats 4000000
namespace Msw
open PySem L2 Msq
section
variable {P : Program} {w : World} {K : PySem.W.Frag} {mg : Str → Option Value} {base : Heap} {C fS fL : Addr}
theorem ok__law_plus (T : Txt K mg C fS fL) (D : Dfn K mg "_law_plus" s__law_plus ["_law_p", "_law_k", "_law_one", "_law_other"]) (G__law_figures : Hs P w K mg base 1 "_law_figures" ["_law_p", "_law_k", "_law_number_here"] sp__law_figures) (G__law_number : Hs P w K mg base 1 "_law_number" ["_law_p", "_law_figures_here"] (sp__law_number K)) : Hs P w K mg base 2 "_law_plus" ["_law_p", "_law_k", "_law_one", "_law_other"] sp__law_plus := by
  obtain ⟨f, fd, F, g, b⟩ := D
  refine ⟨f, fd, F.ok sc__law_plus (fun vs H Q E h => ?_) (fun cdv A outer s H vs Q E hr h => ?_), g, F.kp, b⟩
  · obtain ⟨R, a, c, rfl, _⟩ := h
    rfl
  · obtain ⟨R, a, c, rfl, pok, k⟩ := h
    have p1 := pok.p1
    have p2 := pok.p2
    have k0 := pok.k0
    have k4 := pok.k4
    have p0 : 0 < R.p := by omega
    refine ⟨_, (pss_cons (ps_set (i := 4) sc__law_plus.nd rfl (Or.inr rfl) (pe_c G__law_figures (hr.mono (by decide)) rfl (pa_cons (pv 0) (pa_cons (pv 1) (pa_cons (pv 2) pa_nil)))))
      (pss_cons (ps_set (i := 5) sc__law_plus.nd rfl (Or.inr rfl) (pe_c G__law_figures (hr.mono (by decide)) rfl (pa_cons (pv 0) (pa_cons (pv 1) (pa_cons (pv 3) pa_nil)))))
      (pss_one (ps_ret (pe_c G__law_number (hr.mono (by decide)) rfl (pa_cons (pv 0) (pa_cons (pe_lc (own := [("_law_i", 6)]) (g := gName 6) (tt := tYes) rfl sc__law_plus.nd (pi_range1 rfl T.range_ (pa_cons (pv 1) pa_nil)) (blkOk_by (own := [("_law_i", 6)]) (N := ["_law_p", "_law_k", "_law_one", "_law_other", "_law_first", "_law_second", "_law_i"]) (sc := defScope s__law_plus) (by decide +kernel)) (fun _ _ _ _ _ => pg_name (i := 6) sc__law_plus.nd rfl (Or.inl rfl)) (fun _ _ _ _ _ => pts_nil) (fun _ _ _ _ _ => (pe_op op_mod (pe_callTy call_int1 rfl T.int_ (by decide +kernel) (pa_cons (pe_op op_add (pe_ix (r := rIxL K) ix_list (pv 4) (pv 6) (fun _ _ => rfl)) (pe_ix (r := rIxL K) ix_list (pv 5) (pv 6) (fun _ _ => rfl))) pa_nil)) (pv 0)))) pa_nil))))))), ?_⟩
    refine ⟨_, rfl, _, rfl, _, rfl, R.p, R.lower.length, a, rfl, ⟨p0, p2⟩, by omega, fun A1 H1 s1 f1 e1 => ?_⟩
    refine ⟨_, rfl, _, rfl, _, rfl, R.p, R.lower.length, c, rfl, ⟨p0, p2⟩, by omega, fun B1 H2 s2 f2 e2 => ?_⟩
    refine ⟨_, rfl, _, rfl, (R.lower.length : Int), rfl, by omega, by omega, fun D hD => ?_⟩
    rw [Int.toNat_natCast]
    refine lcr (lo := 0) (n := R.lower.length) (fun i => V.int (((figs R.p R.lower.length a).getD i 0 + (figs R.p R.lower.length c).getD i 0) % R.p)) hD (by omega) ?_ ?_
    · intro i H3 Q3 hi s3 k3
      have ez : (0 : Int) + (i : Nat) = (i : Int) := Int.zero_add _
      have t3 := (s2.trans s3)
      refine ⟨rfl, _, rfl, _, rfl, A1, _, _, _, rfl, rfl, SqL.of (t3 _ _ e1), at_v ez (by rw [figs_len]; exact hi), _, rfl, _, rfl, B1, _, _, _, rfl, rfl, SqL.of (s3 _ _ e2), at_v ez (by rw [figs_len]; exact hi), _, _, rfl, rfl, .inl ⟨_, rfl, _, rfl, _, _, rfl, rfl, p0, ?_⟩⟩
      exact k3 H3 (Same.refl H3)
    intro H3 s3 h3
    have eL : (List.range R.lower.length).map (fun i => V.int (((figs R.p R.lower.length a).getD i 0 + (figs R.p R.lower.length c).getD i 0) % R.p)) = vints (toL R.k (red R.p (vadd (vn R.p R.k a) (vn R.p R.k c)))) := by
      simp only [toL, vints, List.map_map]
      rfl
    rw [eL] at h3
    have t3 := s1.trans (s2.trans s3)
    refine ⟨R.p, D, _, rfl, ⟨p0, p2⟩, SqL.of h3, by rw [toL_len]; show R.lower.length ≤ 100; omega, fun H4 s4 => ?_⟩
    exact k H4 (t3.trans s4)
end
end Msw
set_option maxRecDepth 100000
set_option maxHeartbeats 4000000
namespace Msw
open PySem L2 Msq
section
variable {P : Program} {w : World} {K : PySem.W.Frag} {mg : Str → Option Value} {base : Heap} {C fS fL : Addr}
theorem ordP_cons (P : Part) (Ps : List Part) : ordP (P :: Ps) = P.q * ordP Ps := rfl
theorem ok_F_split (T : Txt K mg C fS fL) (D : Mtd K C "split" "Family.split" s_F_split ["self", "point"]) : Hm P w K mg base C 1 "split" ["self", "point"] (sp_F_split C) := by
  obtain ⟨f, fd, F, g, b⟩ := D
  refine ⟨f, fd, F.ok sc_F_split (fun vs H Q E h => ?_) (fun cdv A outer s H vs Q E hr h => ?_), g, b⟩
  · obtain ⟨x, Ps, n, rfl, _⟩ := h
    rfl
  · obtain ⟨x, Ps, n, rfl, ⟨dx, fs, aS, h1, l1, h4⟩, ok, k⟩ := h
    have l8 := ok.len
    refine ⟨_, (pss_cons (ps_set (i := 2) sc_F_split.nd rfl (Or.inl rfl) (pe_lst pa_nil))
      (pss_cons (ps_for PassesOwn.never rfl (pi_tup (Mst.pe_revT (pe_fld (pv 0) rfl))) (pg_name (i := 3) sc_F_split.nd rfl (Or.inl rfl))
        (pss_cons (ps_expr (pe_bm PySem.F.plainAttrs_list PySem.F.slot_list_append PySem.F.type_list_append mt_append (pv 2) (pa_cons (pe_op op_mod (pv 1) (pv 3)) pa_nil)))
        (pss_one (ps_aug (i := 1) sc_F_split.nd rfl (Or.inl rfl) (pv 3) iop_fdiv))))
      (pss_one (ps_ret (pe_revL (pv 2)))))), ?_⟩
    refine ⟨by show 0 ≤ sizeLine; decide, fun b hb => ?_⟩
    have s1 : Same H _ := same_new (o := .lst []) hb
    refine ⟨_, rfl, x, C, dx, _, _, rfl, s1 _ _ h1, T.cl, T.n_sizes, l1, aS, _, rfl, SqT.of (s1 _ _ h4), fun r hr' => ?_⟩
    have s2 := s1.trans (same_new (o := .tup (vints (Ps.map (·.q))).reverse) hr')
    have nbr : b ≠ r := ne_of_none upd_same hr'
    have fb : H b = none := hb
    refine ⟨r, rfl, ⟨_, SqT.of upd_same⟩, ?_⟩
    have hL : (vints (Ps.map (·.q))).reverse.length = Ps.length := by simp
    refine ft (K := K) (a := r) (xs := (vints (Ps.map (·.q))).reverse) (fun i σ H' => ∃ (v3 : Option V), σ = [some (.ref x), some (.int (n / ordP (Ps.drop (Ps.length - i)))), some (.ref b), v3] ∧ Same H H' ∧ H' r = some (.tup (vints (Ps.map (·.q))).reverse) ∧ H' b = some (.lst (vints (splitP (Ps.drop (Ps.length - i)) n).reverse))) ⟨none, ?_, s2, upd_same, ?_⟩ (fun i σ H1 _ ⟨_, _, _, t1, _⟩ => SqT.of t1) ?_ ?_
    · rw [Nat.sub_zero, List.drop_length, ordP, Int.ediv_one]
      rfl
    · rw [Nat.sub_zero, List.drop_length, upd_ne nbr]
      exact upd_same
    · rintro i x0 σ H1 hx ⟨v3, rfl, t1, hr1, hb1⟩
      have hi : i < Ps.length := by have := (List.getElem?_eq_some_iff.mp hx).1; omega
      obtain ⟨P, hP⟩ := some_at (l := Ps) (n := Ps.length) (i := Ps.length - (i + 1)) rfl (by omega)
      have hx' : x0 = V.int P.q := by
        rw [List.getElem?_reverse (by simp; omega)] at hx
        simp only [List.length_map] at hx
        rw [show Ps.length - 1 - i = Ps.length - (i + 1) by omega, List.getElem?_map, List.getElem?_map, hP] at hx
        exact (Option.some.inj hx).symm
      subst hx'
      have hd : Ps.drop (Ps.length - (i + 1)) = P :: Ps.drop (Ps.length - i) := by
        rw [drop_at hP, show Ps.length - (i + 1) + 1 = Ps.length - i by omega]
      have pok := ok.at hP
      have q0 := (ok.fat hP).qpos
      have ql := pok.q
      refine ⟨_, rfl, .inl ⟨rfl, _, SqL.of hb1⟩, _, rfl, _, rfl, _, _, rfl, rfl, q0, b, _, _, rfl, rfl, hb1, sz_lt (by simp [split_len]; omega), ?_⟩
      refine ⟨_, rfl, _, rfl, _, _, rfl, rfl, ⟨q0, ql⟩, some (.int P.q), ?_, same_mut t1 fb, ?_, ?_⟩
      · have o0 : 0 < ordP (Ps.drop (Ps.length - i)) := ordP_pos fun R hR => ok.fld R (List.mem_of_mem_drop hR)
        rw [hd, ordP_cons, Int.mul_comm, ← Int.ediv_ediv_of_nonneg (by omega)]
        rfl
      · have nrb : r ≠ b := Ne.symm nbr
        rw [upd_ne nrb]
        exact hr1
      · rw [upd_same, hd, splitP, List.reverse_cons, vints_snoc]
    · rintro σ H1 ⟨v3, rfl, t1, hr1, hb1⟩
      rw [hL, Nat.sub_self, List.drop_zero] at hb1
      refine ⟨_, rfl, b, _, rfl, SqL.of hb1, fun p hp => ?_⟩
      have e : (vints (splitP Ps n).reverse).reverse = vints (splitP Ps n) := by simp [vints]
      rw [e]
      exact k p _ (t1.trans (same_new hp)) (t1.free hp) upd_same
end
end Msw
set_option maxRecDepth 100000
set_option maxHeartbeats 4000000
namespace Msw
open PySem L2 Msq
section
variable {P : Program} {w : World} {K : PySem.W.Frag} {mg : Str → Option Value} {base : Heap} {C fS fL : Addr}
theorem ok__law_split (T : Txt K mg C fS fL) (D : Dfn K mg "_law_split" s__law_split ["_law_parts", "_law_point"]) (G__law_size : Hs P w K mg base 1 "_law_size" ["_law_p", "_law_k"] sp__law_size) : Hs P w K mg base 2 "_law_split" ["_law_parts", "_law_point"] (sp__law_split K) := by
  obtain ⟨f, fd, F, g, b⟩ := D
  refine ⟨f, fd, F.ok sc__law_split (fun vs H Q E h => ?_) (fun cdv A outer s H vs Q E hr h => ?_), g, F.kp, b⟩
  · obtain ⟨a, ts, es, n, rfl, _⟩ := h
    rfl
  · obtain ⟨a, ts, es, n, rfl, ha, tu, eok, k⟩ := h
    have ok := eok.ps
    have l8 := eok.len
    have lPs : (prt es).length = es.length := by simp
    refine ⟨_, (pss_cons (ps_set (i := 2) sc__law_split.nd rfl (Or.inl rfl) (pe_lst pa_nil))
      (pss_cons (ps_for PassesOwn.never rfl (pi_list (pe_revL (pv 0))) (pg_tup rfl (pgs_cons (pg_name (i := 3) sc__law_split.nd rfl (Or.inl rfl)) (pgs_cons (pg_name (i := 4) sc__law_split.nd rfl (Or.inl rfl)) pgs_nil)))
        (pss_cons (ps_set (i := 5) sc__law_split.nd rfl (Or.inl rfl) (pe_c G__law_size (hr.mono (by decide)) rfl (pa_cons (pv 3) (pa_cons (pv 4) pa_nil))))
        (pss_cons (ps_expr (pe_bm PySem.F.plainAttrs_list PySem.F.slot_list_append PySem.F.type_list_append mt_append (pv 2) (pa_cons (pe_op op_mod (pe_callTy call_int1 rfl T.int_ (by decide +kernel) (pa_cons (pv 1) pa_nil)) (pv 5)) pa_nil)))
        (pss_one (ps_set (i := 1) sc__law_split.nd rfl (Or.inl rfl) (pe_op op_fdiv (pv 1) (pv 5)))))))
      (pss_one (ps_ret (pe_revL (pv 2)))))), ?_⟩
    refine ⟨by show 0 ≤ sizeLine; decide, fun b hb => ?_⟩
    have s1 : Same H _ := same_new (o := .lst []) hb
    refine ⟨_, rfl, a, _, rfl, s1.seq ha, fun r hr' => ?_⟩
    have s2 := s1.trans (same_new (o := .lst (vrefs ts).reverse) hr')
    have nbr : b ≠ r := ne_of_none upd_same hr'
    have fb : H b = none := hb
    refine ⟨r, rfl, ⟨_, SqL.of upd_same⟩, ?_⟩
    have hL : (vrefs ts).reverse.length = es.length := by simp [tu.1]
    refine fl (K := K) (a := r) (xs := (vrefs ts).reverse) (fun i σ H' => ∃ (v3 v4 v5 : Option V), σ = [some (.ref a), some (.int (n / ordP ((prt es).drop (es.length - i)))), some (.ref b), v3, v4, v5] ∧ Same H H' ∧ H' r = some (.lst (vrefs ts).reverse) ∧ H' b = some (.lst (vints (splitP ((prt es).drop (es.length - i)) n).reverse))) ⟨none, none, none, ?_, s2, upd_same, ?_⟩ (fun i σ H1 _ ⟨_, _, _, _, _, t1, _⟩ => SqL.of t1) ?_ ?_
    · rw [Nat.sub_zero, ← lPs, List.drop_length, ordP, Int.ediv_one]
      rfl
    · rw [Nat.sub_zero, ← lPs, List.drop_length, upd_ne nbr]
      exact upd_same
    · rintro i x0 σ H1 hx ⟨v3, v4, v5, rfl, t1, hr1, hb1⟩
      have hi : i < es.length := by have := (List.getElem?_eq_some_iff.mp hx).1; omega
      obtain ⟨t, e, ht, he, hH⟩ := tu.get (i := es.length - (i + 1)) (by omega)
      have hx' : x0 = V.ref t := by
        rw [List.getElem?_reverse (by simp [tu.1]; omega)] at hx
        simp only [List.length_map] at hx
        rw [tu.1, show es.length - 1 - i = es.length - (i + 1) by omega, List.getElem?_map, ht] at hx
        exact (Option.some.inj hx).symm
      subst hx'
      have h0 := eok.tab e (List.mem_of_getElem? he)
      have hbd := ent_bd h0
      have hP : (prt es)[es.length - (i + 1)]? = some e.P := by rw [List.getElem?_map, he]; rfl
      have hd : (prt es).drop (es.length - (i + 1)) = e.P :: (prt es).drop (es.length - i) := by
        rw [drop_at hP, show es.length - (i + 1) + 1 = es.length - i by omega]
      have pok := ok.at hP
      have q0 := (ok.fat hP).qpos
      have ql := pok.q
      rw [ent_q] at q0 ql
      refine ⟨t, _, rfl, SqT.of (t1 _ _ hH), rfl, _, _, rfl, _, _, rfl, rfl, ?_⟩
      refine ⟨_, rfl, _, rfl, e.p, e.k, rfl, hbd.1, hbd.2, fun H2 u2 => ?_⟩
      have t2 := t1.trans u2
      have hb2 := u2 _ _ hb1
      refine ⟨_, rfl, .inl ⟨rfl, _, SqL.of hb2⟩, _, rfl, .inl ⟨_, rfl, _, rfl, _, _, rfl, rfl, q0, b, _, _, rfl, rfl, hb2, sz_lt (by simp [split_len]; omega), ?_⟩⟩
      refine ⟨_, rfl, _, rfl, _, _, rfl, rfl, ⟨q0, ql⟩, some (.int e.p), some (.int e.k), some (.int ((e.p : Int) ^ e.k)), ?_, same_mut t2 fb, ?_, ?_⟩
      · have o0 : 0 < ordP ((prt es).drop (es.length - i)) := ordP_pos fun R hR => ok.fld R (List.mem_of_mem_drop hR)
        rw [hd, ordP_cons, Int.mul_comm, ← Int.ediv_ediv_of_nonneg (by omega), ent_q]
        rfl
      · have nrb : r ≠ b := Ne.symm nbr
        rw [upd_ne nrb]
        exact u2 _ _ hr1
      · rw [upd_same, hd, splitP, List.reverse_cons, vints_snoc, ent_q]
    · rintro σ H1 ⟨v3, v4, v5, rfl, t1, hr1, hb1⟩
      rw [hL, Nat.sub_self, List.drop_zero] at hb1
      refine ⟨_, rfl, b, _, rfl, SqL.of hb1, fun p hp => ?_⟩
      have e : (vints (splitP (prt es) n).reverse).reverse = vints (splitP (prt es) n) := by simp [vints]
      rw [e]
      exact k p _ (t1.trans (same_new hp)) (t1.free hp) upd_same
end
end Msw
set_option maxRecDepth 100000
set_option maxHeartbeats 4000000
namespace Msw
open PySem L2 Msq
section
variable {P : Program} {w : World} {K : PySem.W.Frag} {mg : Str → Option Value} {base : Heap} {C fS fL : Addr}
theorem ok__law_times (T : Txt K mg C fS fL) (D : Dfn K mg "_law_times" s__law_times ["_law_p", "_law_lower", "_law_one", "_law_other"]) (G__law_figures : Hs P w K mg base 1 "_law_figures" ["_law_p", "_law_k", "_law_number_here"] sp__law_figures) (G__law_number : Hs P w K mg base 1 "_law_number" ["_law_p", "_law_figures_here"] (sp__law_number K)) : Hs P w K mg base 2 "_law_times" ["_law_p", "_law_lower", "_law_one", "_law_other"] (sp__law_times K) := by
  obtain ⟨f, fd, F, g, b⟩ := D
  refine ⟨f, fd, F.ok sc__law_times (fun vs H Q E h => ?_) (fun cdv A outer s H vs Q E hr h => ?_), g, F.kp, b⟩
  · obtain ⟨R, b, a, c, rfl, _⟩ := h
    rfl
  · obtain ⟨R, b, a, c, rfl, pok, hb, k⟩ := h
    have p1 := pok.p1
    have p2 := pok.p2
    have k0 := pok.k0
    have k4 := pok.k4
    have dl := pok.dg
    have p0 : 0 < R.p := by omega
    refine ⟨_, (pss_cons (ps_set (i := 4) sc__law_times.nd rfl (Or.inl rfl) (pe_callB call_len_seq rfl T.len_ (by decide +kernel) (pa_cons (pv 1) pa_nil)))
      (pss_cons (ps_set (i := 5) sc__law_times.nd rfl (Or.inl rfl) (pe_c G__law_figures (hr.mono (by decide)) rfl (pa_cons (pv 0) (pa_cons (pv 4) (pa_cons (pv 2) pa_nil)))))
      (pss_cons (ps_set (i := 6) sc__law_times.nd rfl (Or.inl rfl) (pe_c G__law_figures (hr.mono (by decide)) rfl (pa_cons (pv 0) (pa_cons (pv 4) (pa_cons (pv 3) pa_nil)))))
      (pss_cons (ps_set (i := 7) sc__law_times.nd rfl (Or.inl rfl) (pe_op op_rep (pe_lst (pa_cons pe_int pa_nil)) (pe_op op_mul pe_int (pv 4))))
      (pss_cons (ps_for PassesOwn.never rfl (pi_range1 rfl T.range_ (pa_cons (pv 4) pa_nil)) (pg_name (i := 8) sc__law_times.nd rfl (Or.inl rfl))
        (pss_one (ps_for PassesOwn.never rfl (pi_range1 rfl T.range_ (pa_cons (pv 4) pa_nil)) (pg_name (i := 9) sc__law_times.nd rfl (Or.inl rfl))
          (pss_one (ps_asg (pe_op op_add (pe_ix (r := rIxL K) ix_list (pv 7) (pe_op op_add (pv 8) (pv 9)) (fun _ _ => rfl)) (pe_op op_mul (pe_ix (r := rIxL K) ix_list (pv 5) (pv 8) (fun _ _ => rfl)) (pe_ix (r := rIxL K) ix_list (pv 6) (pv 9) (fun _ _ => rfl)))) (pg_sub (pv 7) (pe_op op_add (pv 8) (pv 9)) set_list))))))
      (pss_cons (ps_for PassesOwn.never rfl (pi_range3 rfl T.range_ (pa_cons (pe_op op_sub (pe_op op_mul pe_int (pv 4)) pe_int) (pa_cons (pe_op op_sub (pv 4) pe_int) (pa_cons (pe_un un_neg pe_int) pa_nil)))) (pg_name (i := 10) sc__law_times.nd rfl (Or.inl rfl))
        (pss_cons (ps_set (i := 11) sc__law_times.nd rfl (Or.inl rfl) (pe_op op_mod (pe_callTy call_int1 rfl T.int_ (by decide +kernel) (pa_cons (pe_ix (r := rIxL K) ix_list (pv 7) (pv 10) (fun _ _ => rfl)) pa_nil)) (pv 0)))
        (pss_one (ps_for PassesOwn.never rfl (pi_range1 rfl T.range_ (pa_cons (pv 4) pa_nil)) (pg_name (i := 8) sc__law_times.nd rfl (Or.inl rfl))
          (pss_one (ps_asg (pe_op op_sub (pe_ix (r := rIxL K) ix_list (pv 7) (pe_op op_add (pe_op op_sub (pv 10) (pv 4)) (pv 8)) (fun _ _ => rfl)) (pe_op op_mul (pv 11) (pe_ix (r := rIxT K) ix_tup (pv 1) (pv 8) (fun _ _ => rfl)))) (pg_sub (pv 7) (pe_op op_add (pe_op op_sub (pv 10) (pv 4)) (pv 8)) set_list)))))))
      (pss_one (ps_ret (pe_c G__law_number (hr.mono (by decide)) rfl (pa_cons (pv 0) (pa_cons (pe_lc (own := [("_law_part", 12)]) (g := gName 12) (tt := tYes) rfl sc__law_times.nd (pi_list (pe_slice sl_list (pv 7) po_none (po_some (pv 4)))) (blkOk_by (own := [("_law_part", 12)]) (N := ["_law_p", "_law_lower", "_law_one", "_law_other", "_law_k", "_law_first", "_law_second", "_law_row_here", "_law_i", "_law_j", "_law_at", "_law_top", "_law_part"]) (sc := defScope s__law_times) (by decide +kernel)) (fun _ _ _ _ _ => pg_name (i := 12) sc__law_times.nd rfl (Or.inl rfl)) (fun _ _ _ _ _ => pts_nil) (fun _ _ _ _ _ => (pe_op op_mod (pe_callTy call_int1 rfl T.int_ (by decide +kernel) (pa_cons (pv 12) pa_nil)) (pv 0)))) pa_nil))))))))))), ?_⟩
    refine ⟨_, rfl, b, _, rfl, .inr hb, ?_⟩
    rw [vints_len]
    refine ⟨_, rfl, _, rfl, _, rfl, R.p, R.lower.length, a, rfl, ⟨p0, p2⟩, by omega, fun A1 H1 s1 f1 e1 => ?_⟩
    refine ⟨_, rfl, _, rfl, _, rfl, R.p, R.lower.length, c, rfl, ⟨p0, p2⟩, by omega, fun B1 H2 s2 f2 e2 => ?_⟩
    have s12 := s1.trans s2
    refine ⟨by show 1 ≤ sizeLine; decide, fun z hz => ?_⟩
    have s3 := s12.trans (same_new (o := .lst [.int 0]) hz)
    refine ⟨_, rfl, _, _, rfl, rfl, mul_okL (by decide) (by decide), z, _, _, rfl, rfl, upd_same, by omega, by omega, sz_of (by simp; omega), fun r hr' => ?_⟩
    have eN : (2 * (R.lower.length : Int)).toNat = 2 * R.lower.length := by omega
    rw [rep_flat, vints_rep, eN]
    have s4 := s3.trans (same_new (o := .lst (vints (List.replicate (2 * R.lower.length) 0))) hr')
    have frH : H r = none := s3.free hr'
    have eA : upd (upd H2 z (.lst [.int 0])) r (.lst (vints (List.replicate (2 * R.lower.length) 0))) A1 = some (.lst (vints (figs R.p R.lower.length a))) := (same_new hr') _ _ ((same_new hz) _ _ (s2 _ _ e1))
    have eB : upd (upd H2 z (.lst [.int 0])) r (.lst (vints (List.replicate (2 * R.lower.length) 0))) B1 = some (.lst (vints (figs R.p R.lower.length c))) := (same_new hr') _ _ ((same_new hz) _ _ e2)
    have eR : upd (upd H2 z (.lst [.int 0])) r (.lst (vints (List.replicate (2 * R.lower.length) 0))) r = some (.lst (vints (List.replicate (2 * R.lower.length) 0))) := upd_same
    have nrA : A1 ≠ r := fun q => by
      have := (same_new (o := .lst [.int 0]) hz) _ _ (s2 _ _ e1)
      rw [q, hr'] at this
      cases this
    have nrB : B1 ≠ r := fun q => by
      have := (same_new (o := .lst [.int 0]) hz) _ _ e2
      rw [q, hr'] at this
      cases this
    generalize upd (upd H2 z (.lst [.int 0])) r (.lst (vints (List.replicate (2 * R.lower.length) 0))) = H3 at *
    -- the product
    refine ⟨_, rfl, (R.lower.length : Int), rfl, by omega, by omega, ?_⟩
    rw [Int.toNat_natCast]
    refine fr (lo := 0) (n := R.lower.length) (fun i σ H' => ∃ (row : List Int) (v8 v9 : Option V), σ = [some (.int R.p), some (.ref b), some (.int a), some (.int c), some (.int (R.lower.length : Nat)), some (.ref A1), some (.ref B1), some (.ref r), v8, v9, none, none, none] ∧ Same H H' ∧ H' A1 = some (.lst (vints (figs R.p R.lower.length a))) ∧ H' B1 = some (.lst (vints (figs R.p R.lower.length c))) ∧ H' r = some (.lst (vints row)) ∧ row.length = 2 * R.lower.length ∧
      multFrom 0 (figs R.p R.lower.length c) ((figs R.p R.lower.length a).drop i) i row = multFrom 0 (figs R.p R.lower.length c) (figs R.p R.lower.length a) 0 (List.replicate (2 * R.lower.length) 0)) ⟨_, none, none, rfl, s4, eA, eB, eR, by simp, rfl⟩ ?_ ?_
    · rintro i σ H4 hi ⟨row, v8, v9, rfl, t4, hA, hB, hR, lr, er⟩
      have ez : (0 : Int) + (i : Nat) = (i : Int) := Int.zero_add _
      obtain ⟨ai, hai⟩ := some_at (l := figs R.p R.lower.length a) (figs_len _ _ _) hi
      have dA := figs_dg p0 R.lower.length a ai (List.mem_of_getElem? hai)
      rw [drop_at hai, multFrom] at er
      refine ⟨_, rfl, (R.lower.length : Int), rfl, by omega, by omega, ?_⟩
      rw [Int.toNat_natCast]
      refine fr (lo := 0) (n := R.lower.length) (fun j σ H' => ∃ (v9 : Option V), σ = [some (.int R.p), some (.ref b), some (.int a), some (.int c), some (.int (R.lower.length : Nat)), some (.ref A1), some (.ref B1), some (.ref r), some (.int (0 + (i : Nat))), v9, none, none, none] ∧ Same H H' ∧ H' A1 = some (.lst (vints (figs R.p R.lower.length a))) ∧ H' B1 = some (.lst (vints (figs R.p R.lower.length c))) ∧
        H' r = some (.lst (vints (updAt 0 ai ((figs R.p R.lower.length c).take j) i row)))) ⟨v9, rfl, t4, hA, hB, by rw [List.take_zero, updAt_zero]; exact hR⟩ ?_ ?_
      · rintro j σ H5 hj ⟨v9, rfl, t5, hA5, hB5, hR5⟩
        have ez2 : (0 : Int) + (j : Nat) = (j : Int) := Int.zero_add _
        have eix : (0 : Int) + (i : Nat) + (0 + (j : Nat)) = ((i + j : Nat) : Int) := by omega
        have hlen : (updAt 0 ai ((figs R.p R.lower.length c).take j) i row).length = row.length := updAt_len _ _ _ _ _
        have hj' : j < (figs R.p R.lower.length c).length := by rw [figs_len]; exact hj
        refine ⟨_, rfl, _, rfl, _, rfl, _, _, rfl, rfl, r, _, _, _, rfl, rfl, SqL.of hR5, at_v eix (by omega), _, rfl, _, rfl, A1, _, _, _, rfl, rfl, SqL.of hA5, at_v ez (by rw [figs_len]; exact hi), _, rfl, _, rfl, B1, _, _, _, rfl, rfl, SqL.of hB5, at_v ez2 hj', _, _, rfl, rfl, ?_⟩
        rw [getD_at hai]
        refine ⟨mul_okL dA.1 (by omega), _, _, rfl, rfl, ?_⟩
        refine ⟨_, rfl, _, rfl, _, rfl, _, _, rfl, rfl, r, _, _, i + j, rfl, rfl, hR5, ix_v eix (by rw [vints_len]; omega), ?_⟩
        refine ⟨_, rfl, same_mut t5 frH, by rw [upd_ne nrA]; exact hA5, by rw [upd_ne nrB]; exact hB5, ?_⟩
        rw [upd_same, vints_set]
        have eu := updAt_take 0 ai i (figs R.p R.lower.length c) row j hj' (by rw [figs_len]; omega)
        rw [Int.emod_zero] at eu
        rw [← eu]
      · rintro σ H5 ⟨v9, rfl, t5, hA5, hB5, hR5⟩
        have et : (figs R.p R.lower.length c).take R.lower.length = figs R.p R.lower.length c := List.take_of_length_le (by rw [figs_len]; omega)
        rw [et] at hR5
        exact ⟨_, _, _, rfl, t5, hA5, hB5, hR5, by rw [updAt_len]; exact lr, er⟩
    rintro σ H4 ⟨row, v8, v9, rfl, t4, hA, hB, hR, lr, er⟩
    have edr : (figs R.p R.lower.length a).drop R.lower.length = [] := List.drop_eq_nil_of_le (by rw [figs_len]; omega)
    rw [edr, multFrom] at er
    -- the remainder
    refine ⟨_, rfl, _, _, rfl, rfl, mul_okL (by decide) (by decide), _, _, rfl, rfl, _, rfl, _, _, rfl, rfl, _, rfl, _, _, _, _, rfl, RgC.neg (by omega) (by omega) (by omega) (by omega), ?_⟩
    have en : ((2 * (R.lower.length : Int) - 1) - ((R.lower.length : Int) - 1)).toNat = R.lower.length := by omega
    rw [en]
    refine frc (lo := 2 * (R.lower.length : Int) - 1) (c := -1) (n := R.lower.length) (fun i σ H' => ∃ (rw2 : List Int) (v8 v9 v10 v11 : Option V), σ = [some (.int R.p), some (.ref b), some (.int a), some (.int c), some (.int (R.lower.length : Nat)), some (.ref A1), some (.ref B1), some (.ref r), v8, v9, v10, v11, none] ∧ Same H H' ∧ H' r = some (.lst (vints rw2)) ∧ rw2.length = 2 * R.lower.length ∧
      lrem R.p R.lower (R.lower.length - i) rw2 = lrem R.p R.lower R.lower.length row) ⟨row, v8, v9, none, none, rfl, t4, hR, lr, rfl⟩ ?_ ?_
    · rintro i σ H5 hi ⟨rw2, v8, v9, v10, v11, rfl, t5, h5, l5, e5⟩
      obtain ⟨m, hm⟩ : ∃ m, R.lower.length - i = m + 1 := ⟨R.lower.length - i - 1, by omega⟩
      rw [hm, lrem] at e5
      have eat : 2 * (R.lower.length : Int) - 1 + (i : Nat) * (-1) = ((R.lower.length + m : Nat) : Int) := by omega
      refine ⟨_, rfl, _, rfl, r, _, _, _, rfl, rfl, SqL.of h5, at_v eat (by omega), .inl ⟨_, rfl, _, rfl, _, _, rfl, rfl, p0, ?_⟩⟩
      have dt : 0 ≤ rw2.getD (R.lower.length + m) 0 % R.p ∧ rw2.getD (R.lower.length + m) 0 % R.p < R.p := ⟨Int.emod_nonneg _ (by omega), Int.emod_lt_of_pos _ p0⟩
      refine ⟨_, rfl, (R.lower.length : Int), rfl, by omega, by omega, ?_⟩
      rw [Int.toNat_natCast]
      refine fr (lo := 0) (n := R.lower.length) (fun j σ H' => ∃ (v8 : Option V), σ = [some (.int R.p), some (.ref b), some (.int a), some (.int c), some (.int (R.lower.length : Nat)), some (.ref A1), some (.ref B1), some (.ref r), v8, v9, some (.int (2 * (R.lower.length : Int) - 1 + (i : Nat) * (-1))), some (.int (rw2.getD (R.lower.length + m) 0 % R.p)), none] ∧ Same H H' ∧
        H' r = some (.lst (vints (updAt 0 (-(rw2.getD (R.lower.length + m) 0 % R.p)) (R.lower.take j) m rw2)))) ⟨v8, rfl, t5, by rw [List.take_zero, updAt_zero]; exact h5⟩ ?_ ?_
      · rintro j σ H6 hj ⟨v8, rfl, t6, h6⟩
        have ez2 : (0 : Int) + (j : Nat) = (j : Int) := Int.zero_add _
        have eix : 2 * (R.lower.length : Int) - 1 + (i : Nat) * (-1) - (R.lower.length : Nat) + (0 + (j : Nat)) = ((m + j : Nat) : Int) := by omega
        have hlen : (updAt 0 (-(rw2.getD (R.lower.length + m) 0 % R.p)) (R.lower.take j) m rw2).length = rw2.length := updAt_len _ _ _ _ _
        refine ⟨_, rfl, _, rfl, _, rfl, _, _, rfl, rfl, _, rfl, _, _, rfl, rfl, r, _, _, _, rfl, rfl, SqL.of h6, at_v eix (by omega), _, rfl, _, rfl, _, rfl, b, _, _, _, rfl, rfl, Same.sqt t6 hb, at_v ez2 hj, _, _, rfl, rfl, mul_okL dt.1 (by omega), _, _, rfl, rfl, ?_⟩
        refine ⟨_, rfl, _, rfl, _, rfl, _, _, rfl, rfl, _, rfl, _, _, rfl, rfl, r, _, _, m + j, rfl, rfl, h6, ix_v eix (by rw [vints_len]; omega), ?_⟩
        refine ⟨_, rfl, same_mut t6 frH, ?_⟩
        rw [upd_same, vints_set]
        have eu := updAt_take 0 (-(rw2.getD (R.lower.length + m) 0 % R.p)) m R.lower rw2 j hj (by omega)
        rw [Int.emod_zero, Int.neg_mul, ← Int.sub_eq_add_neg] at eu
        rw [← eu]
      · rintro σ H6 ⟨v8, rfl, t6, h6⟩
        rw [List.take_length] at h6
        refine ⟨_, _, _, _, _, rfl, t6, h6, by rw [updAt_len]; exact l5, ?_⟩
        rw [← e5]
        congr 1
        omega
    rintro σ H5 ⟨rw2, v8, v9, v10, v11, rfl, t5, h5, l5, e5⟩
    rw [Nat.sub_self, lrem, er] at e5
    refine ⟨_, rfl, _, rfl, _, rfl, _, rfl, r, _, rfl, SqL.of h5, fun u hu => ?_⟩
    rw [cut_to, vints_take]
    have t6 := t5.trans (same_new (o := .lst (vints (rw2.take R.lower.length))) hu)
    refine ⟨u, rfl, ⟨_, SqL.of upd_same⟩, fun D hD => ?_⟩
    refine lcl (K := K) (a := u) (xs := vints (rw2.take R.lower.length)) (fun i => V.int (((rw2.take R.lower.length).map (· % R.p)).getD i 0)) (SqL.of upd_same) hD (by simp; omega) ?_ ?_
    · intro i x H6 Q6 hx s6 k6
      obtain ⟨hi, rfl⟩ := vints_get' hx
      refine ⟨rfl, _, rfl, .inl ⟨_, rfl, _, rfl, _, _, rfl, rfl, p0, ?_⟩⟩
      have := k6 H6 (Same.refl H6)
      rw [map_getD (· % R.p) hi] at this
      exact this
    intro H6 s6 h6
    rw [vints_range (by simp), e5] at h6
    have t7 := t6.trans s6
    have lF : (((lrem R.p R.lower R.lower.length (multFrom 0 (figs R.p R.lower.length c) (figs R.p R.lower.length a) 0 (List.replicate (2 * R.lower.length) 0))).take R.lower.length).map (· % R.p)).length ≤ 100 := by
      rw [List.length_map, List.length_take]
      omega
    refine ⟨R.p, D, _, rfl, ⟨p0, p2⟩, SqL.of h6, lF, fun H7 s7 => ?_⟩
    rw [show num R.p (((lrem R.p R.lower R.lower.length (multFrom 0 (figs R.p R.lower.length c) (figs R.p R.lower.length a) 0 (List.replicate (2 * R.lower.length) 0))).take R.lower.length).map (· % R.p)) = fmul R a c from ltimes_is p1 k0 a c]
    exact k H7 (t7.trans s7)
end
end Msw
set_option maxRecDepth 100000
set_option maxHeartbeats 4000000
namespace Msw
open PySem L2 Msq
section
variable {P : Program} {w : World} {K : PySem.W.Frag} {mg : Str → Option Value} {base : Heap} {C fS fL : Addr}
theorem ok__law_has (T : Txt K mg C fS fL) (D : Dfn K mg "_law_has" s__law_has ["_law_parts", "_law_lowers", "_law_kind", "_law_row_here", "_law_column"]) (G__law_joined : Hs P w K mg base 2 "_law_joined" ["_law_parts", "_law_figures_here"] (sp__law_joined K)) (G__law_plus : Hs P w K mg base 2 "_law_plus" ["_law_p", "_law_k", "_law_one", "_law_other"] sp__law_plus) (G__law_split : Hs P w K mg base 2 "_law_split" ["_law_parts", "_law_point"] (sp__law_split K)) (G__law_times : Hs P w K mg base 2 "_law_times" ["_law_p", "_law_lower", "_law_one", "_law_other"] (sp__law_times K)) : Hs P w K mg base 3 "_law_has" ["_law_parts", "_law_lowers", "_law_kind", "_law_row_here", "_law_column"] (sp__law_has K) := by
  obtain ⟨f, fd, F, g, b⟩ := D
  refine ⟨f, fd, F.ok sc__law_has (fun vs H Q E h => ?_) (fun cdv A outer s H vs Q E hr h => ?_), g, F.kp, b⟩
  · obtain ⟨a, ts, es, b, tl, j, r, c, rfl, _⟩ := h
    rfl
  · obtain ⟨a, ts, es, b, tl, j, r, c, rfl, ha, tu, eok, hb, tw, k⟩ := h
    have ok := eok.ps
    have l8 := eok.len
    have lPs : (prt es).length = es.length := by simp
    refine ⟨_, (pss_cons (ps_if (pt_cmpR op_eq (pv 2) (pe_un un_neg pe_int) (nomark _)) (pss_one (ps_ret (pv 4))) pss_nil)
      (pss_cons (ps_set (i := 5) sc__law_has.nd rfl (Or.inl rfl) (pe_c G__law_split (hr.mono (by decide)) rfl (pa_cons (pv 0) (pa_cons (pv 3) pa_nil))))
      (pss_cons (ps_set (i := 6) sc__law_has.nd rfl (Or.inl rfl) (pe_c G__law_split (hr.mono (by decide)) rfl (pa_cons (pv 0) (pa_cons (pv 4) pa_nil))))
      (pss_cons (ps_set (i := 7) sc__law_has.nd rfl (Or.inl rfl) (pe_lst pa_nil))
      (pss_cons (ps_for PassesOwn.never rfl (pi_range1 rfl T.range_ (pa_cons (pe_callB call_len_seq rfl T.len_ (by decide +kernel) (pa_cons (pv 0) pa_nil)) pa_nil)) (pg_name (i := 8) sc__law_has.nd rfl (Or.inl rfl))
        (pss_cons (ps_asg (pe_ix (r := rIxL K) ix_list (pv 0) (pv 8) (fun _ _ => rfl)) (pg_tup rfl (pgs_cons (pg_name (i := 9) sc__law_has.nd rfl (Or.inl rfl)) (pgs_cons (pg_name (i := 10) sc__law_has.nd rfl (Or.inl rfl)) pgs_nil))))
        (pss_one (ps_expr (pe_bm PySem.F.plainAttrs_list PySem.F.slot_list_append PySem.F.type_list_append mt_append (pv 7) (pa_cons (pe_c G__law_plus (hr.mono (by decide)) rfl (pa_cons (pv 9) (pa_cons (pv 10) (pa_cons (pe_ix (r := rIxL K) ix_list (pv 5) (pv 8) (fun _ _ => rfl)) (pa_cons (pe_c G__law_times (hr.mono (by decide)) rfl (pa_cons (pv 9) (pa_cons (pe_ix (r := rIxL K) ix_list (pv 1) (pv 8) (fun _ _ => rfl)) (pa_cons (pv 2) (pa_cons (pe_ix (r := rIxL K) ix_list (pv 6) (pv 8) (fun _ _ => rfl)) pa_nil))))) pa_nil))))) pa_nil))))))
      (pss_one (ps_ret (pe_c G__law_joined (hr.mono (by decide)) rfl (pa_cons (pv 0) (pa_cons (pv 7) pa_nil)))))))))), ?_⟩
    refine ⟨_, rfl, _, rfl, rfl, _, rfl, ?_⟩
    by_cases hj : j = -1
    · have e1 : decide (V.int j = V.int (-1)) = true := decide_eq_true (by rw [hj])
      show if decide (V.int j = V.int (-1)) = true then _ else _
      rw [e1]
      rw [hasP, if_pos hj] at k
      refine iteT ⟨_, rfl, ?_⟩
      exact k H (Same.refl H)
    have e1 : decide (V.int j = V.int (-1)) = false := decide_eq_false (fun q => hj (V.int.inj q))
    show if decide (V.int j = V.int (-1)) = true then _ else _
    rw [e1]
    rw [hasP, if_neg hj] at k
    refine iteF ?_
    refine ⟨_, rfl, _, rfl, a, ts, es, r, rfl, ha, tu, eok, fun A1 H1 s1 f1 e1 => ?_⟩
    refine ⟨_, rfl, _, rfl, a, ts, es, c, rfl, s1.seq ha, tu.up s1, eok, fun B1 H2 s2 f2 e2 => ?_⟩
    have s12 := s1.trans s2
    refine ⟨by show 0 ≤ sizeLine; decide, fun z hz => ?_⟩
    have s3 := s12.trans (same_new (o := .lst []) hz)
    have fz0 : H z = none := s12.free hz
    have eA : upd H2 z (.lst []) A1 = some (.lst (vints (splitP (prt es) r))) := (same_new hz) _ _ (s2 _ _ e1)
    have eB : upd H2 z (.lst []) B1 = some (.lst (vints (splitP (prt es) c))) := (same_new hz) _ _ e2
    have eZ : upd H2 z (.lst []) z = some (.lst []) := upd_same
    have nzA : A1 ≠ z := fun q => by
      have := s2 _ _ e1
      rw [q, hz] at this
      cases this
    have nzB : B1 ≠ z := fun q => by
      rw [q, hz] at e2
      cases e2
    generalize upd H2 z (.lst []) = H3 at *
    refine ⟨_, rfl, a, _, rfl, .inl (s3.seq ha), _, rfl, ?_⟩
    have eL : (vrefs ts).length = es.length := by simp [tu.1]
    rw [eL]
    refine ⟨by omega, by omega, ?_⟩
    rw [Int.toNat_natCast]
    have eSr := split_els ok.fld r
    have eSc := split_els ok.fld c
    refine fr (lo := 0) (n := es.length) (fun i σ H' => ∃ (acc : List Int) (v8 v9 v10 : Option V), σ = [some (.ref a), some (.ref b), some (.int j), some (.int r), some (.int c), some (.ref A1), some (.ref B1), some (.ref z), v8, v9, v10] ∧ Same H H' ∧ H' A1 = some (.lst (vints (splitP (prt es) r))) ∧ H' B1 = some (.lst (vints (splitP (prt es) c))) ∧ H' z = some (.lst (vints acc)) ∧ acc.length = i ∧ acc ++ cmb fsum j ((prt es).drop i) ((splitP (prt es) r).drop i) ((splitP (prt es) c).drop i) = cmb fsum j (prt es) (splitP (prt es) r) (splitP (prt es) c)) ⟨[], none, none, none, rfl, s3, eA, eB, eZ, rfl, rfl⟩ ?_ ?_
    · rintro i σ H4 hi ⟨acc, v8, v9, v10, rfl, t4, hA, hB, hZ, la, ea⟩
      have ez : (0 : Int) + (i : Nat) = (i : Int) := Int.zero_add _
      obtain ⟨t, e, ht, he, hH⟩ := tu.get hi
      have h0 := eok.tab e (List.mem_of_getElem? he)
      have hP : (prt es)[i]? = some e.P := by rw [List.getElem?_map, he]; rfl
      have pok := ok.at hP
      obtain ⟨lo, hlo⟩ := some_at (l := tl) (n := es.length) (by rw [tw.1, lPs]) hi
      obtain ⟨d, hd⟩ := some_at (l := splitP (prt es) r) (n := es.length) (by rw [split_len, lPs]) hi
      obtain ⟨u, hu⟩ := some_at (l := splitP (prt es) c) (n := es.length) (by rw [split_len, lPs]) hi
      have hlH := tw.2 i lo e.P hlo hP
      refine ⟨_, rfl, _, rfl, a, _, _, _, rfl, rfl, t4.seq ha, at_of ez (by rw [List.getElem?_map, ht]; rfl), t, _, rfl, SqT.of (t4 _ _ hH), rfl, _, _, rfl, _, _, rfl, rfl, ?_⟩
      refine ⟨_, rfl, .inl ⟨rfl, _, SqL.of hZ⟩, _, rfl, _, rfl, _, rfl, _, rfl, A1, _, _, _, rfl, rfl, SqL.of hA, at_of ez (by rw [List.getElem?_map, hd]; rfl), ?_⟩
      refine ⟨_, rfl, _, rfl, _, rfl, b, _, _, _, rfl, rfl, t4.seq hb, at_of ez (by rw [List.getElem?_map, hlo]; rfl), _, rfl, _, rfl, _, rfl, B1, _, _, _, rfl, rfl, SqL.of hB, at_of ez (by rw [List.getElem?_map, hu]; rfl), e.P, lo, j, u, rfl, pok, SqT.of (t4 _ _ hlH), fun H5 s5 => ?_⟩
      refine ⟨e.P, d, fmul e.P j u, ?_, pok, fun H6 s6 => ?_⟩
      · rw [ent_len]
        rfl
      have s56 := s5.trans s6
      have hZ6 := s56 _ _ hZ
      refine ⟨z, _, _, rfl, rfl, hZ6, sz_lt (by simp; omega), acc ++ [fsum e.P d (fmul e.P j u)], some (.int (0 + (i : Nat))), some (.int e.p), some (.int e.k), rfl, same_mut (t4.trans s56) fz0, by rw [upd_ne nzA]; exact s56 _ _ hA, by rw [upd_ne nzB]; exact s56 _ _ hB, by rw [upd_same, vints_snoc], by simp [la], ?_⟩
      rw [← ea, drop_at hP, drop_at hd, drop_at hu, cmb, List.append_assoc]
      rfl
    · rintro σ H4 ⟨acc, v8, v9, v10, rfl, t4, hA, hB, hZ, la, ea⟩
      have ez : cmb fsum j ((prt es).drop es.length) ((splitP (prt es) r).drop es.length) ((splitP (prt es) c).drop es.length) = [] := by
        rw [← lPs, List.drop_length]
        simp [cmb]
      rw [ez, List.append_nil] at ea
      refine ⟨_, rfl, _, rfl, a, ts, es, z, acc, rfl, t4.seq ha, tu.up t4, eok, SqL.of hZ, la, fun H5 s5 => ?_⟩
      rw [ea]
      exact k H5 (t4.trans s5)
end
end Msw
set_option maxRecDepth 100000
set_option maxHeartbeats 4000000
namespace Msw
open PySem L2 Msq
section
variable {P : Program} {w : World} {K : PySem.W.Frag} {mg : Str → Option Value} {base : Heap} {C fS fL : Addr}
theorem ok__law_many (T : Txt K mg C fS fL) (D : Dfn K mg "_law_many" s__law_many ["_law_parts"]) (G__law_size : Hs P w K mg base 1 "_law_size" ["_law_p", "_law_k"] sp__law_size) : Hs P w K mg base 2 "_law_many" ["_law_parts"] (sp__law_many K) := by
  obtain ⟨f, fd, F, g, b⟩ := D
  refine ⟨f, fd, F.ok sc__law_many (fun vs H Q E h => ?_) (fun cdv A outer s H vs Q E hr h => ?_), g, F.kp, b⟩
  · obtain ⟨a, ts, es, rfl, _⟩ := h
    rfl
  · obtain ⟨a, ts, es, rfl, ha, tu, ok, k⟩ := h
    have l8 := ok.len
    refine ⟨_, (pss_one (ps_ret (pe_op op_sub (pe_callB (cr_min rfl) rfl T.min_ (by decide +kernel) (pa_cons (pe_lc (own := [("_law_p", 1), ("_law_k", 2)]) (g := (gTup K 2 (gCons (gName 1) (gCons (gName 2) gNil)))) (tt := tYes) rfl sc__law_many.nd (pi_list (pv 0)) (blkOk_by (own := [("_law_p", 1), ("_law_k", 2)]) (N := ["_law_parts", "_law_p", "_law_k"]) (sc := defScope s__law_many) (by decide +kernel)) (fun _ _ _ _ _ => pg_tup rfl (pgs_cons (pg_name (i := 1) sc__law_many.nd rfl (Or.inl rfl)) (pgs_cons (pg_name (i := 2) sc__law_many.nd rfl (Or.inl rfl)) pgs_nil))) (fun _ _ _ _ _ => pts_nil) (fun _ _ _ _ _ => (pe_c G__law_size (hr.mono (by decide)) rfl (pa_cons (pv 1) (pa_cons (pv 2) pa_nil))))) pa_nil)) pe_int))), ?_⟩
    refine ⟨_, rfl, a, rfl, ⟨_, ha⟩, fun D hD => ?_⟩
    refine lcl (K := K) (a := a) (xs := vrefs ts) (fun i => V.int (((prt es).map (·.q)).getD i 0)) ha hD (by simp; rw [tu.1]; omega) ?_ ?_
    · intro i x H1 Q1 hx t1 k1
      obtain ⟨t, ht, rfl⟩ := vrefs_get hx
      have hi : i < es.length := by have := (List.getElem?_eq_some_iff.mp ht).1; rw [tu.1] at this; exact this
      obtain ⟨t', e, ht', he, hH⟩ := tu.get hi
      obtain rfl : t' = t := Option.some.inj (ht'.symm.trans ht)
      have h0 := ok.tab e (List.mem_of_getElem? he)
      have hb := ent_bd h0
      refine ⟨t', _, rfl, SqT.of (t1 _ _ hH), rfl, _, _, rfl, _, _, rfl, rfl, rfl, _, rfl, _, rfl, e.p, e.k, rfl, hb.1, hb.2, fun H2 s2 => ?_⟩
      have := k1 H2 s2
      rw [getD_at (x := e.P.q) (by rw [List.getElem?_map, List.getElem?_map, he]; rfl), ent_q] at this
      exact this
    intro H1 s1 h1
    rw [vints_range (by simp [tu.1])] at h1
    refine ⟨D, (prt es).map (·.q), rfl, SqL.of h1, by simp; exact List.length_pos_iff.mpr ok.ne, fun m hm1 hm2 => ?_⟩
    have em : m = minq (prt es) := minq_is hm1 hm2
    subst em
    refine ⟨_, _, rfl, rfl, ?_⟩
    exact k H1 s1
end
end Msw
set_option maxRecDepth 100000
set_option maxHeartbeats 4000000
namespace Msw
open PySem L2 Msq
section
variable {P : Program} {w : World} {K : PySem.W.Frag} {mg : Str → Option Value} {base : Heap} {C fS fL : Addr}
theorem ok__law_row (T : Txt K mg C fS fL) (D : Dfn K mg "_law_row" s__law_row ["_law_cell", "_law_many_here"]) : Hs P w K mg base 1 "_law_row" ["_law_cell", "_law_many_here"] sp__law_row := by
  obtain ⟨f, fd, F, g, b⟩ := D
  refine ⟨f, fd, F.ok sc__law_row (fun vs H Q E h => ?_) (fun cdv A outer s H vs Q E hr h => ?_), g, F.kp, b⟩
  · obtain ⟨c, m, rfl, _⟩ := h
    rfl
  · obtain ⟨c, m, rfl, hm, k⟩ := h
    refine ⟨_, (pss_cons (ps_set (i := 2) sc__law_row.nd rfl (Or.inl rfl) (pe_lst pa_nil))
      (pss_cons (ps_set (i := 3) sc__law_row.nd rfl (Or.inl rfl) (pe_callB call_abs rfl T.abs_ (by decide +kernel) (pa_cons (pv 0) pa_nil)))
      (pss_cons (ps_set (i := 4) sc__law_row.nd rfl (Or.inl rfl) (pe_op op_mod (pe_callTy call_int1 rfl T.int_ (by decide +kernel) (pa_cons (pe_op op_add (pe_op op_mul (pv 3) pe_int) pe_int) pa_nil)) pe_int))
      (pss_cons (ps_for PassesOwn.never rfl (pi_range1 rfl T.range_ (pa_cons (pv 1) pa_nil)) (pg_name (i := 5) sc__law_row.nd rfl (Or.inl rfl))
        (pss_cons (ps_set (i := 4) sc__law_row.nd rfl (Or.inl rfl) (pe_op op_mod (pe_callTy call_int1 rfl T.int_ (by decide +kernel) (pa_cons (pe_op op_add (pe_op op_mul (pv 4) pe_int) (pe_op op_mul pe_int (pe_op op_add (pv 5) pe_int))) pa_nil)) pe_int))
        (pss_one (ps_if (pt_cmpR op_ge (pe_callB call_abs rfl T.abs_ (by decide +kernel) (pa_cons (pv 0) pa_nil)) (pe_op op_pow pe_int pe_int) (nomark _)) (pss_cons (ps_expr (pe_bm PySem.F.plainAttrs_list PySem.F.slot_list_append PySem.F.type_list_append mt_append (pv 2) (pa_cons (pe_op op_mod (pe_callTy call_int1 rfl T.int_ (by decide +kernel) (pa_cons (pv 3) pa_nil)) pe_int) pa_nil)))
          (pss_one (ps_set (i := 3) sc__law_row.nd rfl (Or.inl rfl) (pe_op op_fdiv (pv 3) pe_int)))) (pss_one (ps_expr (pe_bm PySem.F.plainAttrs_list PySem.F.slot_list_append PySem.F.type_list_append mt_append (pv 2) (pa_cons (pe_op op_mod (pe_callTy call_int1 rfl T.int_ (by decide +kernel) (pa_cons (pe_op op_fdiv (pv 4) pe_int) pa_nil)) pe_int) pa_nil))))))))
      (pss_one (ps_ret (pv 2))))))), ?_⟩
    refine ⟨by show 0 ≤ sizeLine; decide, fun a ha => ?_⟩
    have s1 : Same H _ := same_new (o := .lst []) ha
    refine ⟨_, rfl, _, rfl, _, rfl, _, _, rfl, rfl, mul_ok (by decide) (by decide), _, _, rfl, rfl, .inl ⟨_, rfl, _, _, rfl, rfl, (show (0 : Int) < 2147483647 by decide), ?_⟩⟩
    refine ⟨_, rfl, (m : Int), rfl, by omega, by omega, ?_⟩
    rw [Int.toNat_natCast]
    refine fr (lo := 0) (n := m) (fun i σ H' => ∃ (ns : List Int) (r x : Int) (v5 : Option V), σ = [some (.int c), some (.int m), some (.ref a), some (.int r), some (.int x), v5] ∧ Same H H' ∧ H' a = some (.lst (vints ns)) ∧ ns.length = i ∧ Drn ns) ⟨[], _, _, none, rfl, s1, upd_same, rfl, fun n hn => by simp at hn⟩ ?_ ?_
    · rintro i σ H1 hi ⟨ns, r, x, v5, rfl, t1, h1, hl, hd⟩
      refine ⟨_, rfl, _, _, rfl, rfl, mul_ok (by decide) (by decide), _, rfl, _, _, rfl, rfl, _, _, rfl, rfl, mul_okL (by decide) (by decide), _, _, rfl, rfl, .inl ⟨_, rfl, _, _, rfl, rfl, (show (0 : Int) < 2147483629 by decide), ?_⟩⟩
      have dn : ∀ y : Int, Drn (ns ++ [y % 1009]) := fun y n hn => by
        rcases List.mem_append.mp hn with h | h
        · exact hd n h
        · have : n = y % 1009 := by simpa using h
          omega
      refine ⟨_, rfl, _, rfl, _, _, rfl, rfl, ⟨by decide, by decide, by decide⟩, _, _, rfl, rfl, _, rfl, ?_⟩
      refine ite2 (fun h0 => ?_) (fun h0 => ?_)
      · refine ⟨_, rfl, .inl ⟨rfl, _, SqL.of h1⟩, _, rfl, .inl ⟨_, rfl, _, _, rfl, rfl, (show (0 : Int) < 1009 by decide), a, _, _, rfl, rfl, h1, sz_lt (by simp; omega), ?_⟩⟩
        refine ⟨_, rfl, _, _, rfl, rfl, div_ok (by decide) (by decide), ns ++ [r % 1009], _, _, _, rfl, same_mut t1 ha, by rw [upd_same, vints_snoc], by simp [hl], dn r⟩
      · refine ⟨_, rfl, .inl ⟨rfl, _, SqL.of h1⟩, _, rfl, _, _, rfl, rfl, div_ok (by decide) (by decide), .inl ⟨_, rfl, _, _, rfl, rfl, (show (0 : Int) < 1009 by decide), a, _, _, rfl, rfl, h1, sz_lt (by simp; omega), ?_⟩⟩
        exact ⟨ns ++ [_ % 1009], _, _, _, rfl, same_mut t1 ha, by rw [upd_same, vints_snoc], by simp [hl], dn _⟩
    · rintro σ H1 ⟨ns, r, x, v5, rfl, t1, h1, hl, hd⟩
      exact ⟨_, rfl, k ns hl hd a H1 t1 ha h1⟩
end
end Msw
set_option maxRecDepth 100000
set_option maxHeartbeats 4000000
namespace Msw
open PySem L2 Msq
section
variable {P : Program} {w : World} {K : PySem.W.Frag} {mg : Str → Option Value} {base : Heap} {C fS fL : Addr}
theorem ok__law_numbers (T : Txt K mg C fS fL) (D : Dfn K mg "_law_numbers" s__law_numbers ["_law_script", "_law_many_here"]) (G__law_row : Hs P w K mg base 1 "_law_row" ["_law_cell", "_law_many_here"] sp__law_row) : Hs P w K mg base 2 "_law_numbers" ["_law_script", "_law_many_here"] (sp__law_numbers K) := by
  obtain ⟨f, fd, F, g, b⟩ := D
  refine ⟨f, fd, F.ok sc__law_numbers (fun vs H Q E h => ?_) (fun cdv A outer s H vs Q E hr h => ?_), g, F.kp, b⟩
  · obtain ⟨a, cs, rfl, _⟩ := h
    rfl
  · obtain ⟨a, cs, rfl, ha, hc, k⟩ := h
    refine ⟨_, (pss_cons (ps_set (i := 2) sc__law_numbers.nd rfl (Or.inl rfl) (pe_slice sl_list (pv 0) po_none (po_some pe_int)))
      (pss_cons (ps_set (i := 3) sc__law_numbers.nd rfl (Or.inl rfl) (pe_op op_add pe_int (pe_op op_fdiv (pv 1) (pe_callB (call_max2 rfl) rfl T.max_ (by decide +kernel) (pa_cons pe_int (pa_cons (pe_callB call_len_seq rfl T.len_ (by decide +kernel) (pa_cons (pv 2) pa_nil)) pa_nil))))))
      (pss_cons (ps_set (i := 4) sc__law_numbers.nd rfl (Or.inl rfl) (pe_lst pa_nil))
      (pss_cons (ps_for PassesOwn.never rfl (pi_list (pv 2)) (pg_name (i := 5) sc__law_numbers.nd rfl (Or.inl rfl))
        (pss_one (ps_for PassesOwn.never rfl (pi_list (pe_c G__law_row (hr.mono (by decide)) rfl (pa_cons (pv 5) (pa_cons (pv 3) pa_nil)))) (pg_name (i := 6) sc__law_numbers.nd rfl (Or.inl rfl))
          (pss_one (ps_expr (pe_bm PySem.F.plainAttrs_list PySem.F.slot_list_append PySem.F.type_list_append mt_append (pv 4) (pa_cons (pv 6) pa_nil)))))))
      (pss_cons (ps_while PassesOwn.never (pt_cmpR op_lt (pe_callB call_len_seq rfl T.len_ (by decide +kernel) (pa_cons (pv 4) pa_nil)) (pv 1) (nomark _))
        (pss_one (ps_expr (pe_bm PySem.F.plainAttrs_list PySem.F.slot_list_append PySem.F.type_list_append mt_append (pv 4) (pa_cons pe_int pa_nil)))))
      (pss_one (ps_ret (pe_slice sl_list (pv 4) po_none (po_some (pv 1)))))))))), ?_⟩
    have e63 : (63 : Int) = ((63 : Nat) : Int) := rfl
    refine ⟨_, rfl, _, rfl, a, _, rfl, ha, fun b hb => ?_⟩
    rw [show cutV (vints cs) none (some 63) = vints cs from by rw [e63, cut_to, List.take_of_length_le (by rw [vints_len]; exact hc)]]
    have s1 : Same H _ := same_new (o := .lst (vints cs)) hb
    refine ⟨_, rfl, _, rfl, b, _, rfl, .inl (SqL.of upd_same), _, _, rfl, ?_⟩
    rw [vints_len]
    obtain ⟨M, hM, M1, M2⟩ : ∃ M : Int, (if (cs.length : Int) > 1 then (cs.length : Int) else 1) = M ∧ 1 ≤ M ∧ M ≤ 63 := by
      refine ⟨_, rfl, ?_, ?_⟩ <;> split <;> omega
    rw [hM]
    refine ⟨_, _, rfl, rfl, ⟨by omega, by omega⟩, _, _, rfl, rfl, ?_⟩
    obtain ⟨m, hm, m91⟩ : ∃ m : Nat, (1 : Int) + 90 / M = (m : Int) ∧ m ≤ 91 := by
      have h1 : (0 : Int) ≤ 90 / M := Int.ediv_nonneg (by omega) (by omega)
      have h2 : (90 : Int) / M ≤ 90 := Int.ediv_le_self _ (by omega)
      exact ⟨(1 + 90 / M).toNat, by omega, by omega⟩
    simp only [hm]
    refine ⟨by show 0 ≤ sizeLine; decide, fun z hz => ?_⟩
    have s2 := s1.trans (same_new (o := .lst []) hz)
    have fz0 : H z = none := s1.free hz
    have nbz : b ≠ z := ne_of_none upd_same hz
    refine ⟨_, rfl, b, rfl, ⟨vints cs, SqL.of (by rw [upd_ne nbz]; exact upd_same)⟩, ?_⟩
    refine fl (K := K) (a := b) (xs := vints cs) (fun i σ H' => ∃ (ns : List Int) (v5 v6 : Option V), σ = [some (.ref a), some (.int 90), some (.ref b), some (.int m), some (.ref z), v5, v6] ∧ Same H H' ∧ H' b = some (.lst (vints cs)) ∧ H' z = some (.lst (vints ns)) ∧ ns.length = i * m ∧ Drn ns) ⟨[], none, none, rfl, s2, by rw [upd_ne nbz]; exact upd_same, upd_same, by simp, fun n hn => by simp at hn⟩ (fun i σ H1 _ ⟨_, _, _, _, _, h, _⟩ => SqL.of h) ?_ ?_
    · rintro i x σ H1 hx ⟨ns, v5, v6, rfl, t1, hb1, hz1, hl, hd⟩
      obtain ⟨hi, rfl⟩ := vints_get' hx
      refine ⟨_, rfl, _, rfl, _, m, rfl, by omega, ?_⟩
      intro rs hrl hrd p H2 t2 fp hp
      refine ⟨p, rfl, ⟨_, SqL.of hp⟩, ?_⟩
      have npz : p ≠ z := fun q => by rw [q, hz1] at fp; cases fp
      refine fl (K := K) (a := p) (xs := vints rs) (fun j σ H' => ∃ (ns2 : List Int) (v6 : Option V), σ = [some (.ref a), some (.int 90), some (.ref b), some (.int m), some (.ref z), some (.int (cs.getD i 0)), v6] ∧ Same H H' ∧ H' b = some (.lst (vints cs)) ∧ H' p = some (.lst (vints rs)) ∧ H' z = some (.lst (vints ns2)) ∧ ns2.length = i * m + j ∧ Drn ns2) ⟨ns, v6, rfl, t1.trans t2, t2 _ _ hb1, hp, t2 _ _ hz1, by omega, hd⟩ (fun i σ H1 _ ⟨_, _, _, _, _, h, _⟩ => SqL.of h) ?_ ?_
      · rintro j x2 σ H3 hx2 ⟨ns2, v6, rfl, t3, hb3, hp3, hz3, hl3, hd3⟩
        obtain ⟨hj, rfl⟩ := vints_get' hx2
        have hb4 : i * m ≤ 63 * 91 := Nat.mul_le_mul (by omega) (by omega)
        refine ⟨_, rfl, .inl ⟨rfl, _, SqL.of hz3⟩, _, rfl, z, _, _, rfl, rfl, hz3, sz_lt (by simp; omega), ?_⟩
        refine ⟨ns2 ++ [rs.getD j 0], some (.int (rs.getD j 0)), rfl, same_mut t3 fz0, by rw [upd_ne nbz]; exact hb3, by rw [upd_ne npz]; exact hp3, by rw [upd_same, vints_snoc], by simp; omega, fun n hn => ?_⟩
        rcases List.mem_append.mp hn with h | h
        · exact hd3 n h
        · have : n = rs.getD j 0 := by simpa using h
          subst this
          rw [List.getD_eq_getElem?_getD, List.getElem?_eq_getElem hj]
          exact hrd _ (List.getElem_mem hj)
      · rintro σ H3 ⟨ns2, v6, rfl, t3, hb3, hp3, hz3, hl3, hd3⟩
        refine ⟨ns2, _, _, rfl, t3, hb3, hz3, ?_, hd3⟩
        rw [hl3, vints_len, hrl, Nat.add_mul, Nat.one_mul]
    rintro σ H1 ⟨ns, v5, v6, rfl, t1, hb1, hz1, hl, hd⟩
    have hb4 : cs.length * m ≤ 63 * 91 := Nat.mul_le_mul hc m91
    rw [vints_len] at hl
    refine wl (fun q σ H' => ∃ (ns : List Int), σ = [some (.ref a), some (.int 90), some (.ref b), some (.int m), some (.ref z), v5, v6] ∧ Same H H' ∧ H' z = some (.lst (vints ns)) ∧ ns.length ≤ 6000 ∧ Drn ns ∧ 90 - ns.length = q) _ ⟨ns, rfl, t1, hz1, by omega, hd, rfl⟩ ?_
    rintro q σ H2 ⟨ns2, rfl, t2, hz2, hl2, hd2, rfl⟩
    refine ⟨_, rfl, z, _, rfl, .inl (SqL.of hz2), _, rfl, _, _, rfl, rfl, _, rfl, ?_⟩
    rw [vints_len]
    refine ite2 (fun h0 => ?_) (fun h0 => ?_)
    · have h0 : (ns2.length : Int) < 90 := of_decide_eq_true h0
      refine ⟨_, fun _ _ h => h, ?_⟩
      refine ⟨_, rfl, .inl ⟨rfl, _, SqL.of hz2⟩, z, _, _, rfl, rfl, hz2, sz_lt (by simp; omega), ?_⟩
      refine ⟨90 - (ns2.length + 1), by omega, ns2 ++ [0], rfl, same_mut t2 fz0, by rw [upd_same, vints_snoc], by simp; omega, fun n hn => ?_, by simp⟩
      rcases List.mem_append.mp hn with h | h
      · exact hd2 n h
      · have : n = 0 := by simpa using h
        omega
    · have h0 : ¬ (ns2.length : Int) < 90 := fun e => h0 (decide_eq_true e)
      refine ⟨_, rfl, _, rfl, _, rfl, z, _, rfl, SqL.of hz2, fun p hp => ?_⟩
      have e90 : (90 : Int) = ((90 : Nat) : Int) := rfl
      rw [show cutV (vints ns2) none (some 90) = vints (ns2.take 90) from by rw [e90, cut_to, vints_take]]
      exact k (ns2.take 90) (by rw [List.length_take]; omega) (fun n hn => hd2 n (List.mem_of_mem_take hn)) p _ (t2.trans (same_new hp)) (t2.free hp) upd_same
end
end Msw
set_option maxRecDepth 100000
set_option maxHeartbeats 4000000
namespace Msw
open PySem L2 Msq
section
variable {P : Program} {w : World} {K : PySem.W.Frag} {mg : Str → Option Value} {base : Heap} {C fS fL : Addr}
theorem div_less (p a : Int) (h0 : 0 ≤ a) (i : Nat) (hp : 1 < p) : (a / p ^ (i + 1)).toNat ≤ (a / p ^ i).toNat ∧ (0 < a / p ^ i → (a / p ^ (i + 1)).toNat < (a / p ^ i).toNat) := by
  have e := ediv_pow (p := p) (by omega) a i
  have h1 : 0 ≤ a / p ^ i := Int.ediv_nonneg h0 (Int.pow_nonneg (by omega))
  rw [← e]
  have h2 : 0 ≤ a / p ^ i / p := Int.ediv_nonneg h1 (by omega)
  refine ⟨?_, fun hl => ?_⟩
  · have := Int.ediv_le_self p h1
    omega
  · have : a / p ^ i / p < a / p ^ i := Int.ediv_lt_self_of_pos_of_ne_one hl (by omega)
    omega
theorem ok_sum_of (T : Txt K mg C fS fL) (D : Dfn K mg "sum_of" s_sum_of ["prime", "one", "other"]) : Hf P w K mg base 1 fS ["prime", "one", "other"] (sp_tog fsum) := by
  obtain ⟨f, fd, F, g, b⟩ := D
  have ef : f = fS := by
    have e := g.symm.trans T.sum_of
    injection e with e
    injection e
  subst ef
  refine ⟨fd, F.ok sc_sum_of (fun vs H Q E h => ?_) (fun cdv A outer s H vs Q E hr h => ?_), F.kp, b⟩
  · obtain ⟨P, a, c, rfl, _⟩ := h
    rfl
  · obtain ⟨P, a, c, rfl, ok, ea, ec, k⟩ := h
    have p1 := ok.p1
    have p2 := ok.p2
    have p0 : 0 < P.p := by omega
    have ha0 := ea.1
    have hc0 := ec.1
    refine ⟨_, (pss_cons (ps_set (i := 3) sc_sum_of.nd rfl (Or.inl rfl) pe_int)
      (pss_cons (ps_set (i := 4) sc_sum_of.nd rfl (Or.inl rfl) pe_int)
      (pss_cons (ps_while PassesOwn.never (PW.pt (pw_or (pt_cmpR op_gt (pv 1) pe_int (nomark _)) (pw_or1 (pt_cmpR op_gt (pv 2) pe_int (nomark _)))))
        (pss_cons (ps_aug (i := 3) sc_sum_of.nd rfl (Or.inl rfl) (pe_op op_mul (pe_op op_mod (pe_op op_add (pv 1) (pv 2)) (pv 0)) (pv 4)) iop_add)
        (pss_one (ps_par3 (i := 1) (j := 2) (l := 4) rfl sc_sum_of.nd rfl rfl rfl (by decide) (by decide) (by decide) rfl rfl rfl (pa_cons (pe_op op_fdiv (pv 1) (pv 0)) (pa_cons (pe_op op_fdiv (pv 2) (pv 0)) (pa_cons (pe_op op_mul (pv 4) (pv 0)) pa_nil))) (by rfl)))))
      (pss_one (ps_ret (pv 3)))))), ?_⟩
    refine wl (fun m σ H' => ∃ (i : Nat), σ = [some (.int P.p), some (.int (a / P.p ^ i)), some (.int (c / P.p ^ i)), some (.int (sumTo P.p (sfig P.p a c) i)), some (.int (P.p ^ i))] ∧ Same H H' ∧ (a / P.p ^ i).toNat + (c / P.p ^ i).toNat = m) _ ⟨0, by rw [Int.pow_zero, Int.ediv_one, Int.ediv_one]; rfl, Same.refl H, rfl⟩ ?_
    rintro m σ H1 ⟨i, rfl, s1, rfl⟩
    have hda : 0 ≤ a / P.p ^ i := Int.ediv_nonneg ha0 (Int.pow_nonneg (by omega))
    have hdc : 0 ≤ c / P.p ^ i := Int.ediv_nonneg hc0 (Int.pow_nonneg (by omega))
    refine ⟨_, rfl, _, _, rfl, rfl, _, rfl, ?_⟩
    refine ite2 (fun h1 => ?_) (fun h1 => ?_)
    · have h1 : 0 < a / P.p ^ i := of_decide_eq_true h1
      refine ⟨_, fun _ _ h => h, ?_⟩
      have q1 := div_less P.p a ha0 i (by omega)
      have q2 := div_less P.p c hc0 i (by omega)
      refine ⟨_, rfl, _, rfl, _, rfl, _, _, rfl, rfl, _, rfl, _, _, rfl, rfl, p0, _, rfl, _, _, rfl, rfl, mul_okL (Int.emod_nonneg _ (by omega)) (by have := Int.emod_lt_of_pos (a / P.p ^ i + c / P.p ^ i) p0; omega), _, _, rfl, rfl, ?_⟩
      refine ⟨_, rfl, _, rfl, _, _, rfl, rfl, div_ok p0 (by omega), _, rfl, _, rfl, _, _, rfl, rfl, div_ok p0 (by omega), _, rfl, _, rfl, _, _, rfl, rfl, mul_ok (by omega) (by omega), _, _, _, rfl, (a / P.p ^ (i + 1)).toNat + (c / P.p ^ (i + 1)).toNat, by omega, i + 1, ?_, s1, rfl⟩
      rw [← ediv_pow (by omega), ← ediv_pow (by omega), Int.pow_succ]
      rfl
    have h1 : ¬ 0 < a / P.p ^ i := fun e => h1 (decide_eq_true e)
    refine ⟨_, rfl, _, _, rfl, rfl, _, rfl, ?_⟩
    refine ite2 (fun h2 => ?_) (fun h2 => ?_)
    · have h2 : 0 < c / P.p ^ i := of_decide_eq_true h2
      refine ⟨_, fun _ _ h => h, ?_⟩
      have q1 := div_less P.p a ha0 i (by omega)
      have q2 := div_less P.p c hc0 i (by omega)
      refine ⟨_, rfl, _, rfl, _, rfl, _, _, rfl, rfl, _, rfl, _, _, rfl, rfl, p0, _, rfl, _, _, rfl, rfl, mul_okL (Int.emod_nonneg _ (by omega)) (by have := Int.emod_lt_of_pos (a / P.p ^ i + c / P.p ^ i) p0; omega), _, _, rfl, rfl, ?_⟩
      refine ⟨_, rfl, _, rfl, _, _, rfl, rfl, div_ok p0 (by omega), _, rfl, _, rfl, _, _, rfl, rfl, div_ok p0 (by omega), _, rfl, _, rfl, _, _, rfl, rfl, mul_ok (by omega) (by omega), _, _, _, rfl, (a / P.p ^ (i + 1)).toNat + (c / P.p ^ (i + 1)).toNat, by omega, i + 1, ?_, s1, rfl⟩
      rw [← ediv_pow (by omega), ← ediv_pow (by omega), Int.pow_succ]
      rfl
    have h2 : ¬ 0 < c / P.p ^ i := fun e => h2 (decide_eq_true e)
    refine ⟨_, rfl, ?_⟩
    rw [fsum_is p1 ea ec (by omega) (by omega)]
    exact k H1 s1
end
end Msw
set_option maxRecDepth 100000
set_option maxHeartbeats 4000000
namespace Msw
open PySem L2 Msq
section
variable {P : Program} {w : World} {K : PySem.W.Frag} {mg : Str → Option Value} {base : Heap} {C fS fL : Addr}
theorem ok_less_of (T : Txt K mg C fS fL) (D : Dfn K mg "less_of" s_less_of ["prime", "one", "other"]) : Hf P w K mg base 1 fL ["prime", "one", "other"] (sp_tog fsub) := by
  obtain ⟨f, fd, F, g, b⟩ := D
  have ef : f = fL := by
    have e := g.symm.trans T.less_of
    injection e with e
    injection e
  subst ef
  refine ⟨fd, F.ok sc_less_of (fun vs H Q E h => ?_) (fun cdv A outer s H vs Q E hr h => ?_), F.kp, b⟩
  · obtain ⟨P, a, c, rfl, _⟩ := h
    rfl
  · obtain ⟨P, a, c, rfl, ok, ea, ec, k⟩ := h
    have p1 := ok.p1
    have p2 := ok.p2
    have p0 : 0 < P.p := by omega
    have ha0 := ea.1
    have hc0 := ec.1
    refine ⟨_, (pss_cons (ps_set (i := 3) sc_less_of.nd rfl (Or.inl rfl) pe_int)
      (pss_cons (ps_set (i := 4) sc_less_of.nd rfl (Or.inl rfl) pe_int)
      (pss_cons (ps_while PassesOwn.never (PW.pt (pw_or (pt_cmpR op_gt (pv 1) pe_int (nomark _)) (pw_or1 (pt_cmpR op_gt (pv 2) pe_int (nomark _)))))
        (pss_cons (ps_aug (i := 3) sc_less_of.nd rfl (Or.inl rfl) (pe_op op_mul (pe_op op_mod (pe_op op_sub (pv 1) (pv 2)) (pv 0)) (pv 4)) iop_add)
        (pss_one (ps_par3 (i := 1) (j := 2) (l := 4) rfl sc_less_of.nd rfl rfl rfl (by decide) (by decide) (by decide) rfl rfl rfl (pa_cons (pe_op op_fdiv (pv 1) (pv 0)) (pa_cons (pe_op op_fdiv (pv 2) (pv 0)) (pa_cons (pe_op op_mul (pv 4) (pv 0)) pa_nil))) (by rfl)))))
      (pss_one (ps_ret (pv 3)))))), ?_⟩
    refine wl (fun m σ H' => ∃ (i : Nat), σ = [some (.int P.p), some (.int (a / P.p ^ i)), some (.int (c / P.p ^ i)), some (.int (sumTo P.p (dfig P.p a c) i)), some (.int (P.p ^ i))] ∧ Same H H' ∧ (a / P.p ^ i).toNat + (c / P.p ^ i).toNat = m) _ ⟨0, by rw [Int.pow_zero, Int.ediv_one, Int.ediv_one]; rfl, Same.refl H, rfl⟩ ?_
    rintro m σ H1 ⟨i, rfl, s1, rfl⟩
    have hda : 0 ≤ a / P.p ^ i := Int.ediv_nonneg ha0 (Int.pow_nonneg (by omega))
    have hdc : 0 ≤ c / P.p ^ i := Int.ediv_nonneg hc0 (Int.pow_nonneg (by omega))
    refine ⟨_, rfl, _, _, rfl, rfl, _, rfl, ?_⟩
    refine ite2 (fun h1 => ?_) (fun h1 => ?_)
    · have h1 : 0 < a / P.p ^ i := of_decide_eq_true h1
      refine ⟨_, fun _ _ h => h, ?_⟩
      have q1 := div_less P.p a ha0 i (by omega)
      have q2 := div_less P.p c hc0 i (by omega)
      refine ⟨_, rfl, _, rfl, _, rfl, _, _, rfl, rfl, _, rfl, _, _, rfl, rfl, p0, _, rfl, _, _, rfl, rfl, mul_okL (Int.emod_nonneg _ (by omega)) (by have := Int.emod_lt_of_pos (a / P.p ^ i - c / P.p ^ i) p0; omega), _, _, rfl, rfl, ?_⟩
      refine ⟨_, rfl, _, rfl, _, _, rfl, rfl, div_ok p0 (by omega), _, rfl, _, rfl, _, _, rfl, rfl, div_ok p0 (by omega), _, rfl, _, rfl, _, _, rfl, rfl, mul_ok (by omega) (by omega), _, _, _, rfl, (a / P.p ^ (i + 1)).toNat + (c / P.p ^ (i + 1)).toNat, by omega, i + 1, ?_, s1, rfl⟩
      rw [← ediv_pow (by omega), ← ediv_pow (by omega), Int.pow_succ]
      rfl
    have h1 : ¬ 0 < a / P.p ^ i := fun e => h1 (decide_eq_true e)
    refine ⟨_, rfl, _, _, rfl, rfl, _, rfl, ?_⟩
    refine ite2 (fun h2 => ?_) (fun h2 => ?_)
    · have h2 : 0 < c / P.p ^ i := of_decide_eq_true h2
      refine ⟨_, fun _ _ h => h, ?_⟩
      have q1 := div_less P.p a ha0 i (by omega)
      have q2 := div_less P.p c hc0 i (by omega)
      refine ⟨_, rfl, _, rfl, _, rfl, _, _, rfl, rfl, _, rfl, _, _, rfl, rfl, p0, _, rfl, _, _, rfl, rfl, mul_okL (Int.emod_nonneg _ (by omega)) (by have := Int.emod_lt_of_pos (a / P.p ^ i - c / P.p ^ i) p0; omega), _, _, rfl, rfl, ?_⟩
      refine ⟨_, rfl, _, rfl, _, _, rfl, rfl, div_ok p0 (by omega), _, rfl, _, rfl, _, _, rfl, rfl, div_ok p0 (by omega), _, rfl, _, rfl, _, _, rfl, rfl, mul_ok (by omega) (by omega), _, _, _, rfl, (a / P.p ^ (i + 1)).toNat + (c / P.p ^ (i + 1)).toNat, by omega, i + 1, ?_, s1, rfl⟩
      rw [← ediv_pow (by omega), ← ediv_pow (by omega), Int.pow_succ]
      rfl
    have h2 : ¬ 0 < c / P.p ^ i := fun e => h2 (decide_eq_true e)
    refine ⟨_, rfl, ?_⟩
    rw [fsub_is p1 ea ec (by omega) (by omega)]
    exact k H1 s1
end
end Msw
set_option maxRecDepth 100000
set_option maxHeartbeats 4000000
namespace Msw
open PySem L2 Msq
section
variable {P : Program} {w : World} {K : PySem.W.Frag} {mg : Str → Option Value} {base : Heap} {C fS fL : Addr}
theorem ok_apart_of (T : Txt K mg C fS fL) (D : Dfn K mg "apart_of" s_apart_of ["family", "one", "other"]) (G_less_of : Hf P w K mg base 1 fL ["prime", "one", "other"] (sp_tog fsub)) (G_F_split : Hm P w K mg base C 1 "split" ["self", "point"] (sp_F_split C)) : Hs P w K mg base 2 "apart_of" ["family", "one", "other"] (sp_apart_of C) := by
  obtain ⟨f, fd, F, g, b⟩ := D
  refine ⟨f, fd, F.ok sc_apart_of (fun vs H Q E h => ?_) (fun cdv A outer s H vs Q E hr h => ?_), g, F.kp, b⟩
  · obtain ⟨x, Ps, n, m, rfl, _⟩ := h
    rfl
  · obtain ⟨x, Ps, n, m, rfl, hF, ok, k⟩ := h
    obtain ⟨dx, aP, aS, aL, tP, tL, h1, h2, h3, h4, h5, h6⟩ := hF.ex
    have l8 := ok.len
    have G_less_of := Hf.hs (x := "less_of") G_less_of T.less_of
    refine ⟨_, (pss_cons (ps_set (i := 3) sc_apart_of.nd rfl (Or.inl rfl) (pe_lst pa_nil))
      (pss_cons (ps_for PassesOwn.never rfl (Msz.pi_zipN rfl T.zip_ (pa_cons (pe_fld (pv 0) rfl) (pa_cons (pe_m T.cl G_F_split (hr.mono (by decide)) (pv 0) (pa_cons (pv 1) pa_nil)) (pa_cons (pe_m T.cl G_F_split (hr.mono (by decide)) (pv 0) (pa_cons (pv 2) pa_nil)) pa_nil)))) (pg_tup rfl (pgs_cons (pg_tup rfl (pgs_cons (pg_name (i := 4) sc_apart_of.nd rfl (Or.inl rfl)) (pgs_cons (pg_name (i := 5) sc_apart_of.nd rfl (Or.inl rfl)) pgs_nil))) (pgs_cons (pg_name (i := 6) sc_apart_of.nd rfl (Or.inl rfl)) (pgs_cons (pg_name (i := 7) sc_apart_of.nd rfl (Or.inl rfl)) pgs_nil))))
        (pss_one (ps_expr (pe_bm PySem.F.plainAttrs_list PySem.F.slot_list_append PySem.F.type_list_append mt_append (pv 3) (pa_cons (pe_c G_less_of (hr.mono (by decide)) rfl (pa_cons (pv 4) (pa_cons (pv 6) (pa_cons (pv 7) pa_nil)))) pa_nil)))))
      (pss_one (ps_ret (pv 3))))), ?_⟩
    refine ⟨by show 0 ≤ sizeLine; decide, fun b hb => ?_⟩
    have s1 : Same H _ := same_new (o := .lst []) hb
    have hF1 := hF.up s1
    refine ⟨_, rfl, x, C, dx, _, _, rfl, s1 _ _ h1, T.cl, T.n_parts, lk_parts _ _ _ _ _, ?_⟩
    refine ⟨_, rfl, x, dx, _, rfl, s1 _ _ h1, no_m (by decide +kernel), _, rfl, x, Ps, n, rfl, hF1.sz, ok, fun A1 H1 t1 f1 e1 => ?_⟩
    refine ⟨_, rfl, x, dx, _, rfl, t1 _ _ (s1 _ _ h1), no_m (by decide +kernel), _, rfl, x, Ps, m, rfl, (hF1.up t1).sz, ok, fun B1 H2 t2 f2 e2 => ?_⟩
    have s3 := s1.trans (t1.trans t2)
    have hb2 := (t1.trans t2) _ _ (upd_same (H := H) (a := b) (o := HO.lst []))
    have fb : H b = none := hb
    have eA2 := t2 _ _ e1
    have nbA : b ≠ A1 := fun q => by rw [← q, upd_same] at f1; cases f1
    have nbB : b ≠ B1 := fun q => by
      have := t1 _ _ (upd_same (H := H) (a := b) (o := HO.lst []))
      rw [q, f2] at this
      cases this
    refine ⟨[(aP, true), (A1, false), (B1, false)], rfl, ⟨by simp, by simp⟩, ?_, ?_⟩
    · intro p hp
      simp only [List.mem_cons, List.not_mem_nil, or_false] at hp
      rcases hp with rfl | rfl | rfl
      · exact ⟨_, SqT.of (s3 _ _ h2)⟩
      · exact ⟨_, SqL.of eA2⟩
      · exact ⟨_, SqL.of e2⟩
    have eSn := split_els ok.fld n
    have eSm := split_els ok.fld m
    refine fz (K := K) (ss := [(aP, true), (A1, false), (B1, false)]) (ls := [vrefs tP, vints (splitP Ps n), vints (splitP Ps m)]) (n := Ps.length) (by simp) (fun i σ H' => ∃ (acc : List Int) (v6 v7 v8 v9 : Option V), σ = [some (.ref x), some (.int n), some (.int m), some (.ref b), v6, v7, v8, v9] ∧ Same H H' ∧ H' b = some (.lst (vints acc)) ∧ H' A1 = some (.lst (vints (splitP Ps n))) ∧ H' B1 = some (.lst (vints (splitP Ps m))) ∧ acc.length = i ∧ acc ++ subs (Ps.drop i) ((splitP Ps n).drop i) ((splitP Ps m).drop i) = subs Ps (splitP Ps n) (splitP Ps m)) ⟨[], none, none, none, none, rfl, s3, hb2, eA2, e2, rfl, rfl⟩ ?_ ?_ ?_
    · rintro i σ H3 ⟨_, _, _, _, _, _, u1, _, uA, uB, _⟩
      exact .cons (SqT.of (u1 _ _ h2)) (by simp [h3.1]) (.cons (SqL.of uA) (by simp [split_len]) (.cons (SqL.of uB) (by simp [split_len]) .nil))
    · rintro i T1 σ H3 hi ⟨acc, v6, v7, v8, v9, rfl, u1, ub, uA, uB, la, ea⟩ hT
      obtain ⟨R, hR⟩ := some_at (l := Ps) rfl hi
      obtain ⟨tp, htp⟩ := some_at (l := tP) h3.1 hi
      obtain ⟨d, hd⟩ := some_at (l := splitP Ps n) (split_len Ps n) hi
      obtain ⟨c, hc⟩ := some_at (l := splitP Ps m) (split_len Ps m) hi
      have pok := ok.at hR
      have ev : ([vrefs tP, vints (splitP Ps n), vints (splitP Ps m)].map fun l => l.getD i V.non) = [V.ref tp, V.int d, V.int c] := by
        rw [List.map_cons, List.map_cons, List.map_cons, List.map_nil, vr_at htp, vi_at hd, vi_at hc]
      rw [ev]
      have u2 := u1.trans (same_new (o := .tup [V.ref tp, V.int d, V.int c]) hT)
      have nbT : b ≠ T1 := ne_of_none ub hT
      refine ⟨T1, _, rfl, SqT.of upd_same, rfl, _, _, rfl, ⟨tp, _, rfl, SqT.of (u2 _ _ (h3.2 i _ _ htp hR)), rfl, _, _, rfl, _, _, rfl, rfl, _, _, rfl, _, _, rfl, rfl, ?_⟩⟩
      refine ⟨_, rfl, .inl ⟨rfl, _, SqL.of (by rw [upd_ne nbT]; exact ub)⟩, _, rfl, _, rfl, _, rfl, R, d, c, rfl, pok, els_at eSn hR hd, els_at eSm hR hc, fun H5 u5 => ?_⟩
      have u6 := u2.trans u5
      have ub5 : H5 b = some (.lst (vints acc)) := u5 _ _ (by rw [upd_ne nbT]; exact ub)
      refine ⟨b, _, _, rfl, rfl, ub5, sz_lt (by simp; omega), acc ++ [fsub R d c], _, _, _, _, rfl, same_mut u6 fb, by rw [upd_same, vints_snoc], ?_, ?_, by simp [la], ?_⟩
      · rw [upd_ne (Ne.symm nbA)]
        exact ((same_new hT).trans u5) _ _ uA
      · rw [upd_ne (Ne.symm nbB)]
        exact ((same_new hT).trans u5) _ _ uB
      · rw [← ea, drop_at hR, drop_at hd, drop_at hc, subs, List.append_assoc]
        rfl
    · rintro σ H3 ⟨acc, v6, v7, v8, v9, rfl, u1, ub, uA, uB, la, ea⟩
      have ez : subs (Ps.drop Ps.length) ((splitP Ps n).drop Ps.length) ((splitP Ps m).drop Ps.length) = [] := by
        rw [List.drop_length]
        simp [subs]
      rw [ez, List.append_nil] at ea
      refine ⟨_, rfl, ?_⟩
      rw [ea] at ub
      exact k b H3 u1 fb ub
end
end Msw
set_option maxRecDepth 100000
set_option maxHeartbeats 4000000
namespace Msw
open PySem L2 Msq
section
variable {P : Program} {w : World} {K : PySem.W.Frag} {mg : Str → Option Value} {base : Heap} {C fS fL : Addr}
theorem ok_multiplied (T : Txt K mg C fS fL) (D : Dfn K mg "multiplied" s_multiplied ["prime", "one", "other"]) : Hs P w K mg base 1 "multiplied" ["prime", "one", "other"] (sp_multiplied K) := by
  obtain ⟨f, fd, F, g, b⟩ := D
  refine ⟨f, fd, F.ok sc_multiplied (fun vs H Q E h => ?_) (fun cdv A outer s H vs Q E hr h => ?_), g, F.kp, b⟩
  · obtain ⟨p, a, one, b, other, rfl, _⟩ := h
    rfl
  · obtain ⟨p, a, one, b, other, rfl, ⟨p0, p9⟩, ha, hb, d1, l1, l2, k⟩ := h
    refine ⟨_, (pss_cons (ps_set (i := 3) sc_multiplied.nd rfl (Or.inl rfl) (pe_op op_rep (pe_lst (pa_cons pe_int pa_nil)) (pe_op op_sub (pe_op op_add (pe_callB call_len_seq rfl T.len_ (by decide +kernel) (pa_cons (pv 1) pa_nil)) (pe_callB call_len_seq rfl T.len_ (by decide +kernel) (pa_cons (pv 2) pa_nil))) pe_int)))
      (pss_cons (ps_for PassesOwn.never rfl (Mse.pi_enumA rfl T.enumerate_ (pa_cons (pv 1) pa_nil)) (pg_tup rfl (pgs_cons (pg_name (i := 4) sc_multiplied.nd rfl (Or.inl rfl)) (pgs_cons (pg_name (i := 5) sc_multiplied.nd rfl (Or.inl rfl)) pgs_nil)))
        (pss_one (ps_for PassesOwn.never rfl (Mse.pi_enumA rfl T.enumerate_ (pa_cons (pv 2) pa_nil)) (pg_tup rfl (pgs_cons (pg_name (i := 6) sc_multiplied.nd rfl (Or.inl rfl)) (pgs_cons (pg_name (i := 7) sc_multiplied.nd rfl (Or.inl rfl)) pgs_nil)))
          (pss_one (ps_asg (pe_op op_mod (pe_op op_add (pe_ix (r := rIxL K) ix_list (pv 3) (pe_op op_add (pv 4) (pv 6)) (fun _ _ => rfl)) (pe_op op_mul (pv 5) (pv 7))) (pv 0)) (pg_sub (pv 3) (pe_op op_add (pv 4) (pv 6)) set_list))))))
      (pss_one (ps_ret (pv 3))))), ?_⟩
    refine ⟨by show 1 ≤ sizeLine; decide, fun z hz => ?_⟩
    have s1 : Same H _ := same_new (o := .lst [.int 0]) hz
    refine ⟨_, rfl, a, _, rfl, .inl (s1.seq ha), _, rfl, b, _, rfl, .inl (s1.seq hb), _, _, rfl, rfl, _, _, rfl, rfl, z, _, _, rfl, rfl, upd_same, ?_⟩
    simp only [vints_len]
    refine ⟨by omega, by omega, sz_of (by simp; omega), fun r hr' => ?_⟩
    have eN : (((one.length : Int) + (other.length : Int) - 1).toNat) = one.length + other.length - 1 := by omega
    rw [rep_flat, vints_rep, eN]
    have s2 := s1.trans (same_new (o := .lst (vints (List.replicate (one.length + other.length - 1) 0))) hr')
    have frH : H r = none := s1.free hr'
    refine ⟨_, rfl, (a, false), _, rfl, s2.seq ha, ?_⟩
    refine fe (K := K) (p := (a, false)) (xs := vints one) (fun i σ H' => ∃ (row : List Int) (v4 v5 v6 v7 : Option V), σ = [some (.int p), some (.ref a), some (.ref b), some (.ref r), v4, v5, v6, v7] ∧ Same H H' ∧ H' r = some (.lst (vints row)) ∧
      row.length = one.length + other.length - 1 ∧ multFrom p other (one.drop i) i row = mult p one other) ⟨_, none, none, none, none, rfl, s2, upd_same, by simp, rfl⟩ (fun i σ H2 ⟨_, _, _, _, _, _, t2, _⟩ => t2.seq ha) ?_ ?_
    · rintro i x T1 σ H1 hx ⟨row, v4, v5, v6, v7, rfl, t1, h1, e1, e2⟩ hT
      obtain ⟨hi, rfl⟩ := vints_get' hx
      have nrT : r ≠ T1 := ne_of_none h1 hT
      have t1' := t1.trans (same_new (o := .tup [.int (i : Nat), .int (one.getD i 0)]) hT)
      refine ⟨T1, _, rfl, SqT.of upd_same, rfl, _, _, rfl, _, _, rfl, rfl, ?_⟩
      refine ⟨_, rfl, (b, false), _, rfl, t1'.seq hb, ?_⟩
      have edr : one.drop i = one.getD i 0 :: one.drop (i + 1) := by
        rw [List.drop_eq_getElem_cons hi, List.getD_eq_getElem?_getD, List.getElem?_eq_getElem hi]
        rfl
      rw [edr, multFrom] at e2
      refine fe (K := K) (p := (b, false)) (xs := vints other) (fun j σ H' => ∃ (v6 v7 : Option V), σ = [some (.int p), some (.ref a), some (.ref b), some (.ref r), some (.int (i : Nat)), some (.int (one.getD i 0)), v6, v7] ∧ Same H H' ∧
        H' r = some (.lst (vints (updAt p (one.getD i 0) (other.take j) i row)))) ⟨v6, v7, rfl, t1', by rw [List.take_zero, updAt_zero, upd_ne nrT]; exact h1⟩ (fun j σ H2 ⟨_, _, _, t2, _⟩ => t2.seq hb) ?_ ?_
      · rintro j x T2 σ H2 hx ⟨v6, v7, rfl, t2, h2⟩ hT2
        obtain ⟨hj, rfl⟩ := vints_get' hx
        have nrT : r ≠ T2 := ne_of_none h2 hT2
        have h2' : ∀ o, upd H2 T2 o r = some (.lst (vints (updAt p (one.getD i 0) (other.take j) i row))) := fun o => by rw [upd_ne nrT]; exact h2
        have eix : (i : Int) + (j : Nat) = ((i + j : Nat) : Int) := by omega
        have hlen : (updAt p (one.getD i 0) (other.take j) i row).length = row.length := updAt_len _ _ _ _ _
        refine ⟨T2, _, rfl, SqT.of upd_same, rfl, _, _, rfl, _, _, rfl, rfl, ?_⟩
        refine ⟨_, rfl, _, rfl, _, rfl, _, _, rfl, rfl, r, _, _, _, rfl, rfl, SqL.of (h2' _), at_v eix (by omega), _, rfl, _, rfl, _, _, rfl, rfl, mul_okL (dg_get d1 hi).1 (by have := (dg_get d1 hi).2; omega), _, _, rfl, rfl, _, rfl, _, _, rfl, rfl, p0, ?_⟩
        refine ⟨_, rfl, _, rfl, _, rfl, _, _, rfl, rfl, r, _, _, i + j, rfl, rfl, h2' _, ix_v eix (by rw [vints_len]; omega), ?_⟩
        refine ⟨_, _, rfl, same_mut (t2.trans (same_new hT2)) frH, ?_⟩
        rw [upd_same, vints_set, ← updAt_take p (one.getD i 0) i other row j hj (by omega)]
      · rintro σ H2 ⟨v6, v7, rfl, t2, h2⟩
        rw [vints_len, List.take_length] at h2
        exact ⟨_, _, _, _, _, rfl, t2, h2, by rw [updAt_len]; exact e1, e2⟩
    · rintro σ H1 ⟨row, v4, v5, v6, v7, rfl, t1, h1, e1, e2⟩
      rw [vints_len, List.drop_length, multFrom] at e2
      refine ⟨_, rfl, ?_⟩
      rw [e2] at h1
      exact k r H1 t1 frH h1
end
end Msw
set_option maxRecDepth 100000
set_option maxHeartbeats 4000000
namespace Msw
open PySem L2 Msq
section
variable {P : Program} {w : World} {K : PySem.W.Frag} {mg : Str → Option Value} {base : Heap} {C fS fL : Addr}
theorem ok_remainder (T : Txt K mg C fS fL) (D : Dfn K mg "remainder" s_remainder ["prime", "lower", "figures"]) : Hs P w K mg base 1 "remainder" ["prime", "lower", "figures"] (sp_remainder K) := by
  obtain ⟨f, fd, F, g, b⟩ := D
  refine ⟨f, fd, F.ok sc_remainder (fun vs H Q E h => ?_) (fun cdv A outer s H vs Q E hr h => ?_), g, F.kp, b⟩
  · obtain ⟨p, lo, lw, a, fg, rfl, _⟩ := h
    rfl
  · obtain ⟨p, lo, lw, a, fg, rfl, ⟨p0, p9⟩, hlo, dlw, hfg, l1, l2, k⟩ := h
    refine ⟨_, (pss_cons (ps_set (i := 3) sc_remainder.nd rfl (Or.inl rfl) (pe_callB call_len_seq rfl T.len_ (by decide +kernel) (pa_cons (pv 1) pa_nil)))
      (pss_cons (ps_set (i := 4) sc_remainder.nd rfl (Or.inl rfl) (pe_op op_cat (pe_callTy call_list_of rfl T.list_ (by decide +kernel) (pa_cons (pv 2) pa_nil)) (pe_op op_rep (pe_lst (pa_cons pe_int pa_nil)) (pe_op op_sub (pv 3) (pe_callB call_len_seq rfl T.len_ (by decide +kernel) (pa_cons (pv 2) pa_nil))))))
      (pss_cons (ps_for PassesOwn.never rfl (pi_range3 rfl T.range_ (pa_cons (pe_op op_sub (pe_callB call_len_seq rfl T.len_ (by decide +kernel) (pa_cons (pv 4) pa_nil)) pe_int) (pa_cons (pe_op op_sub (pv 3) pe_int) (pa_cons (pe_un un_neg pe_int) pa_nil)))) (pg_name (i := 5) sc_remainder.nd rfl (Or.inl rfl))
        (pss_cons (ps_set (i := 6) sc_remainder.nd rfl (Or.inl rfl) (pe_ix (r := rIxL K) ix_list (pv 4) (pv 5) (fun _ _ => rfl)))
        (pss_one (ps_for PassesOwn.never rfl (Mse.pi_enumA rfl T.enumerate_ (pa_cons (pv 1) pa_nil)) (pg_tup rfl (pgs_cons (pg_name (i := 7) sc_remainder.nd rfl (Or.inl rfl)) (pgs_cons (pg_name (i := 8) sc_remainder.nd rfl (Or.inl rfl)) pgs_nil)))
          (pss_one (ps_asg (pe_op op_mod (pe_op op_sub (pe_ix (r := rIxL K) ix_list (pv 4) (pe_op op_add (pe_op op_sub (pv 5) (pv 3)) (pv 7)) (fun _ _ => rfl)) (pe_op op_mul (pv 6) (pv 8))) (pv 0)) (pg_sub (pv 4) (pe_op op_add (pe_op op_sub (pv 5) (pv 3)) (pv 7)) set_list)))))))
      (pss_one (ps_ret (pe_slice sl_list (pv 4) po_none (po_some (pv 3)))))))), ?_⟩
    -- degree = len(lower)
    refine ⟨_, rfl, _, _, rfl, sqp_or hlo, ?_⟩
    -- row = list(figures) + [0] * (degree - len(figures))
    refine ⟨_, rfl, a, _, rfl, .inl hfg, fun u hu => ?_⟩
    have s1 : Same H (upd H u (.lst (vints fg))) := same_new hu
    refine ⟨by show 1 ≤ sizeLine; decide, fun z hz => ?_⟩
    have s2 := s1.trans (same_new (o := .lst [.int 0]) hz)
    refine ⟨_, rfl, _, rfl, a, _, rfl, .inl (s2.seq hfg), _, _, rfl, rfl, z, _, _, rfl, rfl, upd_same, ?_⟩
    simp only [vints_len]
    refine ⟨by omega, by omega, sz_of (by simp; omega), fun y hy => ?_⟩
    have nuz : u ≠ z := ne_of_none upd_same hz
    have nuy : u ≠ y := ne_of_none (by rw [upd_ne nuz]; exact upd_same) hy
    have eN : (((lw.length : Int) - (fg.length : Int)).toNat) = lw.length - fg.length := by omega
    rw [rep_flat, vints_rep, eN]
    refine ⟨u, y, _, _, rfl, rfl, by rw [upd_ne nuy, upd_ne nuz]; exact upd_same, upd_same, sz_of (by simp; omega), fun r hr' => ?_⟩
    have s3 := (s2.trans (same_new hy)).trans (same_new (o := .lst (vints fg ++ vints (List.replicate (lw.length - fg.length) 0))) hr')
    have ePad : vints fg ++ vints (List.replicate (lw.length - fg.length) 0) = vints (padTo lw.length fg) := by simp [vints, padTo]
    rw [ePad] at s3 ⊢
    have frH : H r = none := ((s2.trans (same_new hy))).free hr'
    -- for at in range(len(row) - 1, degree - 1, -1)
    have hL : (padTo lw.length fg).length = max lw.length fg.length := padTo_len _ _
    refine ⟨_, rfl, r, _, rfl, .inl (SqL.of upd_same), _, _, rfl, rfl, _, rfl, _, _, rfl, rfl, _, rfl, _, _, _, _, rfl, RgC.neg (by rw [vints_len]; omega) (by rw [vints_len, hL]; omega) (by omega) (by omega), ?_⟩
    rw [vints_len]
    have en : ((((padTo lw.length fg).length : Int) - 1) - ((lw.length : Int) - 1)).toNat = (padTo lw.length fg).length - lw.length := by omega
    rw [en]
    refine frc (lo := ((padTo lw.length fg).length : Int) - 1) (c := -1) (n := (padTo lw.length fg).length - lw.length) (fun i σ H' => ∃ (row : List Int) (v5 v6 v7 v8 : Option V), σ = [some (.int p), some (.ref lo.1), some (.ref a), some (.int (lw.length : Nat)), some (.ref r), v5, v6, v7, v8] ∧ Same H H' ∧ H' r = some (.lst (vints row)) ∧
      row.length = (padTo lw.length fg).length ∧ remFrom p lw ((padTo lw.length fg).length - lw.length - i) row = remFrom p lw ((padTo lw.length fg).length - lw.length) (padTo lw.length fg)) ⟨_, none, none, none, none, rfl, s3, upd_same, rfl, rfl⟩ ?_ ?_
    · rintro i σ H1 hi ⟨row, v5, v6, v7, v8, rfl, t1, h1, e1, e2⟩
      obtain ⟨m, hm⟩ : ∃ m, (padTo lw.length fg).length - lw.length - i = m + 1 := ⟨(padTo lw.length fg).length - lw.length - i - 1, by omega⟩
      rw [hm, remFrom] at e2
      have eat : ((padTo lw.length fg).length : Int) - 1 + (i : Nat) * (-1) = ((lw.length + m : Nat) : Int) := by omega
      -- top = row[at]
      refine ⟨_, rfl, _, rfl, r, _, _, _, rfl, rfl, SqL.of h1, at_v eat (by omega), ?_⟩
      -- for place, part in enumerate(lower)
      refine ⟨_, rfl, lo, _, rfl, Same.sqp t1 hlo, ?_⟩
      refine fe (K := K) (p := lo) (xs := vints lw) (fun j σ H' => ∃ (v7 v8 : Option V), σ = [some (.int p), some (.ref lo.1), some (.ref a), some (.int (lw.length : Nat)), some (.ref r), some (.int (((padTo lw.length fg).length : Int) - 1 + (i : Nat) * (-1))), some (.int (row.getD (lw.length + m) 0)), v7, v8] ∧ Same H H' ∧
        H' r = some (.lst (vints (updAt p (-(row.getD (lw.length + m) 0)) (lw.take j) m row)))) ⟨v7, v8, rfl, t1, by rw [List.take_zero, updAt_zero]; exact h1⟩ (fun j σ H2 ⟨_, _, _, t2, _⟩ => Same.sqp t2 hlo) ?_ ?_
      · rintro j x T1 σ H2 hx ⟨v7, v8, rfl, t2, h2⟩ hT
        obtain ⟨hj, rfl⟩ := vints_get' hx
        have nrT : r ≠ T1 := ne_of_none h2 hT
        have h2' : ∀ o, upd H2 T1 o r = some (.lst (vints (updAt p (-(row.getD (lw.length + m) 0)) (lw.take j) m row))) := fun o => by rw [upd_ne nrT]; exact h2
        have eix : ((padTo lw.length fg).length : Int) - 1 + (i : Nat) * (-1) - (lw.length : Nat) + (j : Nat) = ((m + j : Nat) : Int) := by omega
        have hlen : (updAt p (-(row.getD (lw.length + m) 0)) (lw.take j) m row).length = row.length := updAt_len _ _ _ _ _
        refine ⟨T1, _, rfl, SqT.of upd_same, rfl, _, _, rfl, _, _, rfl, rfl, ?_⟩
        refine ⟨_, rfl, _, rfl, _, rfl, _, _, rfl, rfl, _, rfl, _, _, rfl, rfl, r, _, _, _, rfl, rfl, SqL.of (h2' _), at_v eix (by omega), _, rfl, _, rfl, _, _, rfl, rfl, mul_ok (dg_get dlw hj).1 (by have := (dg_get dlw hj).2; omega), _, _, rfl, rfl, _, rfl, _, _, rfl, rfl, p0, ?_⟩
        refine ⟨_, rfl, _, rfl, _, rfl, _, _, rfl, rfl, _, rfl, _, _, rfl, rfl, r, _, _, m + j, rfl, rfl, h2' _, ix_v eix (by rw [vints_len]; omega), ?_⟩
        refine ⟨_, _, rfl, same_mut (t2.trans (same_new hT)) frH, ?_⟩
        rw [upd_same, vints_set, ← updAt_take p (-(row.getD (lw.length + m) 0)) m lw row j hj (by omega)]
        congr 5
        rw [Int.neg_mul, ← Int.sub_eq_add_neg]
      · rintro σ H2 ⟨v7, v8, rfl, t2, h2⟩
        rw [vints_len, List.take_length] at h2
        refine ⟨_, _, _, _, _, rfl, t2, h2, by rw [updAt_len]; exact e1, ?_⟩
        rw [← e2]
        congr 1
        omega
    · rintro σ H1 ⟨row, v5, v6, v7, v8, rfl, t1, h1, e1, e2⟩
      rw [Nat.sub_self, remFrom] at e2
      refine ⟨_, rfl, _, rfl, _, rfl, r, _, rfl, SqL.of h1, fun q hq => ?_⟩
      refine k q _ (t1.trans (same_new hq)) (t1.free hq) ?_
      rw [upd_same, cut_to, vints_take, e2]
      rfl
end
end Msw
set_option maxRecDepth 100000
set_option maxHeartbeats 4000000
namespace Msw
open PySem L2 Msq
section
variable {P : Program} {w : World} {K : PySem.W.Frag} {mg : Str → Option Value} {base : Heap} {C fS fL : Addr}
theorem ok_raised (T : Txt K mg C fS fL) (D : Dfn K mg "raised" s_raised ["prime", "lower", "figures", "times"]) (G_multiplied : Hs P w K mg base 1 "multiplied" ["prime", "one", "other"] (sp_multiplied K)) (G_remainder : Hs P w K mg base 1 "remainder" ["prime", "lower", "figures"] (sp_remainder K)) : Hs P w K mg base 2 "raised" ["prime", "lower", "figures", "times"] (sp_raised K) := by
  obtain ⟨f, fd, F, g, b⟩ := D
  refine ⟨f, fd, F.ok sc_raised (fun vs H Q E h => ?_) (fun cdv A outer s H vs Q E hr h => ?_), g, F.kp, b⟩
  · obtain ⟨p, lo, lw, a, fg, n, rfl, _⟩ := h
    rfl
  · obtain ⟨p, lo, lw, a, fg, n, rfl, ⟨p1, p9⟩, hlo, dlw, ha, dfg, l1, l2, k⟩ := h
    have p0 : 0 < p := by omega
    refine ⟨_, (pss_cons (ps_set (i := 4) sc_raised.nd rfl (Or.inl rfl) (pe_c G_remainder (hr.mono (by decide)) rfl (pa_cons (pv 0) (pa_cons (pv 1) (pa_cons (pe_lst (pa_cons pe_int pa_nil)) pa_nil)))))
      (pss_cons (ps_while PassesOwn.never (pt_cmpR op_gt (pv 3) pe_int (nomark _))
        (pss_cons (ps_if (pt_cmpR op_eq (pe_op op_mod (pv 3) pe_int) pe_int (nomark _)) (pss_one (ps_set (i := 4) sc_raised.nd rfl (Or.inl rfl) (pe_c G_remainder (hr.mono (by decide)) rfl (pa_cons (pv 0) (pa_cons (pv 1) (pa_cons (pe_c G_multiplied (hr.mono (by decide)) rfl (pa_cons (pv 0) (pa_cons (pv 4) (pa_cons (pv 2) pa_nil)))) pa_nil)))))) pss_nil)
        (pss_cons (ps_set (i := 2) sc_raised.nd rfl (Or.inl rfl) (pe_c G_remainder (hr.mono (by decide)) rfl (pa_cons (pv 0) (pa_cons (pv 1) (pa_cons (pe_c G_multiplied (hr.mono (by decide)) rfl (pa_cons (pv 0) (pa_cons (pv 2) (pa_cons (pv 2) pa_nil)))) pa_nil)))))
        (pss_one (ps_aug (i := 3) sc_raised.nd rfl (Or.inl rfl) pe_int iop_fdiv)))))
      (pss_one (ps_ret (pv 4))))), ?_⟩
    refine ⟨_, rfl, _, rfl, by show 1 ≤ sizeLine; decide, fun z hz => ?_⟩
    have s1 : Same H _ := same_new (o := .lst [.int 1]) hz
    refine ⟨p, lo, lw, z, [1], rfl, ⟨p0, p9⟩, Same.sqp s1 hlo, dlw, SqL.of upd_same, by omega, by simp, fun F1 H1 t1 f1 h1 => ?_⟩
    have d1 : Dg p [1] := by
      intro x hx
      have : x = 1 := by simpa using hx
      omega
    refine wl (fun m σ H' => ∃ (fu : Nat) (F X : Addr) (fd g : List Int) (t : Nat), σ = [some (.int p), some (.ref lo.1), some (.ref X), some (.int t), some (.ref F)] ∧ Same H H' ∧ SqL K H' X (vints g) ∧ Dg p g ∧ g.length ≤ 50 ∧ (H F = none ∧ H' F = some (.lst (vints fd))) ∧ Dg p fd ∧ fd.length = lw.length ∧ t ≤ fu ∧ raisedL p lw fu fd g t = raised p lw fg n ∧ t = m) _ ⟨n, F1, a, rema p lw [1], fg, n, rfl, s1.trans t1, (s1.trans t1).seq ha, dfg, l2, ⟨s1.free f1, h1⟩, rema_dg p0 d1, rema_len _ _ _, Nat.le_refl _, rfl, rfl⟩ ?_
    rintro m σ H2 ⟨fu, F, X, fd, g, t, rfl, s2, hX, dg, lg, ⟨fF, hF⟩, dfd, lfd, htf, hr', rfl⟩
    refine ⟨_, rfl, _, _, rfl, rfl, _, rfl, ?_⟩
    refine ite2 (fun ht => ?_) (fun ht => ?_)
    · have ht0 : (0 : Int) < (t : Int) := of_decide_eq_true ht
      obtain ⟨fu', rfl⟩ : ∃ fu', fu = fu' + 1 := ⟨fu - 1, by omega⟩
      rw [raisedL, if_neg (by omega)] at hr'
      refine ⟨_, fun _ _ h => h, ?_⟩
      have e2 : (((t / 2 : Nat)) : Int) = (t : Int) / 2 := by omega
      refine ⟨_, rfl, _, _, rfl, rfl, (show (0 : Int) < 2 by decide), rfl, _, rfl, ?_⟩
      by_cases ho : t % 2 = 1
      · rw [if_pos ho] at hr'
        have eo : decide (V.int ((t : Int) % 2) = V.int 1) = true := decide_eq_true (by congr 1; omega)
        show if decide (V.int ((t : Int) % 2) = V.int 1) = true then _ else _
        rw [eo]
        refine iteT ⟨_, rfl, _, rfl, _, rfl, _, rfl, _, rfl, p, F, fd, X, g, rfl, ⟨p0, p9⟩, SqL.of hF, hX, dfd, by omega, lg, fun M H3 s3 fM hM => ?_⟩
        refine ⟨p, lo, lw, M, _, rfl, ⟨p0, p9⟩, Same.sqp (s2.trans s3) hlo, dlw, SqL.of hM, by omega, by rw [mult_len]; omega, fun F2 H4 s4 fF2 hF2 => ?_⟩
        refine ⟨_, rfl, _, rfl, _, rfl, _, rfl, _, rfl, p, X, g, X, g, rfl, ⟨p0, p9⟩, (s3.trans s4).seq hX, (s3.trans s4).seq hX, dg, by omega, lg, fun M2 H5 s5 fM2 hM2 => ?_⟩
        refine ⟨p, lo, lw, M2, _, rfl, ⟨p0, p9⟩, Same.sqp (s2.trans (s3.trans (s4.trans s5))) hlo, dlw, SqL.of hM2, by omega, by rw [mult_len]; omega, fun X2 H6 s6 fX2 hX2 => ?_⟩
        refine ⟨_, rfl, _, _, rfl, rfl, div_ok (by decide) (by decide), t / 2, by omega, fu', F2, X2, _, _, t / 2, ?_, s2.trans (s3.trans (s4.trans (s5.trans s6))), SqL.of hX2, rema_dg p0 (mult_dg p0 _ _), by rw [rema_len]; omega, ⟨(s2.trans s3).free fF2, (s5.trans s6) _ _ hF2⟩, rema_dg p0 (mult_dg p0 _ _), rema_len _ _ _, by omega, hr', rfl⟩
        rw [e2]
        rfl
      · rw [if_neg ho] at hr'
        have eo : decide (V.int ((t : Int) % 2) = V.int 1) = false := decide_eq_false (by intro e; injection e; omega)
        show if decide (V.int ((t : Int) % 2) = V.int 1) = true then _ else _
        rw [eo]
        refine iteF ?_
        refine ⟨_, rfl, _, rfl, _, rfl, _, rfl, _, rfl, p, X, g, X, g, rfl, ⟨p0, p9⟩, hX, hX, dg, by omega, lg, fun M2 H5 s5 fM2 hM2 => ?_⟩
        refine ⟨p, lo, lw, M2, _, rfl, ⟨p0, p9⟩, Same.sqp (s2.trans s5) hlo, dlw, SqL.of hM2, by omega, by rw [mult_len]; omega, fun X2 H6 s6 fX2 hX2 => ?_⟩
        refine ⟨_, rfl, _, _, rfl, rfl, div_ok (by decide) (by decide), t / 2, by omega, fu', F, X2, _, _, t / 2, ?_, s2.trans (s5.trans s6), SqL.of hX2, rema_dg p0 (mult_dg p0 _ _), by rw [rema_len]; omega, ⟨fF, (s5.trans s6) _ _ hF⟩, dfd, lfd, by omega, hr', rfl⟩
        rw [e2]
        rfl
    · have ht0 : t = 0 := by
        have : ¬ (0 : Int) < (t : Int) := fun e => ht (decide_eq_true e)
        omega
      subst ht0
      refine ⟨_, rfl, ?_⟩
      have ev : fd = raised p lw fg n := by
        cases fu with
        | zero => exact hr'
        | succ fu => rw [raisedL, if_pos rfl] at hr'; exact hr'
      rw [ev] at hF
      exact k F H2 s2 fF hF
end
end Msw
set_option maxRecDepth 100000
set_option maxHeartbeats 4000000
namespace Msw
open PySem L2 Msq
section
variable {P : Program} {w : World} {K : PySem.W.Frag} {mg : Str → Option Value} {base : Heap} {C fS fL : Addr}
theorem ok_power_of (T : Txt K mg C fS fL) (D : Dfn K mg "power_of" s_power_of ["prime", "lower", "one", "times"]) (G_figures_of : Hs P w K mg base 1 "figures_of" ["prime", "many", "number"] sp_figures_of) (G_number_of : Hs P w K mg base 1 "number_of" ["prime", "figures"] (sp_number_of K)) (G_raised : Hs P w K mg base 2 "raised" ["prime", "lower", "figures", "times"] (sp_raised K)) : Hs P w K mg base 3 "power_of" ["prime", "lower", "one", "times"] (sp_power_of K) := by
  obtain ⟨f, fd, F, g, b⟩ := D
  refine ⟨f, fd, F.ok sc_power_of (fun vs H Q E h => ?_) (fun cdv A outer s H vs Q E hr h => ?_), g, F.kp, b⟩
  · obtain ⟨P, b, a, n, rfl, _⟩ := h
    rfl
  · obtain ⟨P, b, a, n, rfl, ok, hb, k⟩ := h
    have p1 := ok.p1
    have p2 := ok.p2
    have k0 := ok.k0
    have k4 := ok.k4
    have hfb : 0 < P.p ∧ P.p ≤ 999983 := ⟨by omega, by omega⟩
    refine ⟨_, (pss_one (ps_ret (pe_c G_number_of (hr.mono (by decide)) rfl (pa_cons (pv 0) (pa_cons (pe_c G_raised (hr.mono (by decide)) rfl (pa_cons (pv 0) (pa_cons (pv 1) (pa_cons (pe_c G_figures_of (hr.mono (by decide)) rfl (pa_cons (pv 0) (pa_cons (pe_callB call_len_seq rfl T.len_ (by decide +kernel) (pa_cons (pv 1) pa_nil)) (pa_cons (pv 2) pa_nil)))) (pa_cons (pv 3) pa_nil))))) pa_nil))))), ?_⟩
    refine ⟨_, rfl, _, rfl, _, rfl, _, rfl, _, rfl, b, _, rfl, .inr hb, ?_⟩
    rw [vints_len]
    refine ⟨_, rfl, P.p, P.lower.length, a, rfl, hfb, by omega, fun F1 H1 s1 f1 h1 => ?_⟩
    refine ⟨_, rfl, P.p, (b, true), P.lower, F1, _, n, rfl, ⟨p1, p2⟩, Same.sqt s1 hb, ok.dg, SqL.of h1, figs_dg (by omega) _ _, by omega, by rw [figs_len]; omega, fun R H4 s4 f4 h4 => ?_⟩
    refine ⟨P.p, R, _, rfl, hfb, SqL.of h4, by rw [raised_len k0]; omega, fun H5 s5 => ?_⟩
    rw [show num P.p (raised P.p P.lower (figs P.p P.lower.length a) n) = fpow P a n from fpow_is p1 k0 a n]
    exact k H5 (s1.trans (s4.trans s5))
end
end Msw
set_option maxRecDepth 100000
set_option maxHeartbeats 4000000
namespace Msw
open PySem L2 Msq
section
variable {P : Program} {w : World} {K : PySem.W.Frag} {mg : Str → Option Value} {base : Heap} {C fS fL : Addr}
theorem ok_size_of (T : Txt K mg C fS fL) (D : Dfn K mg "size_of" s_size_of ["prime", "degree"]) : Hs P w K mg base 1 "size_of" ["prime", "degree"] sp_size_of := by
  obtain ⟨f, fd, F, g, b⟩ := D
  refine ⟨f, fd, F.ok sc_size_of (fun vs H Q E h => ?_) (fun cdv A outer s H vs Q E hr h => ?_), g, F.kp, b⟩
  · obtain ⟨p, n, rfl, _⟩ := h
    rfl
  · obtain ⟨p, n, rfl, ⟨p0, p9⟩, n12, k⟩ := h
    refine ⟨_, (pss_cons (ps_set (i := 2) sc_size_of.nd rfl (Or.inl rfl) pe_int)
      (pss_cons (ps_for PassesOwn.never rfl (pi_range1 rfl T.range_ (pa_cons (pv 1) pa_nil)) (pg_name (i := 3) sc_size_of.nd rfl (Or.inl rfl))
        (pss_one (ps_aug (i := 2) sc_size_of.nd rfl (Or.inl rfl) (pv 0) iop_mul)))
      (pss_one (ps_ret (pv 2))))), ?_⟩
    refine ⟨_, rfl, (n : Int), rfl, by omega, by omega, ?_⟩
    refine for_range (lo := 0) (n := (n : Int).toNat) (fun i σ H' => ∃ v, σ = [some (.int p), some (.int n), some (.int (p ^ i)), v] ∧ Same H H') ⟨none, by rw [Int.pow_zero]; rfl, Same.refl H⟩ ?_ ?_
    · rintro i σ H1 hi ⟨v, rfl, s1⟩
      refine ⟨_, rfl, _, rfl, _, _, rfl, rfl, mul_ok p0 (by omega), some (.int (0 + (i : Int))), ?_, s1⟩
      rw [Int.pow_succ]
      rfl
    · rintro σ H1 ⟨v, rfl, s1⟩
      refine ⟨_, rfl, ?_⟩
      rw [Int.toNat_natCast]
      exact k H1 s1
end
end Msw
set_option maxRecDepth 100000
set_option maxHeartbeats 4000000
namespace Msw
open PySem L2 Msq
section
variable {P : Program} {w : World} {K : PySem.W.Frag} {mg : Str → Option Value} {base : Heap} {C fS fL : Addr}
theorem POk.q2 {P : Part} (ok : POk P) : 2 ≤ P.q := by
  have p1 := ok.p1
  have k0 := ok.k0
  obtain ⟨m, hm⟩ : ∃ m, P.lower.length = m + 1 := ⟨P.lower.length - 1, by omega⟩
  rw [Part.q, hm, Int.pow_succ]
  have h1 : 0 < P.p ^ m := Int.pow_pos (by omega)
  have h2 : 1 * 2 ≤ P.p ^ m * P.p := Int.mul_le_mul (by omega) (by omega) (by omega) (by omega)
  omega
theorem ok_inverse_of (T : Txt K mg C fS fL) (D : Dfn K mg "inverse_of" s_inverse_of ["prime", "lower", "one"]) (G_power_of : Hs P w K mg base 3 "power_of" ["prime", "lower", "one", "times"] (sp_power_of K)) (G_size_of : Hs P w K mg base 1 "size_of" ["prime", "degree"] sp_size_of) : Hs P w K mg base 4 "inverse_of" ["prime", "lower", "one"] (sp_inverse_of K) := by
  obtain ⟨f, fd, F, g, b⟩ := D
  refine ⟨f, fd, F.ok sc_inverse_of (fun vs H Q E h => ?_) (fun cdv A outer s H vs Q E hr h => ?_), g, F.kp, b⟩
  · obtain ⟨P, b, a, rfl, _⟩ := h
    rfl
  · obtain ⟨P, b, a, rfl, ok, hb, k⟩ := h
    have p1 := ok.p1
    have p2 := ok.p2
    have k0 := ok.k0
    have k4 := ok.k4
    have q2 := ok.q2
    refine ⟨_, (pss_one (ps_ret (pe_c G_power_of (hr.mono (by decide)) rfl (pa_cons (pv 0) (pa_cons (pv 1) (pa_cons (pv 2) (pa_cons (pe_op op_sub (pe_c G_size_of (hr.mono (by decide)) rfl (pa_cons (pv 0) (pa_cons (pe_callB call_len_seq rfl T.len_ (by decide +kernel) (pa_cons (pv 1) pa_nil)) pa_nil))) pe_int) pa_nil))))))), ?_⟩
    refine ⟨_, rfl, _, rfl, _, rfl, _, rfl, _, rfl, b, _, rfl, .inr hb, ?_⟩
    rw [vints_len]
    refine ⟨P.p, P.lower.length, rfl, ⟨by omega, by omega⟩, by omega, fun H1 s1 => ?_⟩
    refine ⟨_, _, rfl, rfl, ?_⟩
    have e : P.p ^ P.lower.length - 2 = (((P.q - 2).toNat : Nat) : Int) := by
      rw [Int.toNat_of_nonneg (by omega)]
      rfl
    have eraw : ∀ xs : List V, xs = [.int P.p, .ref b, .int a, .int (P.p ^ P.lower.length - 2)] → xs = [.int P.p, .ref b, .int a, .int (((P.q - 2).toNat : Nat) : Int)] := fun xs h => by rw [h, e]
    refine ⟨P, b, a, (P.q - 2).toNat, eraw _ rfl, ok, Same.sqt s1 hb, fun H2 s2 => ?_⟩
    exact k H2 (s1.trans s2)
end
end Msw
set_option maxRecDepth 100000
set_option maxHeartbeats 4000000
namespace Msw
open PySem L2 Msq
section
variable {P : Program} {w : World} {K : PySem.W.Frag} {mg : Str → Option Value} {base : Heap} {C fS fL : Addr}
theorem ok_product_of (T : Txt K mg C fS fL) (D : Dfn K mg "product_of" s_product_of ["prime", "lower", "one", "other"]) (G_figures_of : Hs P w K mg base 1 "figures_of" ["prime", "many", "number"] sp_figures_of) (G_multiplied : Hs P w K mg base 1 "multiplied" ["prime", "one", "other"] (sp_multiplied K)) (G_number_of : Hs P w K mg base 1 "number_of" ["prime", "figures"] (sp_number_of K)) (G_remainder : Hs P w K mg base 1 "remainder" ["prime", "lower", "figures"] (sp_remainder K)) : Hs P w K mg base 2 "product_of" ["prime", "lower", "one", "other"] (sp_product_of K) := by
  obtain ⟨f, fd, F, g, b⟩ := D
  refine ⟨f, fd, F.ok sc_product_of (fun vs H Q E h => ?_) (fun cdv A outer s H vs Q E hr h => ?_), g, F.kp, b⟩
  · obtain ⟨P, b, a, c, rfl, _⟩ := h
    rfl
  · obtain ⟨P, b, a, c, rfl, ok, hb, k⟩ := h
    have p1 := ok.p1
    have p2 := ok.p2
    have k0 := ok.k0
    have k4 := ok.k4
    have hfb : 0 < P.p ∧ P.p ≤ 999983 := ⟨by omega, by omega⟩
    refine ⟨_, (pss_cons (ps_set (i := 4) sc_product_of.nd rfl (Or.inl rfl) (pe_callB call_len_seq rfl T.len_ (by decide +kernel) (pa_cons (pv 1) pa_nil)))
      (pss_cons (ps_set (i := 5) sc_product_of.nd rfl (Or.inl rfl) (pe_c G_multiplied (hr.mono (by decide)) rfl (pa_cons (pv 0) (pa_cons (pe_c G_figures_of (hr.mono (by decide)) rfl (pa_cons (pv 0) (pa_cons (pv 4) (pa_cons (pv 2) pa_nil)))) (pa_cons (pe_c G_figures_of (hr.mono (by decide)) rfl (pa_cons (pv 0) (pa_cons (pv 4) (pa_cons (pv 3) pa_nil)))) pa_nil)))))
      (pss_one (ps_ret (pe_c G_number_of (hr.mono (by decide)) rfl (pa_cons (pv 0) (pa_cons (pe_c G_remainder (hr.mono (by decide)) rfl (pa_cons (pv 0) (pa_cons (pv 1) (pa_cons (pv 5) pa_nil)))) pa_nil))))))), ?_⟩
    refine ⟨_, rfl, b, _, rfl, .inr hb, ?_⟩
    rw [vints_len]
    refine ⟨_, rfl, _, rfl, _, rfl, _, rfl, P.p, P.lower.length, a, rfl, hfb, by omega, fun F1 H1 s1 f1 h1 => ?_⟩
    refine ⟨_, rfl, _, rfl, _, rfl, P.p, P.lower.length, c, rfl, hfb, by omega, fun F2 H2 s2 f2 h2 => ?_⟩
    refine ⟨P.p, F1, _, F2, _, rfl, hfb, s2.seq (SqL.of h1), SqL.of h2, figs_dg (by omega) _ _, by rw [figs_len]; omega, by rw [figs_len]; omega, fun M H3 s3 f3 h3 => ?_⟩
    refine ⟨_, rfl, _, rfl, _, rfl, _, rfl, P.p, (b, true), P.lower, M, _, rfl, hfb, Same.sqt (s1.trans (s2.trans s3)) hb, ok.dg, SqL.of h3, by omega, by rw [mult_len, figs_len, figs_len]; omega, fun R H4 s4 f4 h4 => ?_⟩
    refine ⟨P.p, R, _, rfl, hfb, SqL.of h4, by rw [rema_len]; omega, fun H5 s5 => ?_⟩
    rw [show num P.p (rema P.p P.lower (mult P.p (figs P.p P.lower.length a) (figs P.p P.lower.length c))) = fmul P a c from fmul_is p1 k0 a c]
    exact k H5 (s1.trans (s2.trans (s3.trans (s4.trans s5))))
end
end Msw
set_option maxRecDepth 100000
set_option maxHeartbeats 4000000
namespace Msw
open PySem L2 Msq
section
variable {P : Program} {w : World} {K : PySem.W.Frag} {mg : Str → Option Value} {base : Heap} {C fS fL : Addr}
theorem tms_at {j : Int} : ∀ {Ps : List Part} {cs : List Int} {i : Nat} {P : Part} {c : Int}, Ps[i]? = some P → cs[i]? = some c → (tms j Ps cs)[i]? = some (fmul P j c)
  | P :: Ps, c :: cs, 0, _, _, h1, h2 => by
    have e1 := Option.some.inj h1
    have e2 := Option.some.inj h2
    subst e1 e2
    rfl
  | P :: Ps, c :: cs, i + 1, _, _, h1, h2 => tms_at (Ps := Ps) (cs := cs) (i := i) h1 h2
theorem tms_len {j : Int} : ∀ {Ps : List Part} {cs : List Int}, cs.length = Ps.length → (tms j Ps cs).length = Ps.length
  | [], [], _ => rfl
  | P :: Ps, c :: cs, h => by simpa [tms] using tms_len (j := j) (Ps := Ps) (cs := cs) (by simpa using h)
theorem ok_kind_of (T : Txt K mg C fS fL) (D : Dfn K mg "kind_of" s_kind_of ["family", "apart", "across"]) (G_inverse_of : Hs P w K mg base 4 "inverse_of" ["prime", "lower", "one"] (sp_inverse_of K)) (G_product_of : Hs P w K mg base 2 "product_of" ["prime", "lower", "one", "other"] (sp_product_of K)) : Hs P w K mg base 5 "kind_of" ["family", "apart", "across"] (sp_kind_of K C) := by
  obtain ⟨f, fd, F, g, b⟩ := D
  refine ⟨f, fd, F.ok sc_kind_of (fun vs H Q E h => ?_) (fun cdv A outer s H vs Q E hr h => ?_), g, F.kp, b⟩
  · obtain ⟨x, Ps, a, b, cs, j, rfl, _⟩ := h
    rfl
  · obtain ⟨x, Ps, a, b, cs, j, rfl, hF, ok, ha, hb, els, hne, hj, k⟩ := h
    obtain ⟨dx, aP, aS, aL, tP, tL, h1, h2, h3, h4, h5, h6⟩ := hF.ex
    have lc := els_len els
    have lt := tms_len (j := j) lc
    have hkd : Kd Ps j := Kn.kd ⟨by omega, hj.2⟩ (by omega)
    refine ⟨_, (pss_cons (ps_set (i := 3) sc_kind_of.nd rfl (Or.inl rfl) pe_non)
      (pss_cons (ps_for PassesOwn.never rfl (Msz.pi_zipN rfl T.zip_ (pa_cons (pe_fld (pv 0) rfl) (pa_cons (pe_fld (pv 0) rfl) (pa_cons (pv 1) (pa_cons (pv 2) pa_nil))))) (pg_tup rfl (pgs_cons (pg_tup rfl (pgs_cons (pg_name (i := 4) sc_kind_of.nd rfl (Or.inl rfl)) (pgs_cons (pg_name (i := 5) sc_kind_of.nd rfl (Or.inl rfl)) pgs_nil))) (pgs_cons (pg_name (i := 6) sc_kind_of.nd rfl (Or.inl rfl)) (pgs_cons (pg_name (i := 7) sc_kind_of.nd rfl (Or.inl rfl)) (pgs_cons (pg_name (i := 8) sc_kind_of.nd rfl (Or.inl rfl)) pgs_nil)))))
        (pss_cons (ps_if (pt_cmpR op_eq (pv 8) pe_int (nomark _)) (pss_cons (ps_if (pt_cmpR op_ne (pv 7) pe_int (nomark _)) (pss_one (ps_ret pe_non)) pss_nil)
          (pss_one (ps_continue))) pss_nil)
        (pss_cons (ps_set (i := 9) sc_kind_of.nd rfl (Or.inl rfl) (pe_c G_product_of (hr.mono (by decide)) rfl (pa_cons (pv 4) (pa_cons (pv 6) (pa_cons (pv 7) (pa_cons (pe_c G_inverse_of (hr.mono (by decide)) rfl (pa_cons (pv 4) (pa_cons (pv 6) (pa_cons (pv 8) pa_nil)))) pa_nil))))))
        (pss_cons (ps_if (pt_cmpR op_notIn_seq (pv 3) (pe_tup (pa_cons pe_non (pa_cons (pv 9) pa_nil))) (by with_unfolding_all rfl)) (pss_one (ps_ret pe_non)) pss_nil)
        (pss_one (ps_set (i := 3) sc_kind_of.nd rfl (Or.inl rfl) (pv 9)))))))
      (pss_one (ps_ret (pe_ifExp (PW.pt (pw_or (pt_cmpR op_isN (pv 3) pe_non (by with_unfolding_all rfl)) (pw_or1 (pt_cmpR op_le (pv 3) (pe_fld (pv 0) rfl) (nomark _))))) (pv 3) pe_non))))), ?_⟩
    refine ⟨_, rfl, x, C, dx, _, _, rfl, h1, T.cl, T.n_parts, lk_parts _ _ _ _ _, _, rfl, x, C, dx, _, _, rfl, h1, T.cl, T.n_lowers, lk_lowers _ _ _ _ _, _, rfl, _, rfl, ?_⟩
    refine ⟨[(aP, true), (aL, true), (a, false), (b, false)], rfl, ⟨by simp, by simp⟩, ?_, ?_⟩
    · intro p hp
      simp only [List.mem_cons, List.not_mem_nil, or_false] at hp
      rcases hp with rfl | rfl | rfl | rfl
      · exact ⟨_, SqT.of h2⟩
      · exact ⟨_, SqT.of h5⟩
      · exact ⟨_, ha⟩
      · exact ⟨_, hb⟩
    refine fz (K := K) (ss := [(aP, true), (aL, true), (a, false), (b, false)]) (ls := [vrefs tP, vrefs tL, vints (tms j Ps cs), vints cs]) (n := Ps.length) (by simp) (fun i σ H' => ∃ (v : V) (v4 v5 v6 v7 v8 v9 : Option V), σ = [some (.ref x), some (.ref a), some (.ref b), some v, v4, v5, v6, v7, v8, v9] ∧ Same H H' ∧ ((v = .non ∧ ∀ m y, m < i → cs[m]? = some y → y = 0) ∨ v = .int j)) ⟨.non, none, none, none, none, none, none, rfl, Same.refl H, .inl ⟨rfl, fun m y h => by omega⟩⟩ ?_ ?_ ?_
    · rintro i σ H3 ⟨_, _, _, _, _, _, _, _, u1, _⟩
      exact .cons (SqT.of (u1 _ _ h2)) (by simp [h3.1]) (.cons (SqT.of (u1 _ _ h5)) (by simp [h6.1]) (.cons (u1.seq ha) (by simp [lt]) (.cons (u1.seq hb) (by simp [lc]) .nil)))
    · rintro i T1 σ H3 hi ⟨v, v4, v5, v6, v7, v8, v9, rfl, u1, hv⟩ hT
      obtain ⟨R, hR⟩ := some_at (l := Ps) rfl hi
      obtain ⟨tp, htp⟩ := some_at (l := tP) h3.1 hi
      obtain ⟨tl, htl⟩ := some_at (l := tL) h6.1 hi
      obtain ⟨c, hc⟩ := some_at (l := cs) lc hi
      have hd := tms_at (j := j) hR hc
      have pok := ok.at hR
      have F' := ok.fat hR
      have ec := els_at els hR hc
      have ej : El R j := ⟨hkd.1, hkd.2 R (List.mem_of_getElem? hR)⟩
      have ev : ([vrefs tP, vrefs tL, vints (tms j Ps cs), vints cs].map fun l => l.getD i V.non) = [V.ref tp, V.ref tl, V.int (fmul R j c), V.int c] := by
        rw [List.map_cons, List.map_cons, List.map_cons, List.map_cons, List.map_nil, vr_at htp, vr_at htl, vi_at hd, vi_at hc]
      rw [ev]
      have u2 := u1.trans (same_new (o := .tup [V.ref tp, V.ref tl, V.int (fmul R j c), V.int c]) hT)
      refine ⟨T1, _, rfl, SqT.of upd_same, rfl, _, _, rfl, ⟨tp, _, rfl, SqT.of (u2 _ _ (h3.2 i _ _ htp hR)), rfl, _, _, rfl, _, _, rfl, rfl, _, _, rfl, _, _, rfl, _, _, rfl, rfl, ?_⟩⟩
      refine ⟨_, rfl, rfl, _, rfl, ?_⟩
      by_cases hc0 : c = 0
      · have e1 : decide (V.int c = V.int 0) = true := decide_eq_true (by rw [hc0])
        show if decide (V.int c = V.int 0) = true then _ else _
        rw [e1]
        have e2 : fmul R j c = 0 := by rw [hc0]; exact F'.mul_zero j
        refine iteT ⟨_, rfl, rfl, _, rfl, ?_⟩
        have e3 : (!decide (V.int (fmul R j c) = V.int 0)) = false := by rw [e2]; rfl
        show if (!decide (V.int (fmul R j c) = V.int 0)) = true then _ else _
        rw [e3]
        refine iteF ?_
        refine ⟨v, _, _, _, _, _, _, rfl, u2, ?_⟩
        rcases hv with ⟨rfl, hz⟩ | rfl
        · refine .inl ⟨rfl, fun m y hm hy => ?_⟩
          by_cases hmi : m = i
          · subst hmi
            rw [hc] at hy
            rw [← Option.some.inj hy]
            exact hc0
          · exact hz m y (by omega) hy
        · exact .inr rfl
      · have e1 : decide (V.int c = V.int 0) = false := decide_eq_false (fun q => hc0 (V.int.inj q))
        show if decide (V.int c = V.int 0) = true then _ else _
        rw [e1]
        have hTR : SqT K _ tl (vints R.lower) := SqT.of (u2 _ _ (h6.2 i _ _ htl hR))
        refine iteF ⟨_, rfl, _, rfl, _, rfl, _, rfl, _, rfl, _, rfl, R, tl, c, rfl, pok, hTR, fun H4 u4 => ?_⟩
        refine ⟨R, tl, fmul R j c, finv R c, rfl, pok, Same.sqt u4 hTR, fun H5 u5 => ?_⟩
        rw [F'.mul_inv (by have := ec.1; omega) ec.2 ej]
        have u6 := u2.trans (u4.trans u5)
        refine ⟨_, rfl, _, rfl, by show 2 ≤ sizeLine; decide, fun z hz => ?_⟩
        have u7 := u6.trans (same_new (o := .tup [V.non, V.int j]) hz)
        have hfv : flatV v = true := by rcases hv with ⟨rfl, _⟩ | rfl <;> rfl
        have hin : inV v [V.non, V.int j] = true := by
          rcases hv with ⟨rfl, _⟩ | rfl
          · rfl
          · simp [inV, eqV]
        refine ⟨z, _, rfl, .inr (SqT.of upd_same), hfv, rfl, _, rfl, ?_⟩
        show if (!inV v [V.non, V.int j]) = true then _ else _
        rw [hin]
        refine iteF ⟨_, rfl, ?_⟩
        exact ⟨.int j, _, _, _, _, _, _, rfl, u7, .inr rfl⟩
    · rintro σ H3 ⟨v, v4, v5, v6, v7, v8, v9, rfl, u1, hv⟩
      have hv' : v = .int j := by
        rcases hv with ⟨_, hz⟩ | h
        · obtain ⟨y, hy, hy0⟩ := hne
          obtain ⟨m, hm⟩ := List.getElem?_of_mem hy
          exact absurd (hz m y (by have := (List.getElem?_eq_some_iff.mp hm).1; omega) hm) hy0
        · exact h
      subst hv'
      refine ⟨_, rfl, rfl, _, rfl, ?_⟩
      have e1 : decide (V.int j = V.non) = false := decide_eq_false (fun q => by cases q)
      show if decide (V.int j = V.non) = true then _ else _
      rw [e1]
      refine iteF ⟨_, rfl, _, rfl, x, C, dx, _, _, rfl, u1 _ _ h1, T.cl, T.n_many, lk_many _ _ _ _ _, _, _, rfl, rfl, _, rfl, ?_⟩
      have e2 : decide (j ≤ manyP Ps) = true := decide_eq_true hj.2
      show if decide (j ≤ manyP Ps) = true then _ else _
      rw [e2]
      refine iteT ⟨_, rfl, ?_⟩
      exact k H3 u1
end
end Msw
set_option maxRecDepth 100000
set_option maxHeartbeats 4000000
namespace Msw
open PySem L2 Msq
section
variable {P : Program} {w : World} {K : PySem.W.Frag} {mg : Str → Option Value} {base : Heap} {C fS fL : Addr}
theorem ok_F_check_point (T : Txt K mg C fS fL) (D : Mtd K C "check_point" "Family.check_point" s_F_check_point ["self", "point"]) : Hm P w K mg base C 1 "check_point" ["self", "point"] (sp_F_check_point C) := by
  obtain ⟨f, fd, F, g, b⟩ := D
  refine ⟨f, fd, F.ok sc_F_check_point (fun vs H Q E h => ?_) (fun cdv A outer s H vs Q E hr h => ?_), g, b⟩
  · obtain ⟨x, Ps, j, rfl, _⟩ := h
    rfl
  · obtain ⟨x, Ps, j, rfl, hF, hk, k⟩ := h
    obtain ⟨dx, aP, aS, aL, tP, tL, h1, h2, h3, h4, h5, h6⟩ := hF.ex
    refine ⟨_, (pss_one (ps_if (pt_not (pt_chain op_le op_lt pe_int (pv 1) (pe_fld (pv 0) rfl))) (pss_one (ps_never)) pss_nil)), ?_⟩
    refine ⟨_, rfl, _, _, rfl, rfl, _, rfl, ?_⟩
    have c1 : decide ((0 : Int) ≤ j) = true := decide_eq_true hk.1
    show if decide ((0 : Int) ≤ j) = true then _ else _
    rw [c1]
    refine iteT ⟨_, rfl, x, C, dx, _, _, rfl, h1, T.cl, T.n_order, lk_order _ _ _ _ _, _, _, rfl, rfl, _, rfl, ?_⟩
    have c2 : decide (j < ordP Ps) = true := decide_eq_true hk.2
    show if (!decide (j < ordP Ps)) = true then _ else _
    rw [c2]
    refine iteF ?_
    exact k H (Same.refl H)
end
end Msw
set_option maxRecDepth 100000
set_option maxHeartbeats 4000000
namespace Msw
open PySem L2 Msq
section
variable {P : Program} {w : World} {K : PySem.W.Frag} {mg : Str → Option Value} {base : Heap} {C fS fL : Addr}
theorem cell_sh (r c : Int) : SeqAt.shaped (.tuple [.int r, .int c]) = true := by rfl
theorem cell_ne {r c s d : Int} (h : ¬ (r = s ∧ c = d)) : PyData.eqv (.tuple [.int r, .int c]) (.tuple [.int s, .int d]) = false := by
  rw [Bool.eq_false_iff]
  intro e
  simp [PyData.eqv, PyData.eqvAll] at e
  exact h e
theorem ok_agreement (T : Txt K mg C fS fL) (D : Dfn K mg "agreement" s_agreement ["family", "cell", "other"]) (G_apart_of : Hs P w K mg base 2 "apart_of" ["family", "one", "other"] (sp_apart_of C)) (G_kind_of : Hs P w K mg base 5 "kind_of" ["family", "apart", "across"] (sp_kind_of K C)) (G_F_check_point : Hm P w K mg base C 1 "check_point" ["self", "point"] (sp_F_check_point C)) : Hs P w K mg base 6 "agreement" ["family", "cell", "other"] (sp_agreement K C) := by
  obtain ⟨f, fd, F, g, b⟩ := D
  refine ⟨f, fd, F.ok sc_agreement (fun vs H Q E h => ?_) (fun cdv A outer s H vs Q E hr h => ?_), g, F.kp, b⟩
  · obtain ⟨x, Ps, a, b, r, c, s0, d, j, rfl, _⟩ := h
    rfl
  · obtain ⟨x, Ps, a, b, r, c, s0, d, j, rfl, hF, ok, ha, hb, ⟨pr, pc, ps, pd⟩, hj, k⟩ := h
    obtain ⟨dx, aP, aS, aL, tP, tL, h1, h2, h3, h4, h5, h6⟩ := hF.ex
    refine ⟨_, (pss_cons (ps_for PassesOwn.never rfl (pi_tup (pe_tup (StX.pa_star (pv 1) (StX.pa_star (pv 2) pa_nil)))) (pg_name (i := 3) sc_agreement.nd rfl (Or.inl rfl))
        (pss_one (ps_expr (pe_m T.cl G_F_check_point (hr.mono (by decide)) (pv 0) (pa_cons (pv 3) pa_nil)))))
      (pss_cons (ps_if (pt_cmpR (op_eqD hr.units) (pe_callTy call_tuple_of rfl T.tuple_ (by decide +kernel) (pa_cons (pv 1) pa_nil)) (pe_callTy call_tuple_of rfl T.tuple_ (by decide +kernel) (pa_cons (pv 2) pa_nil)) (nomark _)) (pss_one (ps_never)) pss_nil)
      (pss_cons (ps_if (pt_cmpR op_eq (pe_ix (r := rIxT K) ix_tup (pv 1) pe_int (fun _ _ => rfl)) (pe_ix (r := rIxT K) ix_tup (pv 2) pe_int (fun _ _ => rfl)) (nomark _)) (pss_one (ps_ret (pe_gi T.COLUMN))) pss_nil)
      (pss_one (ps_ret (pe_c G_kind_of (hr.mono (by decide)) rfl (pa_cons (pv 0) (pa_cons (pe_c G_apart_of (hr.mono (by decide)) rfl (pa_cons (pv 0) (pa_cons (pe_ix (r := rIxT K) ix_tup (pv 1) pe_int (fun _ _ => rfl)) (pa_cons (pe_ix (r := rIxT K) ix_tup (pv 2) pe_int (fun _ _ => rfl)) pa_nil)))) (pa_cons (pe_c G_apart_of (hr.mono (by decide)) rfl (pa_cons (pv 0) (pa_cons (pe_ix (r := rIxT K) ix_tup (pv 2) pe_int (fun _ _ => rfl)) (pa_cons (pe_ix (r := rIxT K) ix_tup (pv 1) pe_int (fun _ _ => rfl)) pa_nil)))) pa_nil))))))))), ?_⟩
    refine ⟨_, rfl, a, _, rfl, .inl ha, _, rfl, b, _, rfl, .inl hb, by show 4 ≤ sizeLine; decide, fun z hz => ?_⟩
    have s1 : Same H (upd H z (.tup [.int r, .int c, .int s0, .int d])) := same_new hz
    refine ⟨z, rfl, ⟨[.int r, .int c, .int s0, .int d], SqT.of upd_same⟩, ?_⟩
    refine ft (K := K) (a := z) (xs := [.int r, .int c, .int s0, .int d]) (fun i σ H' => ∃ (v3 : Option V), σ = [some (.ref x), some (.ref a), some (.ref b), v3] ∧ Same H H' ∧ H' z = some (.tup [.int r, .int c, .int s0, .int d])) ⟨none, rfl, s1, upd_same⟩ (fun i σ H1 _ ⟨_, _, _, t1⟩ => SqT.of t1) ?_ ?_
    · rintro m y σ H1 hy ⟨v3, rfl, t1, hz1⟩
      obtain ⟨u, rfl, hu⟩ : ∃ (u : Int), y = .int u ∧ Pt Ps u := by
        match m, hy with
        | 0, hy => exact ⟨r, (Option.some.inj hy).symm, pr⟩
        | 1, hy => exact ⟨c, (Option.some.inj hy).symm, pc⟩
        | 2, hy => exact ⟨s0, (Option.some.inj hy).symm, ps⟩
        | 3, hy => exact ⟨d, (Option.some.inj hy).symm, pd⟩
      refine ⟨_, rfl, x, dx, _, rfl, t1 _ _ h1, no_m (by decide +kernel), _, rfl, x, Ps, u, rfl, hF.up t1, hu, fun H2 s2 => ?_⟩
      exact ⟨_, rfl, t1.trans s2, s2 _ _ hz1⟩
    · rintro σ H1 ⟨v3, rfl, t1, hz1⟩
      have ha1 := Same.sqt t1 ha
      have hb1 := Same.sqt t1 hb
      refine ⟨_, rfl, a, _, rfl, .inr ⟨ha1, _, rfl, b, _, rfl, .inr ⟨hb1, ?_⟩⟩⟩
      have hne : ¬ (r = s0 ∧ c = d) := by
        rcases hj with ⟨q1, q2, _⟩ | ⟨q1, _⟩
        · exact fun e => q2 e.1
        · exact fun e => q1 e.2
      refine ⟨.tuple [.int r, .int c], .tuple [.int s0, .int d], .tup ha1 (.cons (.int _) (.cons (.int _) .nil)), .tup hb1 (.cons (.int _) (.cons (.int _) .nil)), cell_sh _ _, cell_sh _ _, _, rfl, ?_⟩
      show if PyData.eqv (.tuple [.int r, .int c]) (.tuple [.int s0, .int d]) = true then _ else _
      rw [cell_ne hne]
      refine iteF ⟨_, rfl, a, _, _, _, rfl, rfl, ha1, rfl, _, rfl, b, _, _, _, rfl, rfl, hb1, rfl, rfl, _, rfl, ?_⟩
      rcases hj with ⟨q1, q2, rfl⟩ | ⟨q1, q2, q3⟩
      · have e1 : decide (V.int c = V.int d) = true := decide_eq_true (by rw [q1])
        show if decide (V.int c = V.int d) = true then _ else _
        rw [e1]
        refine iteT ?_
        exact k H1 t1
      · have e1 : decide (V.int c = V.int d) = false := decide_eq_false (fun q => q1 (V.int.inj q))
        show if decide (V.int c = V.int d) = true then _ else _
        rw [e1]
        have hj1 : j ≠ -1 := by omega
        refine iteF ⟨_, rfl, _, rfl, _, rfl, a, _, _, _, rfl, rfl, ha1, rfl, _, rfl, b, _, _, _, rfl, rfl, hb1, rfl, x, Ps, r, s0, rfl, hF.up t1, ok, fun A1 H2 s2 f2 e2 => ?_⟩
        have t2 := t1.trans s2
        refine ⟨_, rfl, _, rfl, b, _, _, _, rfl, rfl, Same.sqt t2 hb, rfl, _, rfl, a, _, _, _, rfl, rfl, Same.sqt t2 ha, rfl, x, Ps, d, c, rfl, hF.up t2, ok, fun B1 H3 s3 f3 e3 => ?_⟩
        have t3 := t2.trans s3
        rw [Msq.apart_of ok.fld hj1 q3] at e2
        refine ⟨x, Ps, A1, B1, _, j, rfl, hF.up t3, ok, s3.seq (SqL.of e2), SqL.of e3, subs_els ok.fld (split_els ok.fld d) (split_els ok.fld c), apart_some ok.fld pc pd (fun q => q1 q.symm), q2, fun H4 s4 => ?_⟩
        exact k H4 (t3.trans s4)
end
end Msw
set_option maxRecDepth 100000
set_option maxHeartbeats 4000000
namespace Msw
open PySem L2 Msq
section
variable {P : Program} {w : World} {K : PySem.W.Frag} {mg : Str → Option Value} {base : Heap} {C fS fL : Addr}
theorem ok_is_prime (T : Txt K mg C fS fL) (D : Dfn K mg "is_prime" s_is_prime ["number"]) : Hs P w K mg base 1 "is_prime" ["number"] sp_is_prime := by
  obtain ⟨f, fd, F, g, b⟩ := D
  refine ⟨f, fd, F.ok sc_is_prime (fun vs H Q E h => ?_) (fun cdv A outer s H vs Q E hr h => ?_), g, F.kp, b⟩
  · obtain ⟨n, rfl, _⟩ := h
    rfl
  · obtain ⟨n, rfl, ⟨n2, n9⟩, ht, k⟩ := h
    refine ⟨_, (pss_cons (ps_set (i := 1) sc_is_prime.nd rfl (Or.inl rfl) pe_int)
      (pss_cons (ps_while PassesOwn.never (pt_cmpR op_le (pe_op op_mul (pv 1) (pv 1)) (pv 0) (nomark _))
        (pss_cons (ps_if (pt_cmpR op_eq (pe_op op_mod (pv 0) (pv 1)) pe_int (nomark _)) (pss_one (ps_ret pe_bl)) pss_nil)
        (pss_one (ps_aug (i := 1) sc_is_prime.nd rfl (Or.inl rfl) pe_int iop_add))))
      (pss_one (ps_ret (pe_cmpR op_gt (pv 0) pe_int (nomark _)))))), ?_⟩
    refine wl (fun m σ H' => ∃ d : Nat, σ = [some (.int n), some (.int d)] ∧ Same H H' ∧ 2 ≤ d ∧ d ≤ n + 1 ∧ m = n + 1 - d) (n - 1) ⟨2, rfl, Same.refl H, by omega, by omega, by omega⟩ ?_
    rintro m σ H1 ⟨d, rfl, s1, d2, dn, rfl⟩
    refine ⟨_, rfl, _, rfl, _, _, rfl, rfl, .inl ⟨by omega, by omega⟩, _, rfl, _, _, rfl, rfl, _, rfl, ?_⟩
    refine ite2 (fun hle => ?_) (fun hgt => ?_)
    · have hle' : d * d ≤ n := by
        have e : (d : Int) * d ≤ n := of_decide_eq_true hle
        exact_mod_cast e
      have hdn : d ≤ n := Nat.le_trans (Nat.le_mul_of_pos_right d (by omega)) hle'
      refine ⟨_, fun _ _ h => h, ?_⟩
      refine ⟨_, rfl, _, rfl, _, _, rfl, rfl, (show (0 : Int) < d by omega), rfl, _, rfl, ?_⟩
      have hne : ¬ (V.int ((n : Int) % (d : Int)) = V.int 0) := by
        intro e
        injection e with e
        have := trial_ok 1001 2 ht d d2 hle'
        omega
      refine ite2 (fun e => absurd (of_decide_eq_true e) hne) (fun _ => ?_)
      refine ⟨_, rfl, _, _, rfl, rfl, n + 1 - (d + 1), by omega, d + 1, rfl, s1, by omega, by omega, rfl⟩
    · refine ⟨_, rfl, _, _, rfl, rfl, ?_⟩
      have e : decide ((1 : Int) < (n : Int)) = true := decide_eq_true (by omega)
      show Q (V.bl (decide ((1 : Int) < (n : Int)))) H1
      rw [e]
      exact k H1 s1
end
end Msw
set_option maxRecDepth 100000
set_option maxHeartbeats 4000000
namespace Msw
open PySem L2 Msq
section
variable {P : Program} {w : World} {K : PySem.W.Frag} {mg : Str → Option Value} {base : Heap} {C fS fL : Addr}
theorem ok_is_field (T : Txt K mg C fS fL) (D : Dfn K mg "is_field" s_is_field ["prime", "degree"]) (G_is_prime : Hs P w K mg base 1 "is_prime" ["number"] sp_is_prime) (G_size_of : Hs P w K mg base 1 "size_of" ["prime", "degree"] sp_size_of) : Hs P w K mg base 2 "is_field" ["prime", "degree"] sp_is_field := by
  obtain ⟨f, fd, F, g, b⟩ := D
  refine ⟨f, fd, F.ok sc_is_field (fun vs H Q E h => ?_) (fun cdv A outer s H vs Q E hr h => ?_), g, F.kp, b⟩
  · obtain ⟨e, rfl, _⟩ := h
    rfl
  · obtain ⟨e, rfl, he, k⟩ := h
    have o := ent_ok he
    have o1 := o.p1
    have o2 := o.p2
    have o3 := o.k4
    have o4 := o.k0
    refine ⟨_, (pss_cons (ps_if (pt_cmpR op_eq (pv 1) pe_int (nomark _)) (pss_one (ps_ret (pe_and (pe_cmpR op_le (pv 0) (pe_gi T.MOST_PRIME) (nomark _)) (pe_one (pe_c G_is_prime (hr.mono (by decide)) rfl (pa_cons (pv 0) pa_nil)))))) pss_nil)
      (pss_cons (ps_if (PW.pt (pw_or (pt_not (pt_chain op_le op_le pe_int (pv 1) (pe_gi T.MOST_DEGREE))) (pw_or1 (pt_not (pt_chain op_le op_le pe_int (pv 0) (pe_gi T.MOST_BASE)))))) (pss_one (ps_ret pe_bl)) pss_nil)
      (pss_one (ps_ret (pe_and (pe_c G_is_prime (hr.mono (by decide)) rfl (pa_cons (pv 0) pa_nil)) (pe_one (pe_cmpR op_le (pe_c G_size_of (hr.mono (by decide)) rfl (pa_cons (pv 0) (pa_cons (pv 1) pa_nil))) (pe_gi T.MOST_SIZE) (nomark _)))))))), ?_⟩
    refine ⟨_, rfl, rfl, _, rfl, ?_⟩
    refine ite2 (fun hk => ?_) (fun hk => ?_)
    · -- the degree is 1
      refine ⟨_, rfl, _, _, rfl, rfl, _, rfl, ?_⟩
      have e1 : decide ((e.p : Int) ≤ 1000000) = true := decide_eq_true (by omega)
      show if decide ((e.p : Int) ≤ 1000000) = true then _ else _
      rw [e1]
      refine iteT ⟨_, rfl, e.p, rfl, ⟨by omega, by omega⟩, o.tr, fun H1 s1 => k H1 s1⟩
    · have hk1 : e.k ≠ 1 := by
        intro q
        apply hk
        rw [q]
        exact decide_eq_true rfl
      have hp := o.kp.resolve_left hk1
      refine ⟨_, rfl, _, _, rfl, rfl, _, rfl, ?_⟩
      have c1 : decide ((2 : Int) ≤ (e.k : Int)) = true := decide_eq_true (by omega)
      have c2 : decide ((e.k : Int) ≤ 12) = true := decide_eq_true (by omega)
      have c3 : decide ((2 : Int) ≤ (e.p : Int)) = true := decide_eq_true (by omega)
      have c4 : decide ((e.p : Int) ≤ 97) = true := decide_eq_true (by omega)
      show if decide ((2 : Int) ≤ (e.k : Int)) = true then _ else _
      rw [c1]
      refine iteT ⟨_, _, rfl, rfl, _, rfl, ?_⟩
      show if (!decide ((e.k : Int) ≤ 12)) = true then _ else _
      rw [c2]
      refine iteF ⟨_, rfl, _, _, rfl, rfl, _, rfl, ?_⟩
      show if decide ((2 : Int) ≤ (e.p : Int)) = true then _ else _
      rw [c3]
      refine iteT ⟨_, _, rfl, rfl, _, rfl, ?_⟩
      show if (!decide ((e.p : Int) ≤ 97)) = true then _ else _
      rw [c4]
      refine iteF ?_
      refine ⟨_, rfl, e.p, rfl, ⟨by omega, by omega⟩, o.tr, fun H1 s1 => ⟨_, rfl, ?_⟩⟩
      refine iteT ⟨_, rfl, _, rfl, e.p, e.k, rfl, ⟨by omega, by omega⟩, by omega, fun H2 s2 => ⟨_, _, rfl, rfl, ?_⟩⟩
      have c5 : decide ((e.p : Int) ^ e.k ≤ 1000000000000000) = true := decide_eq_true (by
        have := ent_small he
        rw [← Int.natCast_pow]
        omega)
      show Q (V.bl (decide ((e.p : Int) ^ e.k ≤ 1000000000000000))) H2
      rw [c5]
      exact k H2 (s1.trans s2)
end
end Msw
set_option maxRecDepth 100000
set_option maxHeartbeats 4000000
namespace Msw
open PySem L2 Msq
section
variable {P : Program} {w : World} {K : PySem.W.Frag} {mg : Str → Option Value} {base : Heap} {C fS fL : Addr}
theorem ok_check_field (T : Txt K mg C fS fL) (D : Dfn K mg "check_field" s_check_field ["prime", "degree"]) (G_is_field : Hs P w K mg base 2 "is_field" ["prime", "degree"] sp_is_field) : Hs P w K mg base 3 "check_field" ["prime", "degree"] sp_check_field := by
  obtain ⟨f, fd, F, g, b⟩ := D
  refine ⟨f, fd, F.ok sc_check_field (fun vs H Q E h => ?_) (fun cdv A outer s H vs Q E hr h => ?_), g, F.kp, b⟩
  · obtain ⟨e, rfl, _⟩ := h
    rfl
  · obtain ⟨e, rfl, he, k⟩ := h
    refine ⟨_, (pss_one (ps_if (pt_not (pt_val (pe_c G_is_field (hr.mono (by decide)) rfl (pa_cons (pv 0) (pa_cons (pv 1) pa_nil))))) (pss_one (ps_never)) pss_nil)), ?_⟩
    refine ⟨_, rfl, _, rfl, e, rfl, he, fun H1 s1 => ⟨_, rfl, ?_⟩⟩
    exact iteF (k H1 s1)
end
end Msw
set_option maxRecDepth 100000
set_option maxHeartbeats 4000000
namespace Msw
open PySem L2 Msq
section
variable {P : Program} {w : World} {K : PySem.W.Frag} {mg : Str → Option Value} {base : Heap} {C fS fL : Addr}
theorem ok_trimmed (T : Txt K mg C fS fL) (D : Dfn K mg "trimmed" s_trimmed ["figures"]) : Hs P w K mg base 1 "trimmed" ["figures"] (sp_trimmed K) := by
  obtain ⟨f, fd, F, g, b⟩ := D
  refine ⟨f, fd, F.ok sc_trimmed (fun vs H Q E h => ?_) (fun cdv A outer s H vs Q E hr h => ?_), g, F.kp, b⟩
  · obtain ⟨a, l, rfl, _⟩ := h
    rfl
  · obtain ⟨a, l, rfl, ha, l1, k⟩ := h
    refine ⟨_, (pss_cons (ps_set (i := 1) sc_trimmed.nd rfl (Or.inl rfl) (pe_callB call_len_seq rfl T.len_ (by decide +kernel) (pa_cons (pv 0) pa_nil)))
      (pss_cons (ps_while PassesOwn.never (PW.pt (pw_and (pt_cmpR op_gt (pv 1) pe_int (nomark _)) (pw_and1 (pt_cmpR op_eq (pe_ix (r := rIxL K) ix_list (pv 0) (pe_op op_sub (pv 1) pe_int) (fun _ _ => rfl)) pe_int (nomark _)))))
        (pss_one (ps_aug (i := 1) sc_trimmed.nd rfl (Or.inl rfl) pe_int iop_sub)))
      (pss_one (ps_ret (pe_callTy call_list_of rfl T.list_ (by decide +kernel) (pa_cons (pe_slice sl_list (pv 0) po_none (po_some (pv 1))) pa_nil)))))), ?_⟩
    refine ⟨_, rfl, a, _, rfl, .inl ha, ?_⟩
    rw [vints_len]
    refine wl (fun m σ H' => ∃ (t : Nat), σ = [some (.ref a), some (.int t)] ∧ Same H H' ∧ t ≤ l.length ∧ trimN l t = trimN l l.length ∧ t = m) _ ⟨l.length, rfl, Same.refl H, Nat.le_refl _, rfl, rfl⟩ ?_
    rintro m σ H1 ⟨t, rfl, s1, ht, e1, rfl⟩
    refine ⟨_, rfl, _, _, rfl, rfl, _, rfl, ?_⟩
    refine ite2 (fun h0 => ?_) (fun h0 => ?_)
    · have h0 : (0 : Int) < (t : Int) := of_decide_eq_true h0
      obtain ⟨t', rfl⟩ : ∃ t', t = t' + 1 := ⟨t - 1, by omega⟩
      refine ⟨_, rfl, _, rfl, _, _, rfl, rfl, a, _, _, _, rfl, rfl, s1.seq ha, at_v (j := t') (by omega) (by omega), rfl, _, rfl, ?_⟩
      rw [trimN] at e1
      by_cases hz : l.getD t' 0 = 0
      · rw [if_pos hz] at e1
        have ez : decide (V.int (l.getD t' 0) = V.int 0) = true := decide_eq_true (by rw [hz])
        show if decide (V.int (l.getD t' 0) = V.int 0) = true then _ else _
        rw [ez]
        refine iteT ⟨_, fun _ _ h => h, ?_⟩
        refine ⟨_, rfl, _, _, rfl, rfl, t', by omega, t', ?_, s1, by omega, e1, rfl⟩
        have e2 : ((t' + 1 : Nat) : Int) - 1 = (t' : Int) := by omega
        rw [← e2]
        rfl
      · rw [if_neg hz] at e1
        have ez : decide (V.int (l.getD t' 0) = V.int 0) = false := decide_eq_false (by intro e; injection e; exact hz (by assumption))
        show if decide (V.int (l.getD t' 0) = V.int 0) = true then _ else _
        rw [ez]
        refine iteF ?_
        refine ⟨_, rfl, _, rfl, _, rfl, a, _, rfl, s1.seq ha, fun r hr' => ?_⟩
        rw [cut_to, vints_take, e1]
        refine ⟨r, _, rfl, .inl (SqL.of upd_same), fun q hq => ?_⟩
        exact k q _ ((s1.trans (same_new hr')).trans (same_new hq)) ((s1.trans (same_new hr')).free hq) upd_same
    · have h0 : t = 0 := by
        have : ¬ (0 : Int) < (t : Int) := fun e => h0 (decide_eq_true e)
        omega
      subst h0
      refine ⟨_, rfl, _, rfl, _, rfl, a, _, rfl, s1.seq ha, fun r hr' => ?_⟩
      have e1 : l.take 0 = trim l := by rw [trim, ← e1]; rfl
      rw [cut_to, vints_take, e1]
      refine ⟨r, _, rfl, .inl (SqL.of upd_same), fun q hq => ?_⟩
      exact k q _ ((s1.trans (same_new hr')).trans (same_new hq)) ((s1.trans (same_new hr')).free hq) upd_same
end
end Msw
set_option maxRecDepth 100000
set_option maxHeartbeats 4000000
namespace Msw
open PySem L2 Msq
section
variable {P : Program} {w : World} {K : PySem.W.Frag} {mg : Str → Option Value} {base : Heap} {C fS fL : Addr}
theorem ok_turned_round (T : Txt K mg C fS fL) (D : Dfn K mg "turned_round" s_turned_round ["prime", "number"]) : Hs P w K mg base 1 "turned_round" ["prime", "number"] sp_turned_round := by
  obtain ⟨f, fd, F, g, b⟩ := D
  refine ⟨f, fd, F.ok sc_turned_round (fun vs H Q E h => ?_) (fun cdv A outer s H vs Q E hr h => ?_), g, F.kp, b⟩
  · obtain ⟨p, n, rfl, _⟩ := h
    rfl
  · obtain ⟨p, n, rfl, ⟨p1, p9⟩, ⟨n0, n1⟩, k⟩ := h
    refine ⟨_, (pss_cons (ps_set (i := 2) sc_turned_round.nd rfl (Or.inl rfl) pe_int)
      (pss_cons (ps_set (i := 3) sc_turned_round.nd rfl (Or.inl rfl) (pe_op op_sub (pv 0) pe_int))
      (pss_cons (ps_while PassesOwn.never (pt_cmpR op_gt (pv 3) pe_int (nomark _))
        (pss_cons (ps_if (pt_cmpR op_eq (pe_op op_mod (pv 3) pe_int) pe_int (nomark _)) (pss_one (ps_set (i := 2) sc_turned_round.nd rfl (Or.inl rfl) (pe_op op_mod (pe_op op_mul (pv 2) (pv 1)) (pv 0)))) pss_nil)
        (pss_cons (ps_set (i := 1) sc_turned_round.nd rfl (Or.inl rfl) (pe_op op_mod (pe_op op_mul (pv 1) (pv 1)) (pv 0)))
        (pss_one (ps_aug (i := 3) sc_turned_round.nd rfl (Or.inl rfl) pe_int iop_fdiv)))))
      (pss_one (ps_ret (pv 2)))))), ?_⟩
    refine ⟨_, rfl, _, _, rfl, rfl, ?_⟩
    refine wl (fun m σ H' => ∃ (fu : Nat) (v c : Int) (t : Nat), σ = [some (.int p), some (.int c), some (.int v), some (.int t)] ∧ Same H H' ∧ (0 ≤ v ∧ v < p) ∧ (0 ≤ c ∧ c < p) ∧ t ≤ fu ∧ turnL p fu v c t = turned p n ∧ t = m) _ ⟨(p - 2).toNat, 1, n, (p - 2).toNat, ?_, Same.refl H, ⟨by omega, by omega⟩, ⟨n0, n1⟩, Nat.le_refl _, rfl, rfl⟩ ?_
    · have e : (((p - 2).toNat : Nat) : Int) = p - 2 := Int.toNat_of_nonneg (by omega)
      rw [e]
      rfl
    rintro m σ H1 ⟨fu, v, c, t, rfl, s1, ⟨v0, v1⟩, ⟨c0, c1⟩, htf, hr', rfl⟩
    refine ⟨_, rfl, _, _, rfl, rfl, _, rfl, ?_⟩
    refine ite2 (fun ht => ?_) (fun ht => ?_)
    · have ht0 : (0 : Int) < (t : Int) := of_decide_eq_true ht
      obtain ⟨fu', rfl⟩ : ∃ fu', fu = fu' + 1 := ⟨fu - 1, by omega⟩
      rw [turnL, if_neg (by omega)] at hr'
      refine ⟨_, fun _ _ h => h, ?_⟩
      have m1 : 0 ≤ c * c % p ∧ c * c % p < p := ⟨Int.emod_nonneg _ (by omega), Int.emod_lt_of_pos _ (by omega)⟩
      have m2 : 0 ≤ v * c % p ∧ v * c % p < p := ⟨Int.emod_nonneg _ (by omega), Int.emod_lt_of_pos _ (by omega)⟩
      have e2 : (((t / 2 : Nat)) : Int) = (t : Int) / 2 := by omega
      refine ⟨_, rfl, _, _, rfl, rfl, (show (0 : Int) < 2 by decide), rfl, _, rfl, ?_⟩
      by_cases ho : t % 2 = 1
      · rw [if_pos ho] at hr'
        have eo : decide (V.int ((t : Int) % 2) = V.int 1) = true := decide_eq_true (by congr 1; omega)
        show if decide (V.int ((t : Int) % 2) = V.int 1) = true then _ else _
        rw [eo]
        refine iteT ⟨_, rfl, _, rfl, _, _, rfl, rfl, mul_ok c0 (by omega), _, rfl, _, _, rfl, rfl, (show (0 : Int) < p by omega), ?_⟩
        refine ⟨_, rfl, _, rfl, _, _, rfl, rfl, mul_ok c0 (by omega), _, rfl, _, _, rfl, rfl, (show (0 : Int) < p by omega), ?_⟩
        refine ⟨_, rfl, _, _, rfl, rfl, div_ok (by decide) (by decide), t / 2, by omega, fu', _, _, t / 2, ?_, s1, m2, m1, by omega, hr', rfl⟩
        rw [e2]
        rfl
      · rw [if_neg ho] at hr'
        have eo : decide (V.int ((t : Int) % 2) = V.int 1) = false := decide_eq_false (by intro e; injection e; omega)
        show if decide (V.int ((t : Int) % 2) = V.int 1) = true then _ else _
        rw [eo]
        refine iteF ?_
        refine ⟨_, rfl, _, rfl, _, _, rfl, rfl, mul_ok c0 (by omega), _, rfl, _, _, rfl, rfl, (show (0 : Int) < p by omega), ?_⟩
        refine ⟨_, rfl, _, _, rfl, rfl, div_ok (by decide) (by decide), t / 2, by omega, fu', _, _, t / 2, ?_, s1, ⟨v0, v1⟩, m1, by omega, hr', rfl⟩
        rw [e2]
        rfl
    · have ht0 : t = 0 := by
        have : ¬ (0 : Int) < (t : Int) := fun e => ht (decide_eq_true e)
        omega
      subst ht0
      refine ⟨_, rfl, ?_⟩
      have ev : v = turned p n := by
        cases fu with
        | zero => exact hr'
        | succ fu => rw [turnL, if_pos rfl] at hr'; exact hr'
      rw [ev]
      exact k H1 s1
end
end Msw
set_option maxRecDepth 100000
set_option maxHeartbeats 4000000
namespace Msw
open PySem L2 Msq
section
variable {P : Program} {w : World} {K : PySem.W.Frag} {mg : Str → Option Value} {base : Heap} {C fS fL : Addr}
theorem trimN_le (l : List Int) : ∀ n, trimN l n ≤ n
  | 0 => Nat.le_refl _
  | n + 1 => by
    rw [trimN]
    split
    · have := trimN_le l n
      omega
    · exact Nat.le_refl _
theorem trim_len (l : List Int) : (trim l).length ≤ l.length := by
  rw [trim, List.length_take]
  omega
theorem trim_dg {p : Int} {l : List Int} (h : Dg p l) : Dg p (trim l) := fun x hx => h x (List.mem_of_mem_take hx)
theorem ok_have_common (T : Txt K mg C fS fL) (D : Dfn K mg "have_common" s_have_common ["prime", "one", "other"]) (G_remainder : Hs P w K mg base 1 "remainder" ["prime", "lower", "figures"] (sp_remainder K)) (G_trimmed : Hs P w K mg base 1 "trimmed" ["figures"] (sp_trimmed K)) (G_turned_round : Hs P w K mg base 1 "turned_round" ["prime", "number"] sp_turned_round) : Hs P w K mg base 2 "have_common" ["prime", "one", "other"] (sp_have_common K) := by
  obtain ⟨f, fd, F, g, b⟩ := D
  refine ⟨f, fd, F.ok sc_have_common (fun vs H Q E h => ?_) (fun cdv A outer s H vs Q E hr h => ?_), g, F.kp, b⟩
  · obtain ⟨p, a, one, b, other, rfl, _⟩ := h
    rfl
  · obtain ⟨p, a, one, b, other, rfl, ⟨p1, p9⟩, ha, hb, d1, d2, l1, l2, k⟩ := h
    have p0 : 0 < p := by omega
    refine ⟨_, (pss_cons (ps_set (i := 3) sc_have_common.nd rfl (Or.inl rfl) (pe_c G_trimmed (hr.mono (by decide)) rfl (pa_cons (pv 1) pa_nil)))
      (pss_cons (ps_set (i := 4) sc_have_common.nd rfl (Or.inl rfl) (pe_c G_trimmed (hr.mono (by decide)) rfl (pa_cons (pv 2) pa_nil)))
      (pss_cons (ps_while PassesOwn.never (pt_truth (pv 4) (by intro _; rfl))
        (pss_cons (ps_set (i := 5) sc_have_common.nd rfl (Or.inr rfl) (pe_c G_turned_round (hr.mono (by decide)) rfl (pa_cons (pv 0) (pa_cons (pe_ix (r := rIxL K) ix_list (pv 4) (pe_un un_neg pe_int) (fun _ _ => rfl)) pa_nil))))
        (pss_cons (ps_setLc (i := 6) (own := [("part", 7)]) (g := gName 7) (tt := tYes) rfl sc_have_common.nd rfl rfl (sw_true rfl rfl rfl (by decide +kernel)) (pi_list (pe_slice sl_list (pv 4) po_none (po_some (pe_un un_neg pe_int)))) (blkOk_by (own := [("part", 7)]) (N := ["prime", "one", "other", "first", "second", "lead", "lower", "part"]) (sc := defScope s_have_common) (by decide +kernel)) (fun _ _ _ _ _ => pg_name (i := 7) sc_have_common.nd rfl (Or.inl rfl)) (fun _ _ _ _ _ => pts_nil) (fun _ _ _ _ _ => (pe_op op_mod (pe_op op_mul (pv 7) (pv 5)) (pv 0))))
        (pss_one (ps_par (i := 3) (j := 4) rfl sc_have_common.nd rfl rfl (by decide) rfl rfl (pa_cons (pv 4) (pa_cons (pe_c G_trimmed (hr.mono (by decide)) rfl (pa_cons (pe_c G_remainder (hr.mono (by decide)) rfl (pa_cons (pv 0) (pa_cons (pv 6) (pa_cons (pv 3) pa_nil)))) pa_nil)) pa_nil)) (by rfl))))))
      (pss_one (ps_ret (pe_cmpR op_gt (pe_callB call_len_seq rfl T.len_ (by decide +kernel) (pa_cons (pv 3) pa_nil)) pe_int (nomark _))))))), ?_⟩
    refine ⟨_, rfl, a, one, rfl, ha, by omega, fun A1 H1 t1 f1 h1 => ?_⟩
    refine ⟨_, rfl, b, other, rfl, t1.seq hb, by omega, fun B1 H2 t2 f2 h2 => ?_⟩
    simp only [gName, tSeq]
    refine wl (fun m σ H' => ∃ (fu : Nat) (F S : Addr) (fs sn : List Int) (v5 v6 v7 : Option V), σ = [some (.int p), some (.ref a), some (.ref b), some (.ref F), some (.ref S), v5, v6, v7] ∧ Same H H' ∧ SqL K H' F (vints fs) ∧ SqL K H' S (vints sn) ∧ Dg p fs ∧ Dg p sn ∧ fs.length ≤ 50 ∧ sn.length ≤ 50 ∧ sn.length ≤ fu ∧ hcL p fu fs sn = hc p one other ∧ fu = m) _ ⟨(trim other).length, A1, B1, trim one, trim other, none, none, none, rfl, t1.trans t2, t2.seq (SqL.of h1), SqL.of h2, trim_dg d1, trim_dg d2, Nat.le_trans (trim_len _) l1, Nat.le_trans (trim_len _) l2, Nat.le_refl _, rfl, rfl⟩ ?_
    rintro m σ H3 ⟨fu, F, S, fs, sn, v5, v6, v7, rfl, s3, hF, hS, df, ds, lf, ls, hfu, e1, rfl⟩
    refine ⟨_, rfl, ?_⟩
    by_cases hn : sn = []
    · subst hn
      refine ⟨false, .inl ⟨[], hS, rfl⟩, ?_⟩
      have e2 : hc p one other = decide (1 < fs.length) := by
        rw [← e1]
        cases fu with
        | zero => rfl
        | succ fu => rw [hcL, if_pos rfl]
      refine iteF ?_
      refine ⟨_, rfl, F, _, rfl, .inl hF, _, _, rfl, rfl, ?_⟩
      have e3 : decide ((1 : Int) < ((vints fs).length : Int)) = hc p one other := by
        rw [e2, vints_len]
        exact decide_eq_decide.mpr (by omega)
      show Q (V.bl (decide ((1 : Int) < ((vints fs).length : Int)))) H3
      rw [e3]
      exact k H3 s3
    have hpos : 0 < sn.length := List.length_pos_iff.mpr hn
    refine ⟨true, .inl ⟨_, hS, by cases sn with | nil => exact absurd rfl hn | cons _ _ => rfl⟩, ?_⟩
    obtain ⟨fu', rfl⟩ : ∃ fu', fu = fu' + 1 := ⟨fu - 1, by omega⟩
    rw [hcL, if_neg hn] at e1
    refine iteT ⟨_, fun _ _ h => h, ?_⟩
    have hlast := dg_get ds (i := sn.length - 1) (by omega)
    refine ⟨_, rfl, _, rfl, _, rfl, S, _, _, _, rfl, rfl, hS, at_lastv hpos, ?_⟩
    refine ⟨p, _, rfl, ⟨p1, p9⟩, hlast, fun H4 s4 => ?_⟩
    -- the lower part
    refine ⟨_, rfl, _, rfl, _, rfl, S, _, rfl, s4.seq hS, fun u hu => ?_⟩
    rw [cut_last]
    have s5 := s4.trans (same_new (o := .lst (vints sn).dropLast) hu)
    have edl : (vints sn).dropLast = vints sn.dropLast := by simp [vints, List.map_dropLast]
    rw [edl] at s5 ⊢
    refine ⟨u, rfl, ⟨_, SqL.of upd_same⟩, fun D hD => ?_⟩
    refine lcl (K := K) (a := u) (xs := vints sn.dropLast) (fun i => V.int ((sn.dropLast.map fun part => part * turned p (sn.getD (sn.length - 1) 0) % p).getD i 0)) (SqL.of upd_same) hD (by rw [vints_len, List.length_dropLast]; omega) ?_ ?_
    · intro i x H5 Q5 hx s6 k5
      obtain ⟨hi, rfl⟩ := vints_get' hx
      have hi' : i < sn.length := by rw [List.length_dropLast] at hi; omega
      have ed : sn.dropLast.getD i 0 = sn.getD i 0 := by
        rw [List.getD_eq_getElem?_getD, List.getD_eq_getElem?_getD, List.getElem?_eq_getElem hi, List.getElem?_eq_getElem hi', List.getElem_dropLast]
      have hd := dg_get ds hi'
      refine ⟨rfl, _, rfl, _, rfl, _, _, rfl, rfl, mul_okL (by rw [ed]; exact hd.1) (by rw [ed]; omega), _, rfl, _, _, rfl, rfl, p0, ?_⟩
      have ev : (sn.dropLast.map fun part => part * turned p (sn.getD (sn.length - 1) 0) % p).getD i 0 = sn.dropLast.getD i 0 * turned p (sn.getD (sn.length - 1) 0) % p := by
        exact map_getD (fun part => part * turned p (sn.getD (sn.length - 1) 0) % p) hi
      have := k5 H5 (Same.refl H5)
      rw [ev] at this
      exact this
    intro H5 s6 h5
    rw [vints_range (by simp)] at h5
    have s7 := (s4.trans (same_new (o := .lst (vints sn.dropLast)) hu)).trans s6
    have dlow : Dg p (sn.dropLast.map fun part => part * turned p (sn.getD (sn.length - 1) 0) % p) := by
      intro x hx
      obtain ⟨y, _, rfl⟩ := List.mem_map.mp hx
      exact ⟨Int.emod_nonneg _ (by omega), Int.emod_lt_of_pos _ p0⟩
    refine ⟨_, rfl, _, rfl, _, rfl, _, rfl, p, (D, false), _, F, fs, rfl, ⟨p0, p9⟩, SqL.of h5, dlow, s7.seq hF, by simp; omega, by omega, fun R H6 s8 f8 h8 => ?_⟩
    refine ⟨R, _, rfl, SqL.of h8, by rw [rema_len]; simp; omega, fun Tr H7 s9 f9 h9 => ?_⟩
    have hlen : (trim (rema p (sn.dropLast.map fun part => part * turned p (sn.getD (sn.length - 1) 0) % p) fs)).length ≤ fu' := by
      refine Nat.le_trans (trim_len _) ?_
      rw [rema_len, List.length_map, List.length_dropLast]
      omega
    have hlen2 : (trim (rema p (sn.dropLast.map fun part => part * turned p (sn.getD (sn.length - 1) 0) % p) fs)).length ≤ 50 := by
      refine Nat.le_trans (trim_len _) ?_
      rw [rema_len, List.length_map, List.length_dropLast]
      omega
    exact ⟨_, _, rfl, fu', by omega, fu', S, Tr, sn, _, _, _, _, rfl, s3.trans (s7.trans (s8.trans s9)), (s7.trans (s8.trans s9)).seq hS, SqL.of h9, ds, trim_dg (rema_dg p0 df), ls, hlen2, hlen, e1, rfl⟩
end
end Msw
set_option maxRecDepth 100000
set_option maxHeartbeats 4000000
namespace Msw
open PySem L2 Msq
section
variable {P : Program} {w : World} {K : PySem.W.Frag} {mg : Str → Option Value} {base : Heap} {C fS fL : Addr}
theorem ok_is_irreducible (T : Txt K mg C fS fL) (D : Dfn K mg "is_irreducible" s_is_irreducible ["prime", "lower"]) (G_have_common : Hs P w K mg base 2 "have_common" ["prime", "one", "other"] (sp_have_common K)) (G_raised : Hs P w K mg base 2 "raised" ["prime", "lower", "figures", "times"] (sp_raised K)) (G_remainder : Hs P w K mg base 1 "remainder" ["prime", "lower", "figures"] (sp_remainder K)) : Hs P w K mg base 3 "is_irreducible" ["prime", "lower"] (sp_is_irreducible K) := by
  obtain ⟨f, fd, F, g, b⟩ := D
  refine ⟨f, fd, F.ok sc_is_irreducible (fun vs H Q E h => ?_) (fun cdv A outer s H vs Q E hr h => ?_), g, F.kp, b⟩
  · obtain ⟨p, a, lw, rfl, _⟩ := h
    rfl
  · obtain ⟨p, a, lw, rfl, ⟨p1, p9⟩, ha, dl, ⟨l0, l1⟩, k⟩ := h
    have p0 : 0 < p := by omega
    refine ⟨_, (pss_cons (ps_set (i := 2) sc_is_irreducible.nd rfl (Or.inl rfl) (pe_callB call_len_seq rfl T.len_ (by decide +kernel) (pa_cons (pv 1) pa_nil)))
      (pss_cons (ps_set (i := 3) sc_is_irreducible.nd rfl (Or.inl rfl) (pe_c G_remainder (hr.mono (by decide)) rfl (pa_cons (pv 0) (pa_cons (pv 1) (pa_cons (pe_lst (pa_cons pe_int (pa_cons pe_int pa_nil))) pa_nil)))))
      (pss_cons (ps_for PassesOwn.never rfl (pi_range1 rfl T.range_ (pa_cons (pe_op op_fdiv (pv 2) pe_int) pa_nil)) (pg_name (i := 4) sc_is_irreducible.nd rfl (Or.inl rfl))
        (pss_cons (ps_set (i := 3) sc_is_irreducible.nd rfl (Or.inl rfl) (pe_c G_raised (hr.mono (by decide)) rfl (pa_cons (pv 0) (pa_cons (pv 1) (pa_cons (pv 3) (pa_cons (pv 0) pa_nil))))))
        (pss_cons (ps_set (i := 5) sc_is_irreducible.nd rfl (Or.inl rfl) (pe_callTy call_list_of rfl T.list_ (by decide +kernel) (pa_cons (pv 3) pa_nil)))
        (pss_cons (ps_asg (pe_op op_mod (pe_op op_sub (pe_ix (r := rIxL K) ix_list (pv 5) pe_int (fun _ _ => rfl)) pe_int) (pv 0)) (pg_sub (pv 5) pe_int set_list))
        (pss_one (ps_if (pt_val (pe_c G_have_common (hr.mono (by decide)) rfl (pa_cons (pv 0) (pa_cons (pe_op op_cat (pe_callTy call_list_of rfl T.list_ (by decide +kernel) (pa_cons (pv 1) pa_nil)) (pe_lst (pa_cons pe_int pa_nil))) (pa_cons (pv 5) pa_nil))))) (pss_one (ps_ret pe_bl)) pss_nil))))))
      (pss_one (ps_ret pe_bl))))), ?_⟩
    refine ⟨_, rfl, a, _, rfl, .inl ha, ?_⟩
    rw [vints_len]
    refine ⟨_, rfl, _, rfl, by show 2 ≤ sizeLine; decide, fun z hz => ?_⟩
    have s1 : Same H _ := same_new (o := .lst [.int 0, .int 1]) hz
    have d1 : Dg p [0, 1] := by
      intro x hx
      simp only [List.mem_cons, List.not_mem_nil, or_false] at hx
      omega
    refine ⟨p, (a, false), lw, z, [0, 1], rfl, ⟨p0, p9⟩, s1.seq ha, dl, SqL.of upd_same, by omega, by simp, fun F1 H1 t1 f1 h1 => ?_⟩
    refine ⟨_, rfl, _, _, rfl, rfl, div_ok (by decide) (by decide), (lw.length : Int) / 2, rfl, by omega, by omega, ?_⟩
    have en : ((lw.length : Int) / 2).toNat = lw.length / 2 := by omega
    rw [en]
    refine fr (lo := 0) (n := lw.length / 2) (fun i σ H' => ∃ (F : Addr) (fg : List Int) (v4 v5 : Option V), σ = [some (.int p), some (.ref a), some (.int (lw.length : Nat)), some (.ref F), v4, v5] ∧ Same H H' ∧ SqL K H' F (vints fg) ∧ Dg p fg ∧ fg.length = lw.length ∧ irrL p lw (lw.length / 2 - i) fg = isIrr p lw) ⟨F1, _, none, none, rfl, s1.trans t1, SqL.of h1, rema_dg p0 d1, rema_len _ _ _, rfl⟩ ?_ ?_
    · rintro i σ H2 hi ⟨F, fg, v4, v5, rfl, s2, hF, df, lf, e1⟩
      obtain ⟨m, hm⟩ : ∃ m, lw.length / 2 - i = m + 1 := ⟨lw.length / 2 - i - 1, by omega⟩
      rw [hm, irrL] at e1
      have epn : ((p.toNat : Nat) : Int) = p := Int.toNat_of_nonneg (by omega)
      have eraw : ∀ xs : List V, xs = [.int p, .ref a, .ref F, .int p] → xs = [.int p, .ref a, .ref F, .int ((p.toNat : Nat) : Int)] := fun xs e => by rw [epn]; exact e
      refine ⟨_, rfl, _, rfl, _, rfl, _, rfl, p, (a, false), lw, F, fg, p.toNat, eraw _ rfl, ⟨p1, p9⟩, s2.seq ha, dl, hF, df, by omega, by omega, fun R H3 s3 f3 h3 => ?_⟩
      have lR := raised_len (p := p) (lower := lw) l0 fg p.toNat
      have dR := raised_dg (lower := lw) p1 fg p.toNat
      refine ⟨_, rfl, R, _, rfl, .inl (SqL.of h3), fun A1 hA1 => ?_⟩
      have s4 := (s2.trans s3).trans (same_new (o := .lst (vints (raised p lw fg p.toNat))) hA1)
      refine ⟨_, rfl, A1, _, _, _, rfl, rfl, SqL.of upd_same, at_v (j := 1) rfl (by omega), _, _, rfl, rfl, _, rfl, _, _, rfl, rfl, p0, ?_⟩
      refine ⟨_, rfl, A1, _, _, 1, rfl, rfl, upd_same, ix_v rfl (by rw [vints_len]; omega), ?_⟩
      rw [vints_set]
      have s5 := same_mut (o := .lst (vints ((raised p lw fg p.toNat).set 1 (((raised p lw fg p.toNat).getD 1 0 - 1) % p)))) s4 ((s2.trans s3).free hA1)
      have eH : upd (upd H3 A1 (.lst (vints (raised p lw fg p.toNat)))) A1 (.lst (vints ((raised p lw fg p.toNat).set 1 (((raised p lw fg p.toNat).getD 1 0 - 1) % p)))) A1 = some (.lst (vints ((raised p lw fg p.toNat).set 1 (((raised p lw fg p.toNat).getD 1 0 - 1) % p)))) := upd_same
      have dA : Dg p ((raised p lw fg p.toNat).set 1 (((raised p lw fg p.toNat).getD 1 0 - 1) % p)) := by
        intro x hx
        rcases List.mem_or_eq_of_mem_set hx with h | rfl
        · exact dR x h
        · exact ⟨Int.emod_nonneg _ (by omega), Int.emod_lt_of_pos _ p0⟩
      have lA : ((raised p lw fg p.toNat).set 1 (((raised p lw fg p.toNat).getD 1 0 - 1) % p)).length = lw.length := by rw [List.length_set]; exact lR
      have dL : Dg p (lw ++ [1]) := by
        intro x hx
        rcases List.mem_append.mp hx with h | h
        · exact dl x h
        · have : x = 1 := by simpa using h
          omega
      refine ⟨_, rfl, _, rfl, a, _, rfl, .inl (s5.seq ha), fun L1 hL1 => ?_⟩
      have s6 := s5.trans (same_new (o := .lst (vints lw)) hL1)
      refine ⟨by show 1 ≤ sizeLine; decide, fun L2 hL2 => ?_⟩
      have s7 := s6.trans (same_new (o := .lst [.int 1]) hL2)
      have n12 : L1 ≠ L2 := ne_of_none upd_same hL2
      refine ⟨L1, L2, _, _, rfl, rfl, by rw [upd_ne n12]; exact upd_same, upd_same, sz_of (by simp; omega), fun L3 hL3 => ?_⟩
      rw [show vints lw ++ [V.int 1] = vints (lw ++ [1]) from (vints_snoc lw 1).symm]
      have s8 := s7.trans (same_new (o := .lst (vints (lw ++ [1]))) hL3)
      have hA3 : ∀ o, upd (upd (upd (upd (upd H3 A1 (.lst (vints (raised p lw fg p.toNat)))) A1 (.lst (vints ((raised p lw fg p.toNat).set 1 (((raised p lw fg p.toNat).getD 1 0 - 1) % p))))) L1 (.lst (vints lw))) L2 (.lst [.int 1])) L3 o A1 = some (.lst (vints ((raised p lw fg p.toNat).set 1 (((raised p lw fg p.toNat).getD 1 0 - 1) % p)))) := fun o => (((same_new hL1).trans (same_new hL2)).trans (same_new hL3)) _ _ eH
      refine ⟨_, rfl, p, L3, lw ++ [1], A1, _, rfl, ⟨p1, p9⟩, SqL.of upd_same, SqL.of (hA3 _), dL, dA, by simp; omega, by omega, fun H4 s9 => ?_⟩
      refine ⟨_, rfl, ?_⟩
      cases hh : hc p (lw ++ [1]) ((raised p lw fg p.toNat).set 1 (((raised p lw fg p.toNat).getD 1 0 - 1) % p)) with
      | true =>
        rw [hh, if_pos rfl] at e1
        refine iteT ?_
        rw [← e1] at k
        exact k H4 (s8.trans s9)
      | false =>
        rw [hh, if_neg (by decide)] at e1
        refine iteF ?_
        have e3 : lw.length / 2 - (i + 1) = m := by omega
        refine ⟨R, _, _, _, rfl, s8.trans s9, ?_, dR, lR, by rw [e3]; exact e1⟩
        have nRA : A1 ≠ R := fun e => by rw [e, h3] at hA1; cases hA1
        have hR1 : upd (upd H3 A1 (.lst (vints (raised p lw fg p.toNat)))) A1 (.lst (vints ((raised p lw fg p.toNat).set 1 (((raised p lw fg p.toNat).getD 1 0 - 1) % p)))) R = some (.lst (vints (raised p lw fg p.toNat))) := by
          rw [upd_ne (Ne.symm nRA), upd_ne (Ne.symm nRA)]
          exact h3
        exact SqL.of (((((same_new hL1).trans (same_new hL2)).trans (same_new hL3)).trans s9) _ _ hR1)
    · rintro σ H2 ⟨F, fg, v4, v5, rfl, s2, hF, df, lf, e1⟩
      rw [Nat.sub_self, irrL] at e1
      rw [← e1] at k
      exact k H2 s2
end
end Msw
set_option maxRecDepth 100000
set_option maxHeartbeats 4000000
namespace Msw
open PySem L2 Msq
section
variable {P : Program} {w : World} {K : PySem.W.Frag} {mg : Str → Option Value} {base : Heap} {C fS fL : Addr}
theorem ent_notirr {e : Ent} (h : e ∈ tab) {m : Nat} (hm : m < e.n) : isIrr e.p (figs e.p e.k m) = false := by
  have hf := (tab_all h).2.2.1
  simp only [Ent.found, Bool.and_eq_true] at hf
  have := List.all_eq_true.mp hf.1 m (List.mem_range.mpr hm)
  simpa using this
theorem ent_irr {e : Ent} (h : e ∈ tab) : isIrr e.p (figs e.p e.k e.n) = true := by
  have hf := (tab_all h).2.2.1
  simp only [Ent.found, Bool.and_eq_true] at hf
  exact hf.2
theorem ok_lower_of (T : Txt K mg C fS fL) (D : Dfn K mg "lower_of" s_lower_of ["prime", "degree"]) (G_figures_of : Hs P w K mg base 1 "figures_of" ["prime", "many", "number"] sp_figures_of) (G_is_irreducible : Hs P w K mg base 3 "is_irreducible" ["prime", "lower"] (sp_is_irreducible K)) : Hs P w K mg base 4 "lower_of" ["prime", "degree"] sp_lower_of := by
  obtain ⟨f, fd, F, g, b⟩ := D
  refine ⟨f, fd, F.ok sc_lower_of (fun vs H Q E h => ?_) (fun cdv A outer s H vs Q E hr h => ?_), g, F.kp, b⟩
  · obtain ⟨e, rfl, _⟩ := h
    rfl
  · obtain ⟨e, rfl, he, k⟩ := h
    have o := ent_ok he
    have o1 := o.p1
    have o2 := o.p2
    have o3 := o.k4
    have o4 := o.k0
    have hpb : Pb e.p := ⟨by omega, by omega⟩
    have hfb : 0 < (e.p : Int) ∧ (e.p : Int) ≤ 999983 := ⟨by omega, by omega⟩
    refine ⟨_, (pss_cons (ps_set (i := 2) sc_lower_of.nd rfl (Or.inl rfl) pe_int)
      (pss_cons (ps_while PassesOwn.never (pt_not (pt_val (pe_c G_is_irreducible (hr.mono (by decide)) rfl (pa_cons (pv 0) (pa_cons (pe_c G_figures_of (hr.mono (by decide)) rfl (pa_cons (pv 0) (pa_cons (pv 1) (pa_cons (pv 2) pa_nil)))) pa_nil)))))
        (pss_one (ps_aug (i := 2) sc_lower_of.nd rfl (Or.inl rfl) pe_int iop_add)))
      (pss_one (ps_ret (pe_callTy call_tuple_of rfl T.tuple_ (by decide +kernel) (pa_cons (pe_c G_figures_of (hr.mono (by decide)) rfl (pa_cons (pv 0) (pa_cons (pv 1) (pa_cons (pv 2) pa_nil)))) pa_nil)))))), ?_⟩
    refine wl (fun m σ H' => ∃ (t : Nat), σ = [some (.int e.p), some (.int e.k), some (.int t)] ∧ Same H H' ∧ t ≤ e.n ∧ e.n - t = m) _ ⟨0, rfl, Same.refl H, Nat.zero_le _, rfl⟩ ?_
    rintro m σ H1 ⟨t, rfl, s1, ht, rfl⟩
    refine ⟨_, rfl, _, rfl, _, rfl, _, rfl, e.p, e.k, t, rfl, hfb, by omega, fun F H2 s2 fF hF => ?_⟩
    refine ⟨e.p, F, figs e.p e.k t, rfl, hpb, SqL.of hF, figs_dg (by omega) _ _, by rw [figs_len]; omega, fun H3 s3 => ?_⟩
    refine ⟨_, rfl, ?_⟩
    by_cases hlt : t < e.n
    · rw [ent_notirr he hlt]
      refine iteT ⟨_, fun _ _ h => h, ?_⟩
      exact ⟨_, rfl, _, _, rfl, rfl, e.n - (t + 1), by omega, t + 1, rfl, s1.trans (s2.trans s3), by omega, rfl⟩
    · have et : t = e.n := by omega
      subst et
      rw [ent_irr he]
      refine iteF ?_
      refine ⟨_, rfl, _, rfl, _, rfl, e.p, e.k, e.n, rfl, hfb, by omega, fun G H4 s4 fG hG => ?_⟩
      refine ⟨G, _, rfl, .inl ⟨SqL.of hG, fun R hR => ?_⟩⟩
      have s5 := (s1.trans (s2.trans s3)).trans s4
      exact k R _ (s5.trans (same_new hR)) (s5.free hR) upd_same
end
end Msw
set_option maxRecDepth 100000
set_option maxHeartbeats 4000000
namespace Msw
open PySem L2 Msq
section
variable {P : Program} {w : World} {K : PySem.W.Frag} {mg : Str → Option Value} {base : Heap} {C fS fL : Addr}
theorem ok_polynomial (T : Txt K mg C fS fL) (D : Dfn K mg "polynomial" s_polynomial ["prime", "degree"]) (G_check_field : Hs P w K mg base 3 "check_field" ["prime", "degree"] sp_check_field) (G_lower_of : Hs P w K mg base 4 "lower_of" ["prime", "degree"] sp_lower_of) : Hs P w K mg base 5 "polynomial" ["prime", "degree"] sp_polynomial := by
  obtain ⟨f, fd, F, g, b⟩ := D
  refine ⟨f, fd, F.ok sc_polynomial (fun vs H Q E h => ?_) (fun cdv A outer s H vs Q E hr h => ?_), g, F.kp, b⟩
  · obtain ⟨e, rfl, _⟩ := h
    rfl
  · obtain ⟨e, rfl, he, k⟩ := h
    refine ⟨_, (pss_cons (ps_expr (pe_c G_check_field (hr.mono (by decide)) rfl (pa_cons (pv 0) (pa_cons (pv 1) pa_nil))))
      (pss_one (ps_ret (pe_c G_lower_of (hr.mono (by decide)) rfl (pa_cons (pv 0) (pa_cons (pv 1) pa_nil)))))), ?_⟩
    refine ⟨_, rfl, _, rfl, e, rfl, he, fun H1 s1 => ?_⟩
    refine ⟨_, rfl, _, rfl, e, rfl, he, fun p H2 s2 f2 h2 => ?_⟩
    exact k p H2 (s1.trans s2) (s1.free f2) h2
end
end Msw
set_option maxRecDepth 100000
set_option maxHeartbeats 4000000
namespace Msw
open PySem L2 Msq
section
variable {P : Program} {w : World} {K : PySem.W.Frag} {mg : Str → Option Value} {base : Heap} {C fS fL : Addr}
theorem ok_square_with (T : Txt K mg C fS fL) (D : Dfn K mg "square_with" s_square_with ["family", "row", "column", "sign"]) (G_apart_of : Hs P w K mg base 2 "apart_of" ["family", "one", "other"] (sp_apart_of C)) (G_kind_of : Hs P w K mg base 5 "kind_of" ["family", "apart", "across"] (sp_kind_of K C)) (G_F_check_point : Hm P w K mg base C 1 "check_point" ["self", "point"] (sp_F_check_point C)) (G_F_split : Hm P w K mg base C 1 "split" ["self", "point"] (sp_F_split C)) : Hs P w K mg base 6 "square_with" ["family", "row", "column", "sign"] (sp_square_with C) := by
  obtain ⟨f, fd, F, g, b⟩ := D
  refine ⟨f, fd, F.ok sc_square_with (fun vs H Q E h => ?_) (fun cdv A outer s H vs Q E hr h => ?_), g, F.kp, b⟩
  · obtain ⟨x, Ps, r, c, j, rfl, _⟩ := h
    rfl
  · obtain ⟨x, Ps, r, c, j, rfl, hF, ok, pr, pc, hc0, hj, k⟩ := h
    obtain ⟨dx, aP, aS, aL, tP, tL, h1, h2, h3, h4, h5, h6⟩ := hF.ex
    have ps : Pt Ps (hasP Ps j r c) := has_pt ok.fld pc
    refine ⟨_, (pss_cons (ps_for PassesOwn.never rfl (pi_tup (pe_tup (pa_cons (pv 1) (pa_cons (pv 2) (pa_cons (pv 3) pa_nil))))) (pg_name (i := 4) sc_square_with.nd rfl (Or.inl rfl))
        (pss_one (ps_expr (pe_m T.cl G_F_check_point (hr.mono (by decide)) (pv 0) (pa_cons (pv 4) pa_nil)))))
      (pss_cons (ps_if (pt_cmpR op_eq (pv 2) pe_int (nomark _)) (pss_one (ps_ret (pe_ifExp (pt_cmpR op_eq (pv 1) (pv 3) (nomark _)) pe_int pe_non))) pss_nil)
      (pss_cons (ps_set (i := 5) sc_square_with.nd rfl (Or.inl rfl) (pe_c G_kind_of (hr.mono (by decide)) rfl (pa_cons (pv 0) (pa_cons (pe_c G_apart_of (hr.mono (by decide)) rfl (pa_cons (pv 0) (pa_cons (pv 3) (pa_cons (pv 1) pa_nil)))) (pa_cons (pe_m T.cl G_F_split (hr.mono (by decide)) (pv 0) (pa_cons (pv 2) pa_nil)) pa_nil)))))
      (pss_one (ps_ret (pe_ifExp (pt_cmpR op_in_seq (pv 5) (pe_tup (pa_cons pe_non (pa_cons (pe_gi T.ROW) pa_nil))) (by with_unfolding_all rfl)) pe_non (pv 5))))))), ?_⟩
    refine ⟨_, rfl, _, rfl, _, rfl, by show 3 ≤ sizeLine; decide, fun z hz => ?_⟩
    have s1 : Same H (upd H z (.tup [.int r, .int c, .int (hasP Ps j r c)])) := same_new hz
    refine ⟨z, rfl, ⟨[.int r, .int c, .int (hasP Ps j r c)], SqT.of upd_same⟩, ?_⟩
    refine ft (K := K) (a := z) (xs := [.int r, .int c, .int (hasP Ps j r c)]) (fun i σ H' => ∃ (v3 : Option V), σ = [some (.ref x), some (.int r), some (.int c), some (.int (hasP Ps j r c)), v3, none] ∧ Same H H' ∧ H' z = some (.tup [.int r, .int c, .int (hasP Ps j r c)])) ⟨none, rfl, s1, upd_same⟩ (fun i σ H1 _ ⟨_, _, _, t1⟩ => SqT.of t1) ?_ ?_
    · rintro m y σ H1 hy ⟨v3, rfl, t1, hz1⟩
      obtain ⟨u, rfl, hu⟩ : ∃ (u : Int), y = .int u ∧ Pt Ps u := by
        match m, hy with
        | 0, hy => exact ⟨r, (Option.some.inj hy).symm, pr⟩
        | 1, hy => exact ⟨c, (Option.some.inj hy).symm, pc⟩
        | 2, hy => exact ⟨hasP Ps j r c, (Option.some.inj hy).symm, ps⟩
      refine ⟨_, rfl, x, dx, _, rfl, t1 _ _ h1, no_m (by decide +kernel), _, rfl, x, Ps, u, rfl, hF.up t1, hu, fun H2 s2 => ?_⟩
      exact ⟨_, rfl, t1.trans s2, s2 _ _ hz1⟩
    · rintro σ H1 ⟨v3, rfl, t1, hz1⟩
      refine ⟨_, rfl, rfl, _, rfl, ?_⟩
      have e1 : decide (V.int c = V.int 0) = false := decide_eq_false (fun q => hc0 (V.int.inj q))
      show if decide (V.int c = V.int 0) = true then _ else _
      rw [e1]
      have hj1 : j ≠ -1 := by omega
      refine iteF ⟨_, rfl, _, rfl, _, rfl, _, rfl, x, Ps, hasP Ps j r c, r, rfl, hF.up t1, ok, fun A1 H2 s2 f2 e2 => ?_⟩
      have t2 := t1.trans s2
      refine ⟨_, rfl, x, dx, _, rfl, t2 _ _ h1, no_m (by decide +kernel), _, rfl, x, Ps, c, rfl, (hF.up t2).sz, ok, fun B1 H3 s3 f3 e3 => ?_⟩
      have t3 := t2.trans s3
      rw [apart_left ok.fld hj1] at e2
      refine ⟨x, Ps, A1, B1, _, j, rfl, hF.up t3, ok, s3.seq (SqL.of e2), SqL.of e3, split_els ok.fld c, split_some ok.fld pc hc0, ⟨by omega, hj.2⟩, fun H4 s4 => ?_⟩
      have t4 := t3.trans s4
      refine ⟨_, rfl, by show 2 ≤ sizeLine; decide, fun y hy => ?_⟩
      have hin : inV (V.int j) [V.non, V.int 0] = false := by
        rw [Bool.eq_false_iff]
        intro e
        simp [inV, eqV] at e
        omega
      refine ⟨y, _, rfl, .inr (SqT.of upd_same), rfl, rfl, _, rfl, ?_⟩
      show if inV (V.int j) [V.non, V.int 0] = true then _ else _
      rw [hin]
      refine iteF ⟨_, rfl, ?_⟩
      exact k _ (t4.trans (same_new hy))
end
end Msw
set_option maxRecDepth 100000
set_option maxHeartbeats 4000000
namespace Msw
open PySem L2 Msq
section
variable {P : Program} {w : World} {K : PySem.W.Frag} {mg : Str → Option Value} {base : Heap} {C fS fL : Addr}
theorem ok_is_prime_power (T : Txt K mg C fS fL) (D : Dfn K mg "is_prime_power" s_is_prime_power ["part"]) (G_is_field : Hs P w K mg base 2 "is_field" ["prime", "degree"] sp_is_field) : Hs P w K mg base 3 "is_prime_power" ["part"] sp_is_prime_power := by
  obtain ⟨f, fd, F, g, b⟩ := D
  refine ⟨f, fd, F.ok sc_is_prime_power (fun vs H Q E h => ?_) (fun cdv A outer s H vs Q E hr h => ?_), g, F.kp, b⟩
  · obtain ⟨t, e, rfl, _⟩ := h
    rfl
  · obtain ⟨t, e, rfl, he, ht, k⟩ := h
    refine ⟨_, (pss_cons (ps_if (PW.pt (pw_or (pt_not (pt_val (pe_callB call_isiT rfl T.isinstance_ (by decide +kernel) (pa_cons (pv 0) (pa_cons (pe_tup (pa_cons (pe_bltn (v := .ty "tuple") rfl T.tuple_ (by decide +kernel) rfl) (pa_cons (pe_bltn (v := .ty "list") rfl T.list_ (by decide +kernel) rfl) pa_nil))) pa_nil))))) (pw_or (pt_cmpR op_ne (pe_callB call_len_seq rfl T.len_ (by decide +kernel) (pa_cons (pv 0) pa_nil)) pe_int (nomark _)) (pw_or1 (pt_not (pt_val (pe_callB (cr_all rfl) rfl T.all_ (by decide +kernel) (pa_cons (pe_lc (own := [("number", 1)]) (g := gName 1) (tt := tYes) rfl sc_is_prime_power.nd (pi_tup (pv 0)) (blkOk_by (own := [("number", 1)]) (N := ["part", "number"]) (sc := defScope s_is_prime_power) (by decide +kernel)) (fun _ _ _ _ _ => pg_name (i := 1) sc_is_prime_power.nd rfl (Or.inl rfl)) (fun _ _ _ _ _ => pts_nil) (fun _ _ _ _ _ => (pe_callB (r := rIsi K) call_isi rfl T.isinstance_ (by decide +kernel) (pa_cons (pv 1) (pa_cons (pe_bltn (v := .ty "int") rfl T.int_ (by decide +kernel) rfl) pa_nil))))) pa_nil)))))))) (pss_one (ps_ret pe_bl)) pss_nil)
      (pss_one (ps_ret (pe_c G_is_field (hr.mono (by decide)) rfl (pa_cons (pe_ix (r := rIxT K) ix_tup (pv 0) pe_int (fun _ _ => rfl)) (pa_cons (pe_ix (r := rIxT K) ix_tup (pv 0) pe_int (fun _ _ => rfl)) pa_nil)))))), ?_⟩
    refine ⟨_, rfl, by show 2 ≤ sizeLine; decide, fun z hz => ?_⟩
    have s1 : Same H _ := same_new (o := .tup [.ty "tuple", .ty "list"]) hz
    refine ⟨.ref t, z, _, _, _, true, rfl, upd_same, .cons (.ty _) (.cons (.ty _) .nil), .base (.tup (s1 _ _ ht)), is_tup, _, rfl, ?_⟩
    refine iteF ?_
    refine ⟨_, rfl, t, _, rfl, .inr (SqT.of (s1 _ _ ht)), rfl, _, rfl, ?_⟩
    have e2 : decide (V.int (([V.int e.p, V.int e.k] : List V).length : Nat) = V.int 2) = true := decide_eq_true rfl
    show if (!decide (V.int (([V.int e.p, V.int e.k] : List V).length : Nat) = V.int 2)) = true then _ else _
    rw [e2]
    refine iteF ?_
    refine ⟨_, rfl, t, rfl, ⟨_, SqT.of (s1 _ _ ht)⟩, fun D hD => ?_⟩
    refine lct (K := K) (a := t) (xs := [.int e.p, .int e.k]) (fun _ => V.bl true) (SqT.of (s1 _ _ ht)) hD (by show 2 ≤ 50000; decide) ?_ ?_
    · intro i x H2 Q2 hx s2 k2
      obtain ⟨n, rfl⟩ : ∃ n, x = V.int n := by
        match i, hx with
        | 0, hx => exact ⟨_, (Option.some.inj hx).symm⟩
        | 1, hx => exact ⟨_, (Option.some.inj hx).symm⟩
      exact ⟨rfl, _, rfl, .int n, .ty "int", _, _, true, rfl, .ty _, .base (.int n), is_int, k2 H2 (Same.refl H2)⟩
    intro H2 s2 h2
    refine ⟨D, [true, true], rfl, SqL.of h2, _, rfl, ?_⟩
    refine iteF ?_
    refine ⟨_, rfl, t, _, _, _, rfl, rfl, SqT.of (s2 _ _ (s1 _ _ ht)), rfl, _, rfl, t, _, _, _, rfl, rfl, SqT.of (s2 _ _ (s1 _ _ ht)), rfl, e, rfl, he, fun H3 s3 => k H3 (s1.trans (s2.trans s3))⟩
end
end Msw
set_option maxRecDepth 100000
set_option maxHeartbeats 4000000
namespace Msw
open PySem L2 Msq
section
variable {P : Program} {w : World} {K : PySem.W.Frag} {mg : Str → Option Value} {base : Heap} {C fS fL : Addr}
theorem ok_F_joined (T : Txt K mg C fS fL) (D : Mtd K C "joined" "Family.joined" s_F_joined ["self", "figures"]) : Hm P w K mg base C 1 "joined" ["self", "figures"] (sp_F_joined K C) := by
  obtain ⟨f, fd, F, g, b⟩ := D
  refine ⟨f, fd, F.ok sc_F_joined (fun vs H Q E h => ?_) (fun cdv A outer s H vs Q E hr h => ?_), g, b⟩
  · obtain ⟨x, Ps, a, ds, rfl, _⟩ := h
    rfl
  · obtain ⟨x, Ps, a, ds, rfl, ⟨dx, fs, aS, h1, l1, h4⟩, ok, ha, hl, k⟩ := h
    refine ⟨_, (pss_cons (ps_set (i := 2) sc_F_joined.nd rfl (Or.inl rfl) pe_int)
      (pss_cons (ps_for PassesOwn.never rfl (Msz.pi_zipN rfl T.zip_ (pa_cons (pe_fld (pv 0) rfl) (pa_cons (pv 1) pa_nil))) (pg_tup rfl (pgs_cons (pg_name (i := 3) sc_F_joined.nd rfl (Or.inl rfl)) (pgs_cons (pg_name (i := 4) sc_F_joined.nd rfl (Or.inl rfl)) pgs_nil)))
        (pss_one (ps_set (i := 2) sc_F_joined.nd rfl (Or.inl rfl) (pe_op op_add (pe_op op_mul (pv 2) (pv 3)) (pv 4)))))
      (pss_one (ps_ret (pv 2))))), ?_⟩
    refine ⟨_, rfl, x, C, dx, _, _, rfl, h1, T.cl, T.n_sizes, l1, _, rfl, [(aS, true), (a, false)], rfl, ⟨by simp, by simp⟩, ?_, ?_⟩
    · intro p hp
      simp only [List.mem_cons, List.not_mem_nil, or_false] at hp
      rcases hp with rfl | rfl
      · exact ⟨_, SqT.of h4⟩
      · exact ⟨_, ha⟩
    refine fz (K := K) (ss := [(aS, true), (a, false)]) (ls := [vints (Ps.map (·.q)), vints ds]) (n := Ps.length) (by simp) (fun i σ H' => ∃ (z : Int) (v3 v4 : Option V), σ = [some (.ref x), some (.ref a), some (.int z), v3, v4] ∧ Same H H' ∧ z * ordP (Ps.drop i) + joinP (Ps.drop i) (ds.drop i) = joinP Ps ds) ⟨0, none, none, rfl, Same.refl H, by simp⟩ ?_ ?_ ?_
    · rintro i σ H1 ⟨_, _, _, _, t1, _⟩
      exact .cons (SqT.of (t1 _ _ h4)) (by simp) (.cons (t1.seq ha) (by simp [hl]) .nil)
    · rintro i T1 σ H1 hi ⟨z, v3, v4, rfl, t1, e1⟩ hT
      obtain ⟨P, hP⟩ := some_at (l := Ps) rfl hi
      obtain ⟨d, hd⟩ := some_at (l := ds) hl hi
      have pok := ok.at hP
      have q0 := (ok.fat hP).qpos
      have ql := pok.q
      have ev : ([vints (Ps.map (·.q)), vints ds].map fun l => l.getD i V.non) = [V.int P.q, V.int d] := by
        rw [List.map_cons, List.map_cons, List.map_nil, vi_at hd, vi_at (x := P.q) (by rw [List.getElem?_map, hP]; rfl)]
      rw [ev]
      refine ⟨T1, _, rfl, SqT.of upd_same, rfl, _, _, rfl, _, _, rfl, rfl, ?_⟩
      refine ⟨_, rfl, _, rfl, _, _, rfl, rfl, .inr ⟨by omega, by omega⟩, _, rfl, _, _, rfl, rfl, z * P.q + d, _, _, rfl, t1.trans (same_new hT), ?_⟩
      rw [← e1, drop_at hP, drop_at hd, joinP, ordP, Int.add_mul, Int.mul_assoc, Int.add_assoc]
    · rintro σ H1 ⟨z, v3, v4, rfl, t1, e1⟩
      rw [List.drop_length, ← hl, List.drop_length, ordP] at e1
      have ej : joinP [] [] = 0 := by simp [joinP]
      have ez : z = joinP Ps ds := by omega
      refine ⟨_, rfl, ?_⟩
      rw [ez]
      exact k H1 t1
end
end Msw
set_option maxRecDepth 100000
set_option maxHeartbeats 4000000
namespace Msw
open PySem L2 Msq
section
variable {P : Program} {w : World} {K : PySem.W.Frag} {mg : Str → Option Value} {base : Heap} {C fS fL : Addr}
theorem join_top : ∀ (Ps : List Part), joinP Ps (Ps.map fun P => P.q - 1) + 1 = ordP Ps
  | [] => by simp [joinP, ordP]
  | P :: Ps => by
    have ih := join_top Ps
    rw [List.map_cons, joinP, ordP, Int.sub_mul, Int.one_mul]
    omega
def SameX (x : Addr) (H H' : Hp) : Prop := ∀ b o, H b = some o → b ≠ x → H' b = some o
theorem SameX.st {x : Addr} {H H1 H2 : Hp} (h : SameX x H H1) (s : Same H1 H2) : SameX x H H2 := fun b o e n => s _ _ (h b o e n)
theorem SameX.put {x : Addr} {o : HO} {H H1 : Hp} (h : SameX x H H1) : SameX x H (upd H1 x o) := fun b u e n => by rw [upd_ne n]; exact h b u e n
theorem ok_F_init (T : Txt K mg C fS fL) (D : Mtd K C "__init__" "Family.__init__" s_F_init ["self", "parts"]) (G_checked_parts : Hs P w K mg base 4 "checked_parts" ["parts"] sp_checked_parts) (G_lower_of : Hs P w K mg base 4 "lower_of" ["prime", "degree"] sp_lower_of) (G_size_of : Hs P w K mg base 1 "size_of" ["prime", "degree"] sp_size_of) (G_F_joined : Hm P w K mg base C 1 "joined" ["self", "figures"] (sp_F_joined K C)) : Hm P w K mg base C 5 "__init__" ["self", "parts"] (sp_F_init C) := by
  obtain ⟨f, fd, F, g, b⟩ := D
  refine ⟨f, fd, F.ok sc_F_init (fun vs H Q E h => ?_) (fun cdv A outer s H vs Q E hr h => ?_), g, b⟩
  · obtain ⟨x, dx, a, ts, es, rfl, _⟩ := h
    rfl
  · obtain ⟨x, dx, a, ts, es, rfl, hx, ha, tu, eok, h30, k⟩ := h
    have ok := eok.ps
    have l8 := eok.len
    have lPs : (prt es).length = es.length := by simp
    have nax : a ≠ x := fun q => by rw [q, hx] at ha; cases ha
    refine ⟨_, (pss_cons (ps_fld (pv 0) (pe_c G_checked_parts (hr.mono (by decide)) rfl (pa_cons (pv 1) pa_nil)) rfl)
      (pss_cons (ps_fld (pv 0) (pe_callTy call_tuple_of rfl T.tuple_ (by decide +kernel) (pa_cons (pe_lc (own := [("prime", 2), ("degree", 3)]) (g := (gTup K 2 (gCons (gName 2) (gCons (gName 3) gNil)))) (tt := tYes) rfl sc_F_init.nd (pi_tup (pe_fld (pv 0) rfl)) (blkOk_by (own := [("prime", 2), ("degree", 3)]) (N := ["self", "parts", "prime", "degree", "size"]) (sc := defScope s_F_init) (by decide +kernel)) (fun _ _ _ _ _ => pg_tup rfl (pgs_cons (pg_name (i := 2) sc_F_init.nd rfl (Or.inl rfl)) (pgs_cons (pg_name (i := 3) sc_F_init.nd rfl (Or.inl rfl)) pgs_nil))) (fun _ _ _ _ _ => pts_nil) (fun _ _ _ _ _ => (pe_c G_size_of (hr.mono (by decide)) rfl (pa_cons (pv 2) (pa_cons (pv 3) pa_nil))))) pa_nil)) rfl)
      (pss_cons (ps_fld (pv 0) (pe_op op_sub (pe_callB (Mst.cr_minT rfl) rfl T.min_ (by decide +kernel) (pa_cons (pe_fld (pv 0) rfl) pa_nil)) pe_int) rfl)
      (pss_cons (ps_fld (pv 0) (pe_callTy call_tuple_of rfl T.tuple_ (by decide +kernel) (pa_cons (pe_lc (own := [("prime", 2), ("degree", 3)]) (g := (gTup K 2 (gCons (gName 2) (gCons (gName 3) gNil)))) (tt := tYes) rfl sc_F_init.nd (pi_tup (pe_fld (pv 0) rfl)) (blkOk_by (own := [("prime", 2), ("degree", 3)]) (N := ["self", "parts", "prime", "degree", "size"]) (sc := defScope s_F_init) (by decide +kernel)) (fun _ _ _ _ _ => pg_tup rfl (pgs_cons (pg_name (i := 2) sc_F_init.nd rfl (Or.inl rfl)) (pgs_cons (pg_name (i := 3) sc_F_init.nd rfl (Or.inl rfl)) pgs_nil))) (fun _ _ _ _ _ => pts_nil) (fun _ _ _ _ _ => (pe_c G_lower_of (hr.mono (by decide)) rfl (pa_cons (pv 2) (pa_cons (pv 3) pa_nil))))) pa_nil)) rfl)
      (pss_one (ps_fld (pv 0) (pe_op op_add (pe_m T.cl G_F_joined (hr.mono (by decide)) (pv 0) (pa_cons (pe_lc (own := [("size", 4)]) (g := gName 4) (tt := tYes) rfl sc_F_init.nd (pi_tup (pe_fld (pv 0) rfl)) (blkOk_by (own := [("size", 4)]) (N := ["self", "parts", "prime", "degree", "size"]) (sc := defScope s_F_init) (by decide +kernel)) (fun _ _ _ _ _ => pg_name (i := 4) sc_F_init.nd rfl (Or.inl rfl)) (fun _ _ _ _ _ => pts_nil) (fun _ _ _ _ _ => (pe_op op_sub (pv 4) pe_int))) pa_nil)) pe_int) rfl)))))), ?_⟩
    -- parts
    refine ⟨_, rfl, a, ts, es, rfl, ha, tu, eok, h30, fun P1 H1 s1 f1 e1 => ?_⟩
    refine ⟨_, rfl, x, C, dx, [], rfl, s1 _ _ hx, T.cl, T.n_parts, by simp, ?_⟩
    rw [putF_new (fun p hp => by simp at hp), List.nil_append]
    have nP1 : P1 ≠ x := fun q => by rw [q, hx] at f1; cases f1
    have x1 : SameX x H (upd H1 x (.ins C dx [("parts", V.ref P1)])) := SameX.put fun b o e _ => s1 b o e
    have hP1 : upd H1 x (.ins C dx [("parts", V.ref P1)]) P1 = some (.tup (vrefs ts)) := by rw [upd_ne nP1]; exact e1
    have hx1 : upd H1 x (.ins C dx [("parts", V.ref P1)]) x = some (.ins C dx [("parts", V.ref P1)]) := upd_same
    generalize upd H1 x (.ins C dx [("parts", V.ref P1)]) = K1 at *
    have tsx : ∀ (i : Nat) (t : Addr) (e : Ent), ts[i]? = some t → es[i]? = some e → ∀ H', SameX x H H' → H' t = some (.tup [.int e.p, .int e.k]) := fun i t e h1 h2 H' s => by
      have hh := tu.2 i t e h1 h2
      exact s _ _ hh (fun q => by rw [q, hx] at hh; cases hh)
    -- sizes
    refine ⟨_, rfl, x, C, dx, _, _, rfl, hx1, T.cl, T.n_parts, rfl, P1, rfl, ⟨_, SqT.of hP1⟩, fun D1 hD1 => ?_⟩
    refine lct (K := K) (a := P1) (xs := vrefs ts) (fun i => V.int (((prt es).map (·.q)).getD i 0)) (SqT.of hP1) hD1 (by simp; rw [tu.1]; omega) ?_ ?_
    · intro i y H2 Q2 hy s2 k2
      obtain ⟨t, ht, rfl⟩ := vrefs_get hy
      have hi : i < es.length := by have := (List.getElem?_eq_some_iff.mp ht).1; rw [tu.1] at this; exact this
      obtain ⟨e, he⟩ := some_at (l := es) rfl hi
      have o := ent_ok (eok.tab e (List.mem_of_getElem? he))
      have o1 := o.p1
      have o2 := o.p2
      have o3 := o.k4
      refine ⟨t, _, rfl, SqT.of (tsx i t e ht he _ (x1.st s2)), rfl, _, _, rfl, _, _, rfl, rfl, rfl, _, rfl, _, rfl, e.p, e.k, rfl, ⟨by omega, by omega⟩, by omega, fun H3 s3 => ?_⟩
      have := k2 H3 s3
      rw [getD_at (x := e.P.q) (by rw [List.getElem?_map, List.getElem?_map, he]; rfl), ent_q] at this
      exact this
    intro H2 s2 h2
    rw [vints_range (by simp [tu.1])] at h2
    refine ⟨D1, _, rfl, .inl ⟨SqL.of h2, fun P2 hP2 => ?_⟩⟩
    have s3 := s2.trans (same_new (o := .tup (vints ((prt es).map (·.q)))) hP2)
    have hP2' : upd H2 P2 (.tup (vints ((prt es).map (·.q)))) P2 = some (.tup (vints ((prt es).map (·.q)))) := upd_same
    have fP2 : K1 P2 = none := s2.free hP2
    generalize upd H2 P2 (.tup (vints ((prt es).map (·.q)))) = H3 at *
    refine ⟨_, rfl, x, C, dx, _, rfl, s3 _ _ hx1, T.cl, T.n_sizes, by show 1 < 1000; decide, ?_⟩
    have dd1 : ("parts" : Str) ≠ "sizes" := by decide +kernel
    rw [putF_new (fun p hp => by have : p = (("parts" : Str), V.ref P1) := by simpa using hp
                                 rw [this]
                                 exact dd1), List.cons_append, List.nil_append]
    have nP2 : P2 ≠ x := fun q => by rw [q, hx1] at fP2; cases fP2
    have x2 : SameX x H (upd H3 x (.ins C dx [("parts", V.ref P1), ("sizes", V.ref P2)])) := SameX.put (x1.st s3)
    have hP1b : upd H3 x (.ins C dx [("parts", V.ref P1), ("sizes", V.ref P2)]) P1 = some (.tup (vrefs ts)) := by rw [upd_ne nP1]; exact s3 _ _ hP1
    have hP2b : upd H3 x (.ins C dx [("parts", V.ref P1), ("sizes", V.ref P2)]) P2 = some (.tup (vints ((prt es).map (·.q)))) := by rw [upd_ne nP2]; exact hP2'
    have hx2 : upd H3 x (.ins C dx [("parts", V.ref P1), ("sizes", V.ref P2)]) x = some (.ins C dx [("parts", V.ref P1), ("sizes", V.ref P2)]) := upd_same
    generalize upd H3 x (.ins C dx [("parts", V.ref P1), ("sizes", V.ref P2)]) = K2 at *
    have sp : (("sizes" : Str) == ("parts" : Str)) = false := by decide +kernel
    have lk_s2 : List.lookup ("sizes" : Str) [("parts", V.ref P1), ("sizes", V.ref P2)] = some (V.ref P2) := by
      simp [List.lookup, sp]
    -- many
    refine ⟨_, rfl, x, C, dx, _, _, rfl, hx2, T.cl, T.n_sizes, lk_s2, P2, (prt es).map (·.q), rfl, SqT.of hP2b, by simp; exact List.length_pos_iff.mpr eok.ne, fun m hm1 hm2 => ?_⟩
    have em : m = minq (prt es) := minq_is hm1 hm2
    subst em
    refine ⟨_, _, rfl, rfl, _, rfl, x, C, dx, _, rfl, hx2, T.cl, T.n_many, by show 2 < 1000; decide, ?_⟩
    have a1 : ("parts" : Str) ≠ "many" := by decide +kernel
    have a2 : ("sizes" : Str) ≠ "many" := by decide +kernel
    have a3 : ("parts" : Str) ≠ "lowers" := by decide +kernel
    have a4 : ("sizes" : Str) ≠ "lowers" := by decide +kernel
    have a5 : ("many" : Str) ≠ "lowers" := by decide +kernel
    have a6 : ("parts" : Str) ≠ "order" := by decide +kernel
    have a7 : ("sizes" : Str) ≠ "order" := by decide +kernel
    have a8 : ("many" : Str) ≠ "order" := by decide +kernel
    have a9 : ("lowers" : Str) ≠ "order" := by decide +kernel
    rw [putF_new (fun p hp => by
      simp only [List.mem_cons, List.not_mem_nil, or_false] at hp
      rcases hp with rfl | rfl
      · exact a1
      · exact a2), List.cons_append, List.cons_append, List.nil_append]
    have x3 : SameX x H (upd K2 x (.ins C dx [("parts", V.ref P1), ("sizes", V.ref P2), ("many", V.int (minq (prt es) - 1))])) := SameX.put x2
    have hP1c : upd K2 x (.ins C dx [("parts", V.ref P1), ("sizes", V.ref P2), ("many", V.int (minq (prt es) - 1))]) P1 = some (.tup (vrefs ts)) := by rw [upd_ne nP1]; exact hP1b
    have hP2c : upd K2 x (.ins C dx [("parts", V.ref P1), ("sizes", V.ref P2), ("many", V.int (minq (prt es) - 1))]) P2 = some (.tup (vints ((prt es).map (·.q)))) := by rw [upd_ne nP2]; exact hP2b
    have hx3 : upd K2 x (.ins C dx [("parts", V.ref P1), ("sizes", V.ref P2), ("many", V.int (minq (prt es) - 1))]) x = some (.ins C dx [("parts", V.ref P1), ("sizes", V.ref P2), ("many", V.int (minq (prt es) - 1))]) := upd_same
    generalize upd K2 x (.ins C dx [("parts", V.ref P1), ("sizes", V.ref P2), ("many", V.int (minq (prt es) - 1))]) = K3 at *
    -- lowers
    refine ⟨_, rfl, x, C, dx, _, _, rfl, hx3, T.cl, T.n_parts, rfl, P1, rfl, ⟨_, SqT.of hP1c⟩, fun D2 hD2 => ?_⟩
    refine lctA (K := K) (a := P1) (xs := vrefs ts) (fun i => HO.tup (vints (((prt es).map (·.lower)).getD i []))) (fun j acc q => by cases q) (SqT.of hP1c) hD2 (by simp; rw [tu.1]; omega) ?_ ?_
    · intro i y H4 Q4 hy s4 k4
      obtain ⟨t, ht, rfl⟩ := vrefs_get hy
      have hi : i < es.length := by have := (List.getElem?_eq_some_iff.mp ht).1; rw [tu.1] at this; exact this
      obtain ⟨e, he⟩ := some_at (l := es) rfl hi
      have e0 := eok.tab e (List.mem_of_getElem? he)
      refine ⟨t, _, rfl, SqT.of (tsx i t e ht he _ (x3.st s4)), rfl, _, _, rfl, _, _, rfl, rfl, rfl, _, rfl, _, rfl, e, rfl, e0, fun p H5 s5 f5 e5 => ?_⟩
      have := k4 p H5 s5
      rw [getD_at (x := e.P.lower) (by rw [List.getElem?_map, List.getElem?_map, he]; rfl)] at this
      exact this e5
    intro H4 tl s4 l4 h4 g4
    refine ⟨D2, _, rfl, .inl ⟨SqL.of h4, fun P3 hP3 => ?_⟩⟩
    have s5 := s4.trans (same_new (o := .tup (vrefs tl)) hP3)
    have hP3' : upd H4 P3 (.tup (vrefs tl)) P3 = some (.tup (vrefs tl)) := upd_same
    have g5 : ∀ j t, tl[j]? = some t → upd H4 P3 (.tup (vrefs tl)) t = some (HO.tup (vints (((prt es).map (·.lower)).getD j []))) := fun j t h => same_new hP3 _ _ (g4 j t h)
    have fP3 : K3 P3 = none := s4.free hP3
    generalize upd H4 P3 (.tup (vrefs tl)) = H5 at *
    refine ⟨_, rfl, x, C, dx, _, rfl, s5 _ _ hx3, T.cl, T.n_lowers, by show 3 < 1000; decide, ?_⟩
    rw [putF_new (fun p hp => by
      simp only [List.mem_cons, List.not_mem_nil, or_false] at hp
      rcases hp with rfl | rfl | rfl
      · exact a3
      · exact a4
      · exact a5), List.cons_append, List.cons_append, List.cons_append, List.nil_append]
    have nP3 : P3 ≠ x := fun q => by rw [q, hx3] at fP3; cases fP3
    have ntl : ∀ j t, tl[j]? = some t → t ≠ x := fun j t h q => by
      have := g5 j t h
      rw [q, s5 _ _ hx3] at this
      cases this
    have x4 : SameX x H (upd H5 x (.ins C dx [("parts", V.ref P1), ("sizes", V.ref P2), ("many", V.int (minq (prt es) - 1)), ("lowers", V.ref P3)])) := SameX.put (x3.st s5)
    have hP1d : upd H5 x (.ins C dx [("parts", V.ref P1), ("sizes", V.ref P2), ("many", V.int (minq (prt es) - 1)), ("lowers", V.ref P3)]) P1 = some (.tup (vrefs ts)) := by rw [upd_ne nP1]; exact s5 _ _ hP1c
    have hP2d : upd H5 x (.ins C dx [("parts", V.ref P1), ("sizes", V.ref P2), ("many", V.int (minq (prt es) - 1)), ("lowers", V.ref P3)]) P2 = some (.tup (vints ((prt es).map (·.q)))) := by rw [upd_ne nP2]; exact s5 _ _ hP2c
    have hP3d : upd H5 x (.ins C dx [("parts", V.ref P1), ("sizes", V.ref P2), ("many", V.int (minq (prt es) - 1)), ("lowers", V.ref P3)]) P3 = some (.tup (vrefs tl)) := by rw [upd_ne nP3]; exact hP3'
    have g6 : ∀ j t, tl[j]? = some t → upd H5 x (.ins C dx [("parts", V.ref P1), ("sizes", V.ref P2), ("many", V.int (minq (prt es) - 1)), ("lowers", V.ref P3)]) t = some (HO.tup (vints (((prt es).map (·.lower)).getD j []))) := fun j t h => by rw [upd_ne (ntl j t h)]; exact g5 j t h
    have hx4 : upd H5 x (.ins C dx [("parts", V.ref P1), ("sizes", V.ref P2), ("many", V.int (minq (prt es) - 1)), ("lowers", V.ref P3)]) x = some (.ins C dx [("parts", V.ref P1), ("sizes", V.ref P2), ("many", V.int (minq (prt es) - 1)), ("lowers", V.ref P3)]) := upd_same
    generalize upd H5 x (.ins C dx [("parts", V.ref P1), ("sizes", V.ref P2), ("many", V.int (minq (prt es) - 1)), ("lowers", V.ref P3)]) = K4 at *
    have lk_s4 : List.lookup ("sizes" : Str) [("parts", V.ref P1), ("sizes", V.ref P2), ("many", V.int (minq (prt es) - 1)), ("lowers", V.ref P3)] = some (V.ref P2) := by
      simp [List.lookup, sp]
    have lk_j4 : List.lookup ("joined" : Str) [("parts", V.ref P1), ("sizes", V.ref P2), ("many", V.int (minq (prt es) - 1)), ("lowers", V.ref P3)] = none := by
      have b1 : (("joined" : Str) == ("parts" : Str)) = false := by decide +kernel
      have b2 : (("joined" : Str) == ("sizes" : Str)) = false := by decide +kernel
      have b3 : (("joined" : Str) == ("many" : Str)) = false := by decide +kernel
      have b4 : (("joined" : Str) == ("lowers" : Str)) = false := by decide +kernel
      simp [List.lookup, b1, b2, b3, b4]
    -- order
    refine ⟨_, rfl, x, dx, _, rfl, hx4, lk_j4, _, rfl, x, C, dx, _, _, rfl, hx4, T.cl, T.n_sizes, lk_s4, P2, rfl, ⟨_, SqT.of hP2d⟩, fun D3 hD3 => ?_⟩
    refine lct (K := K) (a := P2) (xs := vints ((prt es).map (·.q))) (fun i => V.int (((prt es).map fun P => P.q - 1).getD i 0)) (SqT.of hP2d) hD3 (by simp; omega) ?_ ?_
    · intro i y H6 Q6 hy s6 k6
      obtain ⟨hi, rfl⟩ := vints_get' hy
      have hi' : i < es.length := by simpa using hi
      obtain ⟨e, he⟩ := some_at (l := es) rfl hi'
      refine ⟨rfl, _, rfl, _, _, rfl, rfl, ?_⟩
      have := k6 H6 (Same.refl H6)
      rw [getD_at (x := e.P.q - 1) (by rw [List.getElem?_map, List.getElem?_map, he]; rfl)] at this
      rw [getD_at (x := e.P.q) (by rw [List.getElem?_map, List.getElem?_map, he]; rfl)]
      exact this
    intro H6 s6 h6
    rw [vints_range (by simp)] at h6
    refine ⟨x, prt es, D3, _, rfl, ⟨dx, _, P2, s6 _ _ hx4, lk_s4, s6 _ _ hP2d⟩, ok, SqL.of h6, by simp, fun H7 s7 => ?_⟩
    have s8 := s6.trans s7
    refine ⟨_, _, rfl, rfl, _, rfl, x, C, dx, _, rfl, s8 _ _ hx4, T.cl, T.n_order, by show 4 < 1000; decide, ?_⟩
    rw [putF_new (fun p hp => by
      simp only [List.mem_cons, List.not_mem_nil, or_false] at hp
      rcases hp with rfl | rfl | rfl | rfl
      · exact a6
      · exact a7
      · exact a8
      · exact a9), List.cons_append, List.cons_append, List.cons_append, List.cons_append, List.nil_append]
    refine k _ ⟨dx, P1, P2, P3, ts, tl, ?_, ?_, ⟨by rw [lPs, tu.1], ?_⟩, ?_, ?_, ⟨by rw [l4]; simp [tu.1], ?_⟩⟩ (SameX.put (x4.st s8))
    · rw [upd_same, ← join_top]
      rfl
    · rw [upd_ne nP1]
      exact s8 _ _ hP1d
    · intro i t P0 ht hP0
      rw [List.getElem?_map] at hP0
      cases he : es[i]? with
      | none => rw [he] at hP0; cases hP0
      | some e =>
        rw [he] at hP0
        cases hP0
        rw [ent_len]
        exact tsx i t e ht he _ (SameX.put (x4.st s8))
    · rw [upd_ne nP2]
      exact s8 _ _ hP2d
    · rw [upd_ne nP3]
      exact s8 _ _ hP3d
    · intro j t P0 ht hP0
      rw [upd_ne (ntl j t ht), s8 _ _ (g6 j t ht), getD_at (x := P0.lower) (by rw [List.getElem?_map, hP0]; rfl)]
end
end Msw
set_option maxRecDepth 100000
set_option maxHeartbeats 4000000
namespace Msw
open PySem L2 Msq
section
variable {P : Program} {w : World} {K : PySem.W.Frag} {mg : Str → Option Value} {base : Heap} {C fS fL : Addr}
theorem ok_F_combined (T : Txt K mg C fS fL) (D : Mtd K C "combined" "Family.combined" s_F_combined ["self", "point", "other", "kind", "together"]) (G_product_of : Hs P w K mg base 2 "product_of" ["prime", "lower", "one", "other"] (sp_product_of K)) (G_F_joined : Hm P w K mg base C 1 "joined" ["self", "figures"] (sp_F_joined K C)) (G_F_split : Hm P w K mg base C 1 "split" ["self", "point"] (sp_F_split C)) (G_sum_of : Hf P w K mg base 1 fS ["prime", "one", "other"] (sp_tog fsum)) (G_less_of : Hf P w K mg base 1 fL ["prime", "one", "other"] (sp_tog fsub)) : Hm P w K mg base C 3 "combined" ["self", "point", "other", "kind", "together"] (sp_F_combined C fS fL) := by
  obtain ⟨f, fd, F, g, b⟩ := D
  refine ⟨f, fd, F.ok sc_F_combined (fun vs H Q E h => ?_) (fun cdv A outer s H vs Q E hr h => ?_), g, b⟩
  · obtain ⟨x, Ps, n, m, j, fa, t, rfl, _⟩ := h
    rfl
  · obtain ⟨x, Ps, n, m, j, fa, t, rfl, hF, ok, hft, k⟩ := h
    obtain ⟨dx, aP, aS, aL, tP, tL, h1, h2, h3, h4, h5, h6⟩ := hF.ex
    have l8 := ok.len
    have G : Hf P w K mg base 1 fa ["prime", "one", "other"] (sp_tog t) := by
      rcases hft with ⟨rfl, rfl⟩ | ⟨rfl, rfl⟩
      · exact G_sum_of
      · exact G_less_of
    obtain ⟨gd, Gt, kt, bt⟩ := G
    refine ⟨_, (pss_cons (ps_set (i := 5) sc_F_combined.nd rfl (Or.inl rfl) (pe_lst pa_nil))
      (pss_cons (ps_for PassesOwn.never rfl (Msz.pi_zipN rfl T.zip_ (pa_cons (pe_fld (pv 0) rfl) (pa_cons (pe_fld (pv 0) rfl) (pa_cons (pe_m T.cl G_F_split (hr.mono (by decide)) (pv 0) (pa_cons (pv 1) pa_nil)) (pa_cons (pe_m T.cl G_F_split (hr.mono (by decide)) (pv 0) (pa_cons (pv 2) pa_nil)) pa_nil))))) (pg_tup rfl (pgs_cons (pg_tup rfl (pgs_cons (pg_name (i := 6) sc_F_combined.nd rfl (Or.inl rfl)) (pgs_cons (pg_name (i := 7) sc_F_combined.nd rfl (Or.inl rfl)) pgs_nil))) (pgs_cons (pg_name (i := 8) sc_F_combined.nd rfl (Or.inl rfl)) (pgs_cons (pg_name (i := 9) sc_F_combined.nd rfl (Or.inl rfl)) (pgs_cons (pg_name (i := 10) sc_F_combined.nd rfl (Or.inl rfl)) pgs_nil)))))
        (pss_one (ps_expr (pe_bm PySem.F.plainAttrs_list PySem.F.slot_list_append PySem.F.type_list_append mt_append (pv 5) (pa_cons (pe_callL (i := 4) Gt (hr.mono (by decide)) rfl (by first | exact Or.inl rfl | exact Or.inr (Or.inl rfl)) kt bt .nil pass0 (pa_cons (pv 6) (pa_cons (pv 9) (pa_cons (pe_c G_product_of (hr.mono (by decide)) rfl (pa_cons (pv 6) (pa_cons (pv 8) (pa_cons (pv 3) (pa_cons (pv 10) pa_nil))))) pa_nil)))) pa_nil)))))
      (pss_one (ps_ret (pe_m T.cl G_F_joined (hr.mono (by decide)) (pv 0) (pa_cons (pv 5) pa_nil)))))), ?_⟩
    refine ⟨by show 0 ≤ sizeLine; decide, fun b hb => ?_⟩
    have s1 : Same H _ := same_new (o := .lst []) hb
    have hF1 := hF.up s1
    refine ⟨_, rfl, x, C, dx, _, _, rfl, s1 _ _ h1, T.cl, T.n_parts, lk_parts _ _ _ _ _, _, rfl, x, C, dx, _, _, rfl, s1 _ _ h1, T.cl, T.n_lowers, lk_lowers _ _ _ _ _, ?_⟩
    refine ⟨_, rfl, x, dx, _, rfl, s1 _ _ h1, no_m (by decide +kernel), _, rfl, x, Ps, n, rfl, hF1.sz, ok, fun A1 H1 t1 f1 e1 => ?_⟩
    refine ⟨_, rfl, x, dx, _, rfl, t1 _ _ (s1 _ _ h1), no_m (by decide +kernel), _, rfl, x, Ps, m, rfl, (hF1.up t1).sz, ok, fun B1 H2 t2 f2 e2 => ?_⟩
    have s3 := s1.trans (t1.trans t2)
    have hb2 := (t1.trans t2) _ _ (upd_same (H := H) (a := b) (o := HO.lst []))
    have fb : H b = none := hb
    have frA : H A1 = none := s1.free f1
    have frB : H B1 = none := (s1.trans t1).free f2
    have eA2 := t2 _ _ e1
    have nbA : b ≠ A1 := fun q => by rw [← q, upd_same] at f1; cases f1
    have nbB : b ≠ B1 := fun q => by
      have := t1 _ _ (upd_same (H := H) (a := b) (o := HO.lst []))
      rw [q, f2] at this
      cases this
    refine ⟨[(aP, true), (aL, true), (A1, false), (B1, false)], rfl, ⟨by simp, by simp⟩, ?_, ?_⟩
    · intro p hp
      simp only [List.mem_cons, List.not_mem_nil, or_false] at hp
      rcases hp with rfl | rfl | rfl | rfl
      · exact ⟨_, SqT.of (s3 _ _ h2)⟩
      · exact ⟨_, SqT.of (s3 _ _ h5)⟩
      · exact ⟨_, SqL.of eA2⟩
      · exact ⟨_, SqL.of e2⟩
    have eSn := split_els ok.fld n
    have eSm := split_els ok.fld m
    refine fz (K := K) (ss := [(aP, true), (aL, true), (A1, false), (B1, false)]) (ls := [vrefs tP, vrefs tL, vints (splitP Ps n), vints (splitP Ps m)]) (n := Ps.length) (by simp) (fun i σ H' => ∃ (acc : List Int) (v6 v7 v8 v9 v10 : Option V), σ = [some (.ref x), some (.int n), some (.int m), some (.int j), some (.ref fa), some (.ref b), v6, v7, v8, v9, v10] ∧ Same H H' ∧ H' b = some (.lst (vints acc)) ∧ H' A1 = some (.lst (vints (splitP Ps n))) ∧ H' B1 = some (.lst (vints (splitP Ps m))) ∧ acc.length = i ∧ acc ++ cmb t j (Ps.drop i) ((splitP Ps n).drop i) ((splitP Ps m).drop i) = cmb t j Ps (splitP Ps n) (splitP Ps m)) ⟨[], none, none, none, none, none, rfl, s3, hb2, eA2, e2, rfl, rfl⟩ ?_ ?_ ?_
    · rintro i σ H3 ⟨_, _, _, _, _, _, _, u1, _, uA, uB, _⟩
      exact .cons (SqT.of (u1 _ _ h2)) (by simp [h3.1]) (.cons (SqT.of (u1 _ _ h5)) (by simp [h6.1]) (.cons (SqL.of uA) (by simp [split_len]) (.cons (SqL.of uB) (by simp [split_len]) .nil)))
    · rintro i T1 σ H3 hi ⟨acc, v6, v7, v8, v9, v10, rfl, u1, ub, uA, uB, la, ea⟩ hT
      obtain ⟨R, hR⟩ := some_at (l := Ps) rfl hi
      obtain ⟨tp, htp⟩ := some_at (l := tP) h3.1 hi
      obtain ⟨tl, htl⟩ := some_at (l := tL) h6.1 hi
      obtain ⟨d, hd⟩ := some_at (l := splitP Ps n) (split_len Ps n) hi
      obtain ⟨c, hc⟩ := some_at (l := splitP Ps m) (split_len Ps m) hi
      have pok := ok.at hR
      have F' := ok.fat hR
      have ev : ([vrefs tP, vrefs tL, vints (splitP Ps n), vints (splitP Ps m)].map fun l => l.getD i V.non) = [V.ref tp, V.ref tl, V.int d, V.int c] := by
        rw [List.map_cons, List.map_cons, List.map_cons, List.map_cons, List.map_nil, vr_at htp, vr_at htl, vi_at hd, vi_at hc]
      rw [ev]
      have u2 := u1.trans (same_new (o := .tup [V.ref tp, V.ref tl, V.int d, V.int c]) hT)
      have nbT : b ≠ T1 := ne_of_none ub hT
      refine ⟨T1, _, rfl, SqT.of upd_same, rfl, _, _, rfl, ⟨tp, _, rfl, SqT.of (u2 _ _ (h3.2 i _ _ htp hR)), rfl, _, _, rfl, _, _, rfl, rfl, _, _, rfl, _, _, rfl, _, _, rfl, rfl, ?_⟩⟩
      refine ⟨_, rfl, .inl ⟨rfl, _, SqL.of (by rw [upd_ne nbT]; exact ub)⟩, rfl, _, rfl, _, rfl, _, rfl, _, rfl, _, rfl, _, rfl, R, tl, j, c, rfl, pok, SqT.of (u2 _ _ (h6.2 i _ _ htl hR)), fun H4 u4 => ?_⟩
      refine ⟨R, d, fmul R j c, rfl, pok, els_at eSn hR hd, F'.mul_el _ _, fun H5 u5 => ?_⟩
      have u6 := (u2.trans u4).trans u5
      have ub5 : H5 b = some (.lst (vints acc)) := u5 _ _ (u4 _ _ (by rw [upd_ne nbT]; exact ub))
      refine ⟨b, _, _, rfl, rfl, ub5, sz_lt (by simp; omega), acc ++ [t R d (fmul R j c)], _, _, _, _, _, rfl, same_mut u6 fb, by rw [upd_same, vints_snoc], ?_, ?_, by simp [la], ?_⟩
      · rw [upd_ne (Ne.symm nbA)]
        exact ((same_new hT).trans (u4.trans u5)) _ _ uA
      · rw [upd_ne (Ne.symm nbB)]
        exact ((same_new hT).trans (u4.trans u5)) _ _ uB
      · rw [← ea, drop_at hR, drop_at hd, drop_at hc, cmb, List.append_assoc]
        rfl
    · rintro σ H3 ⟨acc, v6, v7, v8, v9, v10, rfl, u1, ub, uA, uB, la, ea⟩
      have ez : cmb t j (Ps.drop Ps.length) ((splitP Ps n).drop Ps.length) ((splitP Ps m).drop Ps.length) = [] := by
        rw [List.drop_length]
        simp [cmb]
      rw [ez, List.append_nil] at ea
      refine ⟨_, rfl, x, dx, _, rfl, u1 _ _ h1, no_m (by decide +kernel), _, rfl, x, Ps, b, acc, rfl, (hF.up u1).sz, ok, SqL.of ub, la, fun H4 u4 => ?_⟩
      rw [ea]
      exact k H4 (u1.trans u4)
end
end Msw
set_option maxRecDepth 100000
set_option maxHeartbeats 4000000
namespace Msw
open PySem L2 Msq
section
variable {P : Program} {w : World} {K : PySem.W.Frag} {mg : Str → Option Value} {base : Heap} {C fS fL : Addr}
theorem ok_F_divided (T : Txt K mg C fS fL) (D : Mtd K C "divided" "Family.divided" s_F_divided ["self", "point", "kind", "other"]) (G_inverse_of : Hs P w K mg base 4 "inverse_of" ["prime", "lower", "one"] (sp_inverse_of K)) (G_less_of : Hf P w K mg base 1 fL ["prime", "one", "other"] (sp_tog fsub)) (G_product_of : Hs P w K mg base 2 "product_of" ["prime", "lower", "one", "other"] (sp_product_of K)) (G_F_joined : Hm P w K mg base C 1 "joined" ["self", "figures"] (sp_F_joined K C)) (G_F_split : Hm P w K mg base C 1 "split" ["self", "point"] (sp_F_split C)) : Hm P w K mg base C 5 "divided" ["self", "point", "kind", "other"] (sp_F_divided C) := by
  obtain ⟨f, fd, F, g, b⟩ := D
  refine ⟨f, fd, F.ok sc_F_divided (fun vs H Q E h => ?_) (fun cdv A outer s H vs Q E hr h => ?_), g, b⟩
  · obtain ⟨x, Ps, n, i0, j, rfl, _⟩ := h
    rfl
  · obtain ⟨x, Ps, n, i0, j, rfl, hF, ok, hki, hkj, k⟩ := h
    obtain ⟨dx, aP, aS, aL, tP, tL, h1, h2, h3, h4, h5, h6⟩ := hF.ex
    have l8 := ok.len
    have G_less_of := Hf.hs (x := "less_of") G_less_of T.less_of
    refine ⟨_, (pss_cons (ps_set (i := 4) sc_F_divided.nd rfl (Or.inl rfl) (pe_lst pa_nil))
      (pss_cons (ps_for PassesOwn.never rfl (Msz.pi_zipN rfl T.zip_ (pa_cons (pe_fld (pv 0) rfl) (pa_cons (pe_fld (pv 0) rfl) (pa_cons (pe_m T.cl G_F_split (hr.mono (by decide)) (pv 0) (pa_cons (pv 1) pa_nil)) pa_nil)))) (pg_tup rfl (pgs_cons (pg_tup rfl (pgs_cons (pg_name (i := 5) sc_F_divided.nd rfl (Or.inl rfl)) (pgs_cons (pg_name (i := 6) sc_F_divided.nd rfl (Or.inl rfl)) pgs_nil))) (pgs_cons (pg_name (i := 7) sc_F_divided.nd rfl (Or.inl rfl)) (pgs_cons (pg_name (i := 8) sc_F_divided.nd rfl (Or.inl rfl)) pgs_nil))))
        (pss_one (ps_expr (pe_bm PySem.F.plainAttrs_list PySem.F.slot_list_append PySem.F.type_list_append mt_append (pv 4) (pa_cons (pe_c G_product_of (hr.mono (by decide)) rfl (pa_cons (pv 5) (pa_cons (pv 7) (pa_cons (pv 8) (pa_cons (pe_c G_inverse_of (hr.mono (by decide)) rfl (pa_cons (pv 5) (pa_cons (pv 7) (pa_cons (pe_c G_less_of (hr.mono (by decide)) rfl (pa_cons (pv 5) (pa_cons (pv 2) (pa_cons (pv 3) pa_nil)))) pa_nil)))) pa_nil))))) pa_nil)))))
      (pss_one (ps_ret (pe_m T.cl G_F_joined (hr.mono (by decide)) (pv 0) (pa_cons (pv 4) pa_nil)))))), ?_⟩
    refine ⟨by show 0 ≤ sizeLine; decide, fun b hb => ?_⟩
    have s1 : Same H _ := same_new (o := .lst []) hb
    have hF1 := hF.up s1
    refine ⟨_, rfl, x, C, dx, _, _, rfl, s1 _ _ h1, T.cl, T.n_parts, lk_parts _ _ _ _ _, _, rfl, x, C, dx, _, _, rfl, s1 _ _ h1, T.cl, T.n_lowers, lk_lowers _ _ _ _ _, ?_⟩
    refine ⟨_, rfl, x, dx, _, rfl, s1 _ _ h1, no_m (by decide +kernel), _, rfl, x, Ps, n, rfl, hF1.sz, ok, fun A1 H1 t1 f1 e1 => ?_⟩
    have s3 := s1.trans t1
    have hb2 := t1 _ _ (upd_same (H := H) (a := b) (o := HO.lst []))
    have fb : H b = none := hb
    have nbA : b ≠ A1 := fun q => by rw [← q, upd_same] at f1; cases f1
    refine ⟨[(aP, true), (aL, true), (A1, false)], rfl, ⟨by simp, by simp⟩, ?_, ?_⟩
    · intro p hp
      simp only [List.mem_cons, List.not_mem_nil, or_false] at hp
      rcases hp with rfl | rfl | rfl
      · exact ⟨_, SqT.of (s3 _ _ h2)⟩
      · exact ⟨_, SqT.of (s3 _ _ h5)⟩
      · exact ⟨_, SqL.of e1⟩
    have eSn := split_els ok.fld n
    refine fz (K := K) (ss := [(aP, true), (aL, true), (A1, false)]) (ls := [vrefs tP, vrefs tL, vints (splitP Ps n)]) (n := Ps.length) (by simp) (fun i σ H' => ∃ (acc : List Int) (v6 v7 v8 v9 : Option V), σ = [some (.ref x), some (.int n), some (.int i0), some (.int j), some (.ref b), v6, v7, v8, v9] ∧ Same H H' ∧ H' b = some (.lst (vints acc)) ∧ H' A1 = some (.lst (vints (splitP Ps n))) ∧ acc.length = i ∧ acc ++ dvd i0 j (Ps.drop i) ((splitP Ps n).drop i) = dvd i0 j Ps (splitP Ps n)) ⟨[], none, none, none, none, rfl, s3, hb2, e1, rfl, rfl⟩ ?_ ?_ ?_
    · rintro i σ H3 ⟨_, _, _, _, _, _, u1, _, uA, _⟩
      exact .cons (SqT.of (u1 _ _ h2)) (by simp [h3.1]) (.cons (SqT.of (u1 _ _ h5)) (by simp [h6.1]) (.cons (SqL.of uA) (by simp [split_len]) .nil))
    · rintro i T1 σ H3 hi ⟨acc, v6, v7, v8, v9, rfl, u1, ub, uA, la, ea⟩ hT
      obtain ⟨R, hR⟩ := some_at (l := Ps) rfl hi
      obtain ⟨tp, htp⟩ := some_at (l := tP) h3.1 hi
      obtain ⟨tl, htl⟩ := some_at (l := tL) h6.1 hi
      obtain ⟨d, hd⟩ := some_at (l := splitP Ps n) (split_len Ps n) hi
      have pok := ok.at hR
      have F' := ok.fat hR
      have hm := List.mem_of_getElem? hR
      have ev : ([vrefs tP, vrefs tL, vints (splitP Ps n)].map fun l => l.getD i V.non) = [V.ref tp, V.ref tl, V.int d] := by
        rw [List.map_cons, List.map_cons, List.map_cons, List.map_nil, vr_at htp, vr_at htl, vi_at hd]
      rw [ev]
      have u2 := u1.trans (same_new (o := .tup [V.ref tp, V.ref tl, V.int d]) hT)
      have nbT : b ≠ T1 := ne_of_none ub hT
      refine ⟨T1, _, rfl, SqT.of upd_same, rfl, _, _, rfl, ⟨tp, _, rfl, SqT.of (u2 _ _ (h3.2 i _ _ htp hR)), rfl, _, _, rfl, _, _, rfl, rfl, _, _, rfl, _, _, rfl, rfl, ?_⟩⟩
      refine ⟨_, rfl, .inl ⟨rfl, _, SqL.of (by rw [upd_ne nbT]; exact ub)⟩, _, rfl, _, rfl, _, rfl, _, rfl, _, rfl, _, rfl, _, rfl, _, rfl, R, i0, j, rfl, pok, ⟨hki.1, hki.2 R hm⟩, ⟨hkj.1, hkj.2 R hm⟩, fun H4 u4 => ?_⟩
      have u24 := u2.trans u4
      refine ⟨R, tl, fsub R i0 j, rfl, pok, SqT.of (u24 _ _ (h6.2 i _ _ htl hR)), fun H5 u5 => ?_⟩
      have u25 := u24.trans u5
      refine ⟨R, tl, d, finv R (fsub R i0 j), rfl, pok, SqT.of (u25 _ _ (h6.2 i _ _ htl hR)), fun H6 u6 => ?_⟩
      have ub5 : H6 b = some (.lst (vints acc)) := u6 _ _ (u5 _ _ (u4 _ _ (by rw [upd_ne nbT]; exact ub)))
      refine ⟨b, _, _, rfl, rfl, ub5, sz_lt (by simp; omega), acc ++ [fmul R d (finv R (fsub R i0 j))], _, _, _, _, rfl, same_mut (u25.trans u6) fb, by rw [upd_same, vints_snoc], ?_, by simp [la], ?_⟩
      · rw [upd_ne (Ne.symm nbA)]
        exact ((same_new hT).trans (u4.trans (u5.trans u6))) _ _ uA
      · rw [← ea, drop_at hR, drop_at hd, dvd, List.append_assoc]
        rfl
    · rintro σ H3 ⟨acc, v6, v7, v8, v9, rfl, u1, ub, uA, la, ea⟩
      have ez : dvd i0 j (Ps.drop Ps.length) ((splitP Ps n).drop Ps.length) = [] := by
        rw [List.drop_length]
        simp [dvd]
      rw [ez, List.append_nil] at ea
      refine ⟨_, rfl, x, dx, _, rfl, u1 _ _ h1, no_m (by decide +kernel), _, rfl, x, Ps, b, acc, rfl, (hF.up u1).sz, ok, SqL.of ub, la, fun H4 u4 => ?_⟩
      rw [ea]
      exact k H4 (u1.trans u4)
end
end Msw
set_option maxRecDepth 100000
set_option maxHeartbeats 4000000
namespace Msw
open PySem L2 Msq
section
variable {P : Program} {w : World} {K : PySem.W.Frag} {mg : Str → Option Value} {base : Heap} {C fS fL : Addr}
theorem ok_F_cell_of (T : Txt K mg C fS fL) (D : Mtd K C "cell_of" "Family.cell_of" s_F_cell_of ["self", "one", "other"]) (G_F_combined : Hm P w K mg base C 3 "combined" ["self", "point", "other", "kind", "together"] (sp_F_combined C fS fL)) (G_F_divided : Hm P w K mg base C 5 "divided" ["self", "point", "kind", "other"] (sp_F_divided C)) : Hm P w K mg base C 6 "cell_of" ["self", "one", "other"] (sp_F_cell K C) := by
  obtain ⟨f, fd, F, g, b⟩ := D
  refine ⟨f, fd, F.ok sc_F_cell_of (fun vs H Q E h => ?_) (fun cdv A outer s H vs Q E hr h => ?_), g, b⟩
  · obtain ⟨x, Ps, a, b, i, j, r, c, rfl, _⟩ := h
    rfl
  · obtain ⟨x, Ps, a, b, i, j, r, c, rfl, hF, ok, ha, hb, hi, hj, hij, pr, pc, k⟩ := h
    obtain ⟨dx, aP, aS, aL, tP, tL, h1, h2, h3, h4, h5, h6⟩ := hF.ex
    refine ⟨_, (pss_cons (ps_if (pt_cmpR op_eq (pe_ix (r := rIxT K) ix_tup (pv 1) pe_int (fun _ _ => rfl)) (pe_gi T.COLUMN) (nomark _)) (pss_one (ps_par (i := 1) (j := 2) rfl sc_F_cell_of.nd rfl rfl (by decide) rfl rfl (pa_cons (pv 2) (pa_cons (pv 1) pa_nil)) (by rfl))) pss_nil)
      (pss_cons (ps_asg (pv 1) (pg_tup rfl (pgs_cons (pg_name (i := 3) sc_F_cell_of.nd rfl (Or.inl rfl)) (pgs_cons (pg_name (i := 4) sc_F_cell_of.nd rfl (Or.inl rfl)) pgs_nil))))
      (pss_cons (ps_if (pt_cmpR op_eq (pe_ix (r := rIxT K) ix_tup (pv 2) pe_int (fun _ _ => rfl)) (pe_gi T.COLUMN) (nomark _)) (pss_one (ps_ret (pe_tup (pa_cons (pe_m T.cl G_F_combined (hr.mono (by decide)) (pv 0) (pa_cons (pv 4) (pa_cons (pe_ix (r := rIxT K) ix_tup (pv 2) pe_int (fun _ _ => rfl)) (pa_cons (pv 3) (pa_cons (pe_glob (v := .ref fL) rfl T.less_of rfl) pa_nil))))) (pa_cons (pe_ix (r := rIxT K) ix_tup (pv 2) pe_int (fun _ _ => rfl)) pa_nil))))) pss_nil)
      (pss_cons (ps_set (i := 5) sc_F_cell_of.nd rfl (Or.inl rfl) (pe_m T.cl G_F_divided (hr.mono (by decide)) (pv 0) (pa_cons (pe_m T.cl G_F_combined (hr.mono (by decide)) (pv 0) (pa_cons (pv 4) (pa_cons (pe_ix (r := rIxT K) ix_tup (pv 2) pe_int (fun _ _ => rfl)) (pa_cons pe_int (pa_cons (pe_glob (v := .ref fL) rfl T.less_of rfl) pa_nil))))) (pa_cons (pv 3) (pa_cons (pe_ix (r := rIxT K) ix_tup (pv 2) pe_int (fun _ _ => rfl)) pa_nil)))))
      (pss_one (ps_ret (pe_tup (pa_cons (pe_m T.cl G_F_combined (hr.mono (by decide)) (pv 0) (pa_cons (pv 4) (pa_cons (pv 5) (pa_cons (pv 3) (pa_cons (pe_glob (v := .ref fL) rfl T.less_of rfl) pa_nil))))) (pa_cons (pv 5) pa_nil))))))))), ?_⟩
    refine ⟨_, rfl, a, _, _, _, rfl, rfl, ha, rfl, rfl, _, rfl, ?_⟩
    by_cases hi1 : i = -1
    · subst hi1
      have e1 : decide (V.int (-1) = V.int (-1)) = true := decide_eq_true rfl
      show if decide (V.int (-1) = V.int (-1)) = true then _ else _
      rw [e1]
      refine iteT ⟨_, rfl, _, rfl, _, _, rfl, ?_⟩
      refine ⟨_, rfl, b, _, rfl, hb, rfl, _, _, rfl, _, _, rfl, rfl, ?_⟩
      have eh : hasP Ps (-1) r c = c := by rw [hasP, if_pos rfl]
      rw [eh] at ha
      -- other[0] == COLUMN
      refine ⟨_, rfl, a, _, _, _, rfl, rfl, ha, rfl, rfl, _, rfl, ?_⟩
      have e2 : decide (V.int (-1) = V.int (-1)) = true := decide_eq_true rfl
      show if decide (V.int (-1) = V.int (-1)) = true then _ else _
      rw [e2]
      refine iteT ⟨_, rfl, x, dx, _, rfl, h1, no_m (by decide +kernel), _, rfl, _, rfl, a, _, _, _, rfl, rfl, ha, rfl, _, rfl, ?_⟩
      refine ⟨x, Ps, hasP Ps j r c, c, j, fL, fsub, rfl, hF, ok, .inr ⟨rfl, rfl⟩, fun H1 s1 => ?_⟩
      rw [row_of (Ps := Ps) ok.fld (fun q => hij q.symm) pr]
      refine ⟨_, rfl, a, _, _, _, rfl, rfl, Same.sqt s1 ha, rfl, by show 2 ≤ sizeLine; decide, fun p hp => ?_⟩
      exact k p _ (s1.trans (same_new hp)) (s1.free hp) upd_same
    · have e1 : decide (V.int i = V.int (-1)) = false := decide_eq_false (fun q => hi1 (V.int.inj q))
      show if decide (V.int i = V.int (-1)) = true then _ else _
      rw [e1]
      refine iteF ?_
      refine ⟨_, rfl, a, _, rfl, ha, rfl, _, _, rfl, _, _, rfl, rfl, ?_⟩
      by_cases hj1 : j = -1
      · subst hj1
        have eh : hasP Ps (-1) r c = c := by rw [hasP, if_pos rfl]
        rw [eh] at hb
        -- other[0] == COLUMN
        refine ⟨_, rfl, b, _, _, _, rfl, rfl, hb, rfl, rfl, _, rfl, ?_⟩
        have e2 : decide (V.int (-1) = V.int (-1)) = true := decide_eq_true rfl
        show if decide (V.int (-1) = V.int (-1)) = true then _ else _
        rw [e2]
        refine iteT ⟨_, rfl, x, dx, _, rfl, h1, no_m (by decide +kernel), _, rfl, _, rfl, b, _, _, _, rfl, rfl, hb, rfl, _, rfl, ?_⟩
        refine ⟨x, Ps, hasP Ps i r c, c, i, fL, fsub, rfl, hF, ok, .inr ⟨rfl, rfl⟩, fun H1 s1 => ?_⟩
        rw [row_of (Ps := Ps) ok.fld hi1 pr]
        refine ⟨_, rfl, b, _, _, _, rfl, rfl, Same.sqt s1 hb, rfl, by show 2 ≤ sizeLine; decide, fun p hp => ?_⟩
        exact k p _ (s1.trans (same_new hp)) (s1.free hp) upd_same
      · refine ⟨_, rfl, b, _, _, _, rfl, rfl, hb, rfl, rfl, _, rfl, ?_⟩
        have e2 : decide (V.int j = V.int (-1)) = false := decide_eq_false (fun q => hj1 (V.int.inj q))
        show if decide (V.int j = V.int (-1)) = true then _ else _
        rw [e2]
        refine iteF ?_
        refine ⟨_, rfl, x, dx, _, rfl, h1, no_m (by decide +kernel), _, rfl, x, dx, _, rfl, h1, no_m (by decide +kernel), _, rfl, _, rfl, b, _, _, _, rfl, rfl, hb, rfl, ?_⟩
        refine ⟨x, Ps, hasP Ps i r c, hasP Ps j r c, 1, fL, fsub, rfl, hF, ok, .inr ⟨rfl, rfl⟩, fun H1 s1 => ?_⟩
        refine ⟨_, rfl, _, rfl, b, _, _, _, rfl, rfl, Same.sqt s1 hb, rfl, ?_⟩
        refine ⟨x, Ps, _, i, j, rfl, hF.up s1, ok, hi.kd hi1, hj.kd hj1, fun H2 s2 => ?_⟩
        rw [col_of (Ps := Ps) ok.fld (hi.kd hi1) (hj.kd hj1) hij pc]
        refine ⟨_, rfl, x, dx, _, rfl, s2 _ _ (s1 _ _ h1), no_m (by decide +kernel), _, rfl, _, rfl, _, rfl, ?_⟩
        refine ⟨x, Ps, hasP Ps i r c, c, i, fL, fsub, rfl, hF.up (s1.trans s2), ok, .inr ⟨rfl, rfl⟩, fun H3 s3 => ?_⟩
        rw [row_of (Ps := Ps) ok.fld hi1 pr]
        refine ⟨_, rfl, by show 2 ≤ sizeLine; decide, fun p hp => ?_⟩
        have s4 := s1.trans (s2.trans s3)
        exact k p _ (s4.trans (same_new hp)) (s4.free hp) upd_same
end
end Msw
set_option maxRecDepth 100000
set_option maxHeartbeats 4000000
namespace Msw
open PySem L2 Msq
section
variable {P : Program} {w : World} {K : PySem.W.Frag} {mg : Str → Option Value} {base : Heap} {C fS fL : Addr}
theorem ok_F_check_kind (T : Txt K mg C fS fL) (D : Mtd K C "check_kind" "Family.check_kind" s_F_check_kind ["self", "kind"]) : Hm P w K mg base C 1 "check_kind" ["self", "kind"] (sp_F_check_kind C) := by
  obtain ⟨f, fd, F, g, b⟩ := D
  refine ⟨f, fd, F.ok sc_F_check_kind (fun vs H Q E h => ?_) (fun cdv A outer s H vs Q E hr h => ?_), g, b⟩
  · obtain ⟨x, Ps, j, rfl, _⟩ := h
    rfl
  · obtain ⟨x, Ps, j, rfl, hF, hk, k⟩ := h
    obtain ⟨dx, aP, aS, aL, tP, tL, h1, h2, h3, h4, h5, h6⟩ := hF.ex
    refine ⟨_, (pss_one (ps_if (pt_not (pt_chain op_le op_le (pe_gi T.COLUMN) (pv 1) (pe_fld (pv 0) rfl))) (pss_one (ps_never)) pss_nil)), ?_⟩
    refine ⟨_, rfl, _, _, rfl, rfl, _, rfl, ?_⟩
    have c1 : decide ((-1 : Int) ≤ j) = true := decide_eq_true hk.1
    show if decide ((-1 : Int) ≤ j) = true then _ else _
    rw [c1]
    refine iteT ⟨_, rfl, x, C, dx, _, _, rfl, h1, T.cl, T.n_many, lk_many _ _ _ _ _, _, _, rfl, rfl, _, rfl, ?_⟩
    have c2 : decide (j ≤ manyP Ps) = true := decide_eq_true hk.2
    show if (!decide (j ≤ manyP Ps)) = true then _ else _
    rw [c2]
    refine iteF ?_
    exact k H (Same.refl H)
end
end Msw
set_option maxRecDepth 100000
set_option maxHeartbeats 4000000
namespace Msw
open PySem L2 Msq
section
variable {P : Program} {w : World} {K : PySem.W.Frag} {mg : Str → Option Value} {base : Heap} {C fS fL : Addr}
theorem ok_F_cell (T : Txt K mg C fS fL) (D : Mtd K C "cell" "Family.cell" s_F_cell ["self", "one", "other"]) (G_F_cell_of : Hm P w K mg base C 6 "cell_of" ["self", "one", "other"] (sp_F_cell K C)) (G_F_check_kind : Hm P w K mg base C 1 "check_kind" ["self", "kind"] (sp_F_check_kind C)) (G_F_check_point : Hm P w K mg base C 1 "check_point" ["self", "point"] (sp_F_check_point C)) : Hm P w K mg base C 7 "cell" ["self", "one", "other"] (sp_F_cell K C) := by
  obtain ⟨f, fd, F, g, b⟩ := D
  refine ⟨f, fd, F.ok sc_F_cell (fun vs H Q E h => ?_) (fun cdv A outer s H vs Q E hr h => ?_), g, b⟩
  · obtain ⟨x, Ps, a, b, i, j, r, c, rfl, _⟩ := h
    rfl
  · obtain ⟨x, Ps, a, b, i, j, r, c, rfl, hF, ok, ha, hb, hi, hj, hij, pr, pc, k⟩ := h
    obtain ⟨dx, aP, aS, aL, tP, tL, h1, h2, h3, h4, h5, h6⟩ := hF.ex
    refine ⟨_, (pss_cons (ps_for PassesOwn.never rfl (pi_tup (pe_tup (pa_cons (pv 1) (pa_cons (pv 2) pa_nil)))) (pg_tup rfl (pgs_cons (pg_name (i := 3) sc_F_cell.nd rfl (Or.inl rfl)) (pgs_cons (pg_name (i := 4) sc_F_cell.nd rfl (Or.inl rfl)) pgs_nil)))
        (pss_cons (ps_expr (pe_m T.cl G_F_check_kind (hr.mono (by decide)) (pv 0) (pa_cons (pv 3) pa_nil)))
        (pss_one (ps_expr (pe_m T.cl G_F_check_point (hr.mono (by decide)) (pv 0) (pa_cons (pv 4) pa_nil))))))
      (pss_cons (ps_if (pt_cmpR op_eq (pe_ix (r := rIxT K) ix_tup (pv 1) pe_int (fun _ _ => rfl)) (pe_ix (r := rIxT K) ix_tup (pv 2) pe_int (fun _ _ => rfl)) (nomark _)) (pss_one (ps_never)) pss_nil)
      (pss_one (ps_ret (pe_m T.cl G_F_cell_of (hr.mono (by decide)) (pv 0) (pa_cons (pv 1) (pa_cons (pv 2) pa_nil))))))), ?_⟩
    refine ⟨_, rfl, _, rfl, by show 2 ≤ sizeLine; decide, fun z hz => ?_⟩
    have s1 : Same H _ := same_new (o := .tup [.ref a, .ref b]) hz
    refine ⟨z, rfl, ⟨_, SqT.of upd_same⟩, ?_⟩
    refine ft (K := K) (a := z) (xs := [.ref a, .ref b]) (fun i σ H' => ∃ (v3 v4 : Option V), σ = [some (.ref x), some (.ref a), some (.ref b), v3, v4] ∧ Same H H' ∧ H' z = some (.tup [.ref a, .ref b])) ⟨none, none, rfl, s1, upd_same⟩ (fun i σ H1 _ ⟨_, _, _, _, t1⟩ => SqT.of t1) ?_ ?_
    · rintro m y σ H1 hy ⟨v3, v4, rfl, t1, hz1⟩
      obtain ⟨q, u, rfl, hq, hu⟩ : ∃ (q : Addr) (u : Int), y = .ref q ∧ SqT K H q [.int u, .int (hasP Ps u r c)] ∧ Kn Ps u := by
        match m, hy with
        | 0, hy => exact ⟨a, i, (Option.some.inj hy).symm, ha, hi⟩
        | 1, hy => exact ⟨b, j, (Option.some.inj hy).symm, hb, hj⟩
      refine ⟨q, _, rfl, Same.sqt t1 hq, rfl, _, _, rfl, _, _, rfl, rfl, ?_⟩
      refine ⟨_, rfl, x, dx, _, rfl, t1 _ _ h1, no_m (by decide +kernel), _, rfl, x, Ps, u, rfl, hF.up t1, hu, fun H2 s2 => ?_⟩
      have t2 := t1.trans s2
      refine ⟨_, rfl, x, dx, _, rfl, t2 _ _ h1, no_m (by decide +kernel), _, rfl, x, Ps, hasP Ps u r c, rfl, hF.up t2, has_pt ok.fld pc, fun H3 s3 => ?_⟩
      exact ⟨_, _, rfl, t2.trans s3, s3 _ _ (s2 _ _ hz1)⟩
    · rintro σ H1 ⟨v3, v4, rfl, t1, hz1⟩
      refine ⟨_, rfl, a, _, _, _, rfl, rfl, Same.sqt t1 ha, rfl, _, rfl, b, _, _, _, rfl, rfl, Same.sqt t1 hb, rfl, rfl, _, rfl, ?_⟩
      have e1 : decide (V.int i = V.int j) = false := decide_eq_false (fun q => hij (V.int.inj q))
      show if decide (V.int i = V.int j) = true then _ else _
      rw [e1]
      refine iteF ?_
      refine ⟨_, rfl, x, dx, _, rfl, t1 _ _ h1, no_m (by decide +kernel), _, rfl, _, rfl, x, Ps, a, b, i, j, r, c, rfl, hF.up t1, ok, Same.sqt t1 ha, Same.sqt t1 hb, hi, hj, hij, pr, pc, ?_⟩
      exact RT.up k t1
end
end Msw
set_option maxRecDepth 100000
set_option maxHeartbeats 4000000
namespace Msw
open PySem L2 Msq
section
variable {P : Program} {w : World} {K : PySem.W.Frag} {mg : Str → Option Value} {base : Heap} {C fS fL : Addr}
theorem ok_F_check_square (T : Txt K mg C fS fL) (D : Mtd K C "check_square" "Family.check_square" s_F_check_square ["self", "number"]) : Hm P w K mg base C 1 "check_square" ["self", "number"] (sp_F_check_square C) := by
  obtain ⟨f, fd, F, g, b⟩ := D
  refine ⟨f, fd, F.ok sc_F_check_square (fun vs H Q E h => ?_) (fun cdv A outer s H vs Q E hr h => ?_), g, b⟩
  · obtain ⟨x, Ps, j, rfl, _⟩ := h
    rfl
  · obtain ⟨x, Ps, j, rfl, hF, hk, k⟩ := h
    obtain ⟨dx, aP, aS, aL, tP, tL, h1, h2, h3, h4, h5, h6⟩ := hF.ex
    refine ⟨_, (pss_one (ps_if (pt_not (pt_chain op_le op_le pe_int (pv 1) (pe_fld (pv 0) rfl))) (pss_one (ps_never)) pss_nil)), ?_⟩
    refine ⟨_, rfl, _, _, rfl, rfl, _, rfl, ?_⟩
    have c1 : decide ((1 : Int) ≤ j) = true := decide_eq_true hk.1
    show if decide ((1 : Int) ≤ j) = true then _ else _
    rw [c1]
    refine iteT ⟨_, rfl, x, C, dx, _, _, rfl, h1, T.cl, T.n_many, lk_many _ _ _ _ _, _, _, rfl, rfl, _, rfl, ?_⟩
    have c2 : decide (j ≤ manyP Ps) = true := decide_eq_true hk.2
    show if (!decide (j ≤ manyP Ps)) = true then _ else _
    rw [c2]
    refine iteF ?_
    exact k H (Same.refl H)
end
end Msw
set_option maxRecDepth 100000
set_option maxHeartbeats 4000000
namespace Msw
open PySem L2 Msq
section
variable {P : Program} {w : World} {K : PySem.W.Frag} {mg : Str → Option Value} {base : Heap} {C fS fL : Addr}
theorem ok_F_at_cell (T : Txt K mg C fS fL) (D : Mtd K C "at_cell" "Family.at_cell" s_F_at_cell ["self", "row", "column", "kind"]) (G_F_combined : Hm P w K mg base C 3 "combined" ["self", "point", "other", "kind", "together"] (sp_F_combined C fS fL)) : Hm P w K mg base C 4 "at_cell" ["self", "row", "column", "kind"] (sp_F_at_cell C) := by
  obtain ⟨f, fd, F, g, b⟩ := D
  refine ⟨f, fd, F.ok sc_F_at_cell (fun vs H Q E h => ?_) (fun cdv A outer s H vs Q E hr h => ?_), g, b⟩
  · obtain ⟨x, Ps, r, c, j, rfl, _⟩ := h
    rfl
  · obtain ⟨x, Ps, r, c, j, rfl, hF, ok, hk, k⟩ := h
    obtain ⟨dx, aP, aS, aL, tP, tL, h1, h2, h3, h4, h5, h6⟩ := hF.ex
    refine ⟨_, (pss_one (ps_ret (pe_ifExp (pt_cmpR op_eq (pv 3) (pe_gi T.COLUMN) (nomark _)) (pv 2) (pe_m T.cl G_F_combined (hr.mono (by decide)) (pv 0) (pa_cons (pv 1) (pa_cons (pv 2) (pa_cons (pv 3) (pa_cons (pe_glob (v := .ref fS) rfl T.sum_of rfl) pa_nil)))))))), ?_⟩
    refine ⟨_, rfl, rfl, _, rfl, ?_⟩
    by_cases hj : j = -1
    · have e : decide (V.int j = V.int (-1)) = true := decide_eq_true (by rw [hj])
      show if decide (V.int j = V.int (-1)) = true then _ else _
      rw [e]
      rw [hasP, if_pos hj] at k
      refine iteT ⟨_, rfl, ?_⟩
      exact k H (Same.refl H)
    · have e : decide (V.int j = V.int (-1)) = false := decide_eq_false (fun q => hj (V.int.inj q))
      show if decide (V.int j = V.int (-1)) = true then _ else _
      rw [e]
      rw [hasP, if_neg hj] at k
      refine iteF ⟨_, rfl, x, dx, _, rfl, h1, no_m (by decide +kernel), _, rfl, _, rfl, _, rfl, ?_⟩
      exact ⟨x, Ps, r, c, j, fS, fsum, rfl, hF, ok, .inl ⟨rfl, rfl⟩, fun H1 s1 => k H1 s1⟩
end
end Msw
set_option maxRecDepth 100000
set_option maxHeartbeats 4000000
namespace Msw
open PySem L2 Msq
section
variable {P : Program} {w : World} {K : PySem.W.Frag} {mg : Str → Option Value} {base : Heap} {C fS fL : Addr}
theorem ok_F_told (T : Txt K mg C fS fL) (D : Mtd K C "told" "Family.told" s_F_told ["self", "one", "other", "wanted"]) (G_F_at_cell : Hm P w K mg base C 4 "at_cell" ["self", "row", "column", "kind"] (sp_F_at_cell C)) (G_F_cell : Hm P w K mg base C 7 "cell" ["self", "one", "other"] (sp_F_cell K C)) (G_F_check_kind : Hm P w K mg base C 1 "check_kind" ["self", "kind"] (sp_F_check_kind C)) : Hm P w K mg base C 8 "told" ["self", "one", "other", "wanted"] (sp_F_told K C) := by
  obtain ⟨f, fd, F, g, b⟩ := D
  refine ⟨f, fd, F.ok sc_F_told (fun vs H Q E h => ?_) (fun cdv A outer s H vs Q E hr h => ?_), g, b⟩
  · obtain ⟨x, Ps, a, b, i, j, r, c, g0, rfl, _⟩ := h
    rfl
  · obtain ⟨x, Ps, a, b, i, j, r, c, g0, rfl, hF, ok, ha, hb, hi, hj, hij, pr, pc, hg, k⟩ := h
    obtain ⟨dx, aP, aS, aL, tP, tL, h1, h2, h3, h4, h5, h6⟩ := hF.ex
    refine ⟨_, (pss_cons (ps_asg (pe_m T.cl G_F_cell (hr.mono (by decide)) (pv 0) (pa_cons (pv 1) (pa_cons (pv 2) pa_nil))) (pg_tup rfl (pgs_cons (pg_name (i := 4) sc_F_told.nd rfl (Or.inl rfl)) (pgs_cons (pg_name (i := 5) sc_F_told.nd rfl (Or.inl rfl)) pgs_nil))))
      (pss_cons (ps_expr (pe_m T.cl G_F_check_kind (hr.mono (by decide)) (pv 0) (pa_cons (pv 3) pa_nil)))
      (pss_one (ps_ret (pe_m T.cl G_F_at_cell (hr.mono (by decide)) (pv 0) (pa_cons (pv 4) (pa_cons (pv 5) (pa_cons (pv 3) pa_nil)))))))), ?_⟩
    refine ⟨_, rfl, x, dx, _, rfl, h1, no_m (by decide +kernel), _, rfl, _, rfl, x, Ps, a, b, i, j, r, c, rfl, hF, ok, ha, hb, hi, hj, hij, pr, pc, fun p H1 s1 hp hp1 => ?_⟩
    refine ⟨p, _, rfl, SqT.of hp1, rfl, _, _, rfl, _, _, rfl, rfl, ?_⟩
    refine ⟨_, rfl, x, dx, _, rfl, s1 _ _ h1, no_m (by decide +kernel), _, rfl, x, Ps, g0, rfl, hF.up s1, hg, fun H2 s2 => ?_⟩
    have s3 := s1.trans s2
    refine ⟨_, rfl, x, dx, _, rfl, s3 _ _ h1, no_m (by decide +kernel), _, rfl, _, rfl, _, rfl, x, Ps, r, c, g0, rfl, hF.up s3, ok, hg, fun H4 s4 => ?_⟩
    exact k H4 (s3.trans s4)
end
end Msw
set_option maxRecDepth 100000
set_option maxHeartbeats 4000000
namespace Msw
open PySem L2 Msq
section
variable {P : Program} {w : World} {K : PySem.W.Frag} {mg : Str → Option Value} {base : Heap} {C fS fL : Addr}
theorem ok_F_column_for (T : Txt K mg C fS fL) (D : Mtd K C "column_for" "Family.column_for" s_F_column_for ["self", "number", "row", "sign"]) (G_F_check_square : Hm P w K mg base C 1 "check_square" ["self", "number"] (sp_F_check_square C)) (G_F_told : Hm P w K mg base C 8 "told" ["self", "one", "other", "wanted"] (sp_F_told K C)) : Hm P w K mg base C 9 "column_for" ["self", "number", "row", "sign"] (sp_F_column_for C) := by
  obtain ⟨f, fd, F, g, b⟩ := D
  refine ⟨f, fd, F.ok sc_F_column_for (fun vs H Q E h => ?_) (fun cdv A outer s H vs Q E hr h => ?_), g, b⟩
  · obtain ⟨x, Ps, j, r, c, rfl, _⟩ := h
    rfl
  · obtain ⟨x, Ps, j, r, c, rfl, hF, ok, hj, pr, pc, k⟩ := h
    obtain ⟨dx, aP, aS, aL, tP, tL, h1, h2, h3, h4, h5, h6⟩ := hF.ex
    have m1 := ok.many1
    have kj : Kn Ps j := ⟨by omega, hj.2⟩
    have k0 : Kn Ps 0 := ⟨by omega, by omega⟩
    have kc : Kn Ps (-1) := ⟨by omega, by omega⟩
    have ec : hasP Ps (-1) r c = c := by rw [hasP, if_pos rfl]
    have er : hasP Ps 0 r c = r := has_zero ok.fld pr
    refine ⟨_, (pss_cons (ps_expr (pe_m T.cl G_F_check_square (hr.mono (by decide)) (pv 0) (pa_cons (pv 1) pa_nil)))
      (pss_one (ps_ret (pe_m T.cl G_F_told (hr.mono (by decide)) (pv 0) (pa_cons (pe_tup (pa_cons (pe_gi T.ROW) (pa_cons (pv 2) pa_nil))) (pa_cons (pe_tup (pa_cons (pv 1) (pa_cons (pv 3) pa_nil))) (pa_cons (pe_gi T.COLUMN) pa_nil))))))), ?_⟩
    refine ⟨_, rfl, x, dx, _, rfl, h1, no_m (by decide +kernel), _, rfl, x, Ps, j, rfl, hF, hj, fun H1 s1 => ?_⟩
    refine ⟨_, rfl, x, dx, _, rfl, s1 _ _ h1, no_m (by decide +kernel), _, rfl, by show 2 ≤ sizeLine; decide, fun a ha => ?_⟩
    refine ⟨_, rfl, _, rfl, by show 2 ≤ sizeLine; decide, fun b hb => ?_⟩
    have s2 := s1.trans (same_new (o := .tup [.int 0, .int r]) ha)
    have s3 := s2.trans (same_new (o := .tup [.int j, .int (hasP Ps j r c)]) hb)
    have nab : a ≠ b := ne_of_none upd_same hb
    have qa : SqT K (upd (upd H1 a (.tup [.int 0, .int r])) b (.tup [.int j, .int (hasP Ps j r c)])) a [.int 0, .int (hasP Ps 0 r c)] := SqT.of (by rw [upd_ne nab, upd_same]; simp only [ec, er])
    have qb : SqT K (upd (upd H1 a (.tup [.int 0, .int r])) b (.tup [.int j, .int (hasP Ps j r c)])) b [.int j, .int (hasP Ps j r c)] := SqT.of (by rw [upd_same] <;> simp only [ec, er])
    refine ⟨x, Ps, a, b, 0, j, r, c, (-1), rfl, hF.up s3, ok, qa, qb, k0, kj, by omega, pr, pc, kc, fun H4 s4 => ?_⟩
    have := k H4 (s3.trans s4)
    rw [ec]
    exact this
end
end Msw
set_option maxRecDepth 100000
set_option maxHeartbeats 4000000
namespace Msw
open PySem L2 Msq
section
variable {P : Program} {w : World} {K : PySem.W.Frag} {mg : Str → Option Value} {base : Heap} {C fS fL : Addr}
theorem ok_F_row_for (T : Txt K mg C fS fL) (D : Mtd K C "row_for" "Family.row_for" s_F_row_for ["self", "number", "column", "sign"]) (G_F_check_square : Hm P w K mg base C 1 "check_square" ["self", "number"] (sp_F_check_square C)) (G_F_told : Hm P w K mg base C 8 "told" ["self", "one", "other", "wanted"] (sp_F_told K C)) : Hm P w K mg base C 9 "row_for" ["self", "number", "column", "sign"] (sp_F_row_for C) := by
  obtain ⟨f, fd, F, g, b⟩ := D
  refine ⟨f, fd, F.ok sc_F_row_for (fun vs H Q E h => ?_) (fun cdv A outer s H vs Q E hr h => ?_), g, b⟩
  · obtain ⟨x, Ps, j, r, c, rfl, _⟩ := h
    rfl
  · obtain ⟨x, Ps, j, r, c, rfl, hF, ok, hj, pr, pc, k⟩ := h
    obtain ⟨dx, aP, aS, aL, tP, tL, h1, h2, h3, h4, h5, h6⟩ := hF.ex
    have m1 := ok.many1
    have kj : Kn Ps j := ⟨by omega, hj.2⟩
    have k0 : Kn Ps 0 := ⟨by omega, by omega⟩
    have kc : Kn Ps (-1) := ⟨by omega, by omega⟩
    have ec : hasP Ps (-1) r c = c := by rw [hasP, if_pos rfl]
    have er : hasP Ps 0 r c = r := has_zero ok.fld pr
    refine ⟨_, (pss_cons (ps_expr (pe_m T.cl G_F_check_square (hr.mono (by decide)) (pv 0) (pa_cons (pv 1) pa_nil)))
      (pss_one (ps_ret (pe_m T.cl G_F_told (hr.mono (by decide)) (pv 0) (pa_cons (pe_tup (pa_cons (pe_gi T.COLUMN) (pa_cons (pv 2) pa_nil))) (pa_cons (pe_tup (pa_cons (pv 1) (pa_cons (pv 3) pa_nil))) (pa_cons (pe_gi T.ROW) pa_nil))))))), ?_⟩
    refine ⟨_, rfl, x, dx, _, rfl, h1, no_m (by decide +kernel), _, rfl, x, Ps, j, rfl, hF, hj, fun H1 s1 => ?_⟩
    refine ⟨_, rfl, x, dx, _, rfl, s1 _ _ h1, no_m (by decide +kernel), _, rfl, by show 2 ≤ sizeLine; decide, fun a ha => ?_⟩
    refine ⟨_, rfl, _, rfl, by show 2 ≤ sizeLine; decide, fun b hb => ?_⟩
    have s2 := s1.trans (same_new (o := .tup [.int (-1), .int c]) ha)
    have s3 := s2.trans (same_new (o := .tup [.int j, .int (hasP Ps j r c)]) hb)
    have nab : a ≠ b := ne_of_none upd_same hb
    have qa : SqT K (upd (upd H1 a (.tup [.int (-1), .int c])) b (.tup [.int j, .int (hasP Ps j r c)])) a [.int (-1), .int (hasP Ps (-1) r c)] := SqT.of (by rw [upd_ne nab, upd_same]; simp only [ec, er])
    have qb : SqT K (upd (upd H1 a (.tup [.int (-1), .int c])) b (.tup [.int j, .int (hasP Ps j r c)])) b [.int j, .int (hasP Ps j r c)] := SqT.of (by rw [upd_same] <;> simp only [ec, er])
    refine ⟨x, Ps, a, b, (-1), j, r, c, 0, rfl, hF.up s3, ok, qa, qb, kc, kj, by omega, pr, pc, k0, fun H4 s4 => ?_⟩
    have := k H4 (s3.trans s4)
    rw [er]
    exact this
end
end Msw
set_option maxRecDepth 100000
set_option maxHeartbeats 4000000
namespace Msw
open PySem L2 Msq
section
variable {P : Program} {w : World} {K : PySem.W.Frag} {mg : Str → Option Value} {base : Heap} {C fS fL : Addr}
theorem ok_F_sign (T : Txt K mg C fS fL) (D : Mtd K C "sign" "Family.sign" s_F_sign ["self", "number", "row", "column"]) (G_F_check_square : Hm P w K mg base C 1 "check_square" ["self", "number"] (sp_F_check_square C)) (G_F_told : Hm P w K mg base C 8 "told" ["self", "one", "other", "wanted"] (sp_F_told K C)) : Hm P w K mg base C 9 "sign" ["self", "number", "row", "column"] (sp_F_sign C) := by
  obtain ⟨f, fd, F, g, b⟩ := D
  refine ⟨f, fd, F.ok sc_F_sign (fun vs H Q E h => ?_) (fun cdv A outer s H vs Q E hr h => ?_), g, b⟩
  · obtain ⟨x, Ps, j, r, c, rfl, _⟩ := h
    rfl
  · obtain ⟨x, Ps, j, r, c, rfl, hF, ok, hj, pr, pc, k⟩ := h
    obtain ⟨dx, aP, aS, aL, tP, tL, h1, h2, h3, h4, h5, h6⟩ := hF.ex
    have m1 := ok.many1
    have kj : Kn Ps j := ⟨by omega, hj.2⟩
    have k0 : Kn Ps 0 := ⟨by omega, by omega⟩
    have kc : Kn Ps (-1) := ⟨by omega, by omega⟩
    have ec : hasP Ps (-1) r c = c := by rw [hasP, if_pos rfl]
    have er : hasP Ps 0 r c = r := has_zero ok.fld pr
    refine ⟨_, (pss_cons (ps_expr (pe_m T.cl G_F_check_square (hr.mono (by decide)) (pv 0) (pa_cons (pv 1) pa_nil)))
      (pss_one (ps_ret (pe_m T.cl G_F_told (hr.mono (by decide)) (pv 0) (pa_cons (pe_tup (pa_cons (pe_gi T.ROW) (pa_cons (pv 2) pa_nil))) (pa_cons (pe_tup (pa_cons (pe_gi T.COLUMN) (pa_cons (pv 3) pa_nil))) (pa_cons (pv 1) pa_nil))))))), ?_⟩
    refine ⟨_, rfl, x, dx, _, rfl, h1, no_m (by decide +kernel), _, rfl, x, Ps, j, rfl, hF, hj, fun H1 s1 => ?_⟩
    refine ⟨_, rfl, x, dx, _, rfl, s1 _ _ h1, no_m (by decide +kernel), _, rfl, by show 2 ≤ sizeLine; decide, fun a ha => ?_⟩
    refine ⟨_, rfl, by show 2 ≤ sizeLine; decide, fun b hb => ?_⟩
    have s2 := s1.trans (same_new (o := .tup [.int 0, .int r]) ha)
    have s3 := s2.trans (same_new (o := .tup [.int (-1), .int c]) hb)
    have nab : a ≠ b := ne_of_none upd_same hb
    have qa : SqT K (upd (upd H1 a (.tup [.int 0, .int r])) b (.tup [.int (-1), .int c])) a [.int 0, .int (hasP Ps 0 r c)] := SqT.of (by rw [upd_ne nab, upd_same]; simp only [ec, er])
    have qb : SqT K (upd (upd H1 a (.tup [.int 0, .int r])) b (.tup [.int (-1), .int c])) b [.int (-1), .int (hasP Ps (-1) r c)] := SqT.of (by rw [upd_same] <;> simp only [ec, er])
    refine ⟨_, rfl, x, Ps, a, b, 0, (-1), r, c, j, rfl, hF.up s3, ok, qa, qb, k0, kc, by omega, pr, pc, kj, fun H4 s4 => ?_⟩
    have := k H4 (s3.trans s4)
    exact this
end
end Msw
set_option maxRecDepth 100000
set_option maxHeartbeats 4000000
namespace Msw
open PySem L2 Msq
section
variable {P : Program} {w : World} {K : PySem.W.Frag} {mg : Str → Option Value} {base : Heap} {C fS fL : Addr}
theorem ok_F_word (T : Txt K mg C fS fL) (D : Mtd K C "word" "Family.word" s_F_word ["self", "row", "column", "kinds"]) (G_F_at_cell : Hm P w K mg base C 4 "at_cell" ["self", "row", "column", "kind"] (sp_F_at_cell C)) (G_F_check_kind : Hm P w K mg base C 1 "check_kind" ["self", "kind"] (sp_F_check_kind C)) (G_F_check_point : Hm P w K mg base C 1 "check_point" ["self", "point"] (sp_F_check_point C)) : Hm P w K mg base C 5 "word" ["self", "row", "column", "kinds"] (sp_F_word K C) := by
  obtain ⟨f, fd, F, g, b⟩ := D
  refine ⟨f, fd, F.ok sc_F_word (fun vs H Q E h => ?_) (fun cdv A outer s H vs Q E hr h => ?_), g, b⟩
  · obtain ⟨x, Ps, r, c, a, js, rfl, _⟩ := h
    rfl
  · obtain ⟨x, Ps, r, c, a, js, rfl, hF, ok, pr, pc, ha, hk, hl, k⟩ := h
    obtain ⟨dx, aP, aS, aL, tP, tL, h1, h2, h3, h4, h5, h6⟩ := hF.ex
    refine ⟨_, (pss_cons (ps_expr (pe_m T.cl G_F_check_point (hr.mono (by decide)) (pv 0) (pa_cons (pv 1) pa_nil)))
      (pss_cons (ps_expr (pe_m T.cl G_F_check_point (hr.mono (by decide)) (pv 0) (pa_cons (pv 2) pa_nil)))
      (pss_cons (ps_for PassesOwn.never rfl (pi_list (pv 3)) (pg_name (i := 4) sc_F_word.nd rfl (Or.inl rfl))
        (pss_one (ps_expr (pe_m T.cl G_F_check_kind (hr.mono (by decide)) (pv 0) (pa_cons (pv 4) pa_nil)))))
      (pss_one (ps_ret (pe_callTy call_tuple_of rfl T.tuple_ (by decide +kernel) (pa_cons (pe_lc (own := [("kind", 4)]) (g := gName 4) (tt := tYes) rfl sc_F_word.nd (pi_list (pv 3)) (blkOk_by (own := [("kind", 4)]) (N := ["self", "row", "column", "kinds", "kind"]) (sc := defScope s_F_word) (by decide +kernel)) (fun _ _ _ _ _ => pg_name (i := 4) sc_F_word.nd rfl (Or.inl rfl)) (fun _ _ _ _ _ => pts_nil) (fun _ _ _ _ _ => (pe_m T.cl G_F_at_cell (hr.mono (by decide)) (pv 0) (pa_cons (pv 1) (pa_cons (pv 2) (pa_cons (pv 4) pa_nil)))))) pa_nil))))))), ?_⟩
    refine ⟨_, rfl, x, dx, _, rfl, h1, no_m (by decide +kernel), _, rfl, x, Ps, r, rfl, hF, pr, fun H1 s1 => ?_⟩
    refine ⟨_, rfl, x, dx, _, rfl, s1 _ _ h1, no_m (by decide +kernel), _, rfl, x, Ps, c, rfl, hF.up s1, pc, fun H2 s2 => ?_⟩
    have s3 := s1.trans s2
    refine ⟨_, rfl, a, rfl, ⟨_, s3.seq ha⟩, ?_⟩
    have kn_at : ∀ i, i < js.length → Kn Ps (js.getD i 0) := fun i hi => by
      rw [List.getD_eq_getElem?_getD, List.getElem?_eq_getElem hi]
      exact hk _ (List.getElem_mem hi)
    refine fl (K := K) (a := a) (xs := vints js) (fun i σ H' => ∃ (v4 : Option V), σ = [some (.ref x), some (.int r), some (.int c), some (.ref a), v4] ∧ Same H H') ⟨none, rfl, s3⟩ (fun i σ H1 _ ⟨_, _, t1⟩ => t1.seq ha) ?_ ?_
    · rintro m y σ H4 hy ⟨v4, rfl, t1⟩
      obtain ⟨hm, rfl⟩ := vints_get' hy
      refine ⟨_, rfl, x, dx, _, rfl, t1 _ _ h1, no_m (by decide +kernel), _, rfl, x, Ps, _, rfl, hF.up t1, kn_at m hm, fun H5 s5 => ⟨_, rfl, t1.trans s5⟩⟩
    · rintro σ H4 ⟨v4, rfl, t1⟩
      refine ⟨_, rfl, a, rfl, ⟨_, t1.seq ha⟩, fun D hD => ?_⟩
      refine lcl (K := K) (a := a) (xs := vints js) (fun i => V.int ((js.map fun j => hasP Ps j r c).getD i 0)) (t1.seq ha) hD (by rw [vints_len]; omega) ?_ ?_
      · intro i y H5 Q5 hy s5 k5
        obtain ⟨hi, rfl⟩ := vints_get' hy
        have t5 := t1.trans s5
        refine ⟨rfl, _, rfl, x, dx, _, rfl, t5 _ _ h1, no_m (by decide +kernel), _, rfl, _, rfl, _, rfl, x, Ps, r, c, _, rfl, hF.up t5, ok, kn_at i hi, fun H6 s6 => ?_⟩
        have := k5 H6 s6
        rw [map_getD (fun j => hasP Ps j r c) hi] at this
        exact this
      intro H5 s5 h5
      rw [vints_range (by simp)] at h5
      refine ⟨D, _, rfl, .inl ⟨SqL.of h5, fun R hR => ?_⟩⟩
      have t5 := t1.trans s5
      exact k R _ (t5.trans (same_new hR)) (t5.free hR) upd_same
end
end Msw
set_option maxRecDepth 100000
set_option maxHeartbeats 4000000
namespace Msw
open PySem L2 Msq
section
variable {P : Program} {w : World} {K : PySem.W.Frag} {mg : Str → Option Value} {base : Heap} {C fS fL : Addr}
theorem log_ok {z : Int} (h0 : 0 ≤ z) (h1 : z < 10 ^ 30) : z.natAbs.log2 < 1920 := by
  have e : (10 : Int) ^ 30 = 1000000000000000000000000000000 := by decide
  have hn : z.natAbs < 2 ^ 100 := by
    have : (2 : Nat) ^ 100 = 1267650600228229401496703205376 := by decide
    omega
  by_cases hz : z.natAbs = 0
  · rw [hz]
    decide
  · have := (Nat.log2_lt hz).mpr hn
    omega
theorem eqv_ints : ∀ l : List Int, PyData.eqvAll (l.map PyData.int) (l.map PyData.int) = true
  | [] => rfl
  | x :: l => by
    simp only [List.map_cons, PyData.eqvAll, eqv_ints l, Bool.and_true]
    simp [PyData.eqv]
theorem eqv_tup (l : List Int) : PyData.eqv (.tuple (l.map PyData.int)) (.tuple (l.map PyData.int)) = true := by
  rw [PyData.eqv]
  exact eqv_ints l
theorem dp_ints {H : Hp} : ∀ l : List Int, DpAll K H (vints l) (l.map PyData.int)
  | [] => .nil
  | x :: l => .cons (.int x) (dp_ints l)
theorem ne_self (x : V) : (!decide (x = x)) = false := by simp
theorem eq_self' (x : V) : decide (x = x) = true := by simp
theorem cell_sh2 (r c : Int) : SeqAt.shaped (.tuple [.int r, .int c]) = true := by rfl
theorem cell_sh3 (r c d : Int) : SeqAt.shaped (.tuple [.int r, .int c, .int d]) = true := by rfl
/-- what stands when the family is made -/
structure Al (K : PySem.W.Frag) (C : Addr) (N L W F : Addr) (ns : List Int) (ts tl : List Addr) (es : List Ent) (H : Hp) : Prop where
  hN : H N = some (.lst (vints ns))
  hL : H L = some (.lst (vrefs ts))
  tu : Tups H ts es
  hW : H W = some (.lst (vrefs tl))
  tw : TupW H tl (prt es)
  fam : FamAt C H F (prt es)
theorem TupW.up {H H' : Hp} {ts : List Addr} {Ps : List Part} (h : TupW H ts Ps) (s : Same H H') : TupW H' ts Ps := ⟨h.1, fun i t P a b => s _ _ (h.2 i t P a b)⟩
theorem Al.up {N L W F : Addr} {ns : List Int} {ts tl : List Addr} {es : List Ent} {H H' : Hp} (h : Al K C N L W F ns ts tl es H) (s : Same H H') : Al K C N L W F ns ts tl es H' :=
  ⟨s _ _ h.hN, s _ _ h.hL, h.tu.up s, s _ _ h.hW, TupW.up h.tw s, h.fam.up s⟩
theorem EsOk.tail {es : List Ent} (h : EsOk es) (hl : 2 ≤ es.length) : EsOk (es.drop 1) := by
  refine ⟨fun e => ?_, fun e he => h.tab e (List.mem_of_mem_drop he), ?_, ?_⟩
  · have := congrArg List.length e
    rw [List.length_drop] at this
    simp at this
    omega
  · rw [List.map_drop]
    exact (List.drop_sublist 1 _).nodup h.nd
  · have := h.len
    rw [List.length_drop]
    omega
theorem EsOk.one {es : List Ent} (h : EsOk es) (hl : es.length < 2) : ordP (prt es) ≤ 10 ^ 30 := by
  have e30 : (10 : Int) ^ 30 = 1000000000000000000000000000000 := by decide
  match es, h, hl with
  | [], h, _ => exact absurd rfl h.ne
  | [e], h, _ =>
    have := (h.ps.ok e.P (by simp)).q
    show e.P.q * 1 ≤ _
    omega
theorem ok_law (T : Txt K mg C fS fL) {f : Addr} {fd : FuncData} (F : Fun K "law" "law" s_law f fd) (G__law_great : Hs P w K mg base 1 "_law_great" ["_law_numbers_here", "_law_at"] (sp__law_great K)) (G__law_has : Hs P w K mg base 3 "_law_has" ["_law_parts", "_law_lowers", "_law_kind", "_law_row_here", "_law_column"] (sp__law_has K)) (G__law_long : Hs P w K mg base 1 "_law_long" ["_law_numbers_here", "_law_at"] (sp__law_long K)) (G__law_many : Hs P w K mg base 2 "_law_many" ["_law_parts"] (sp__law_many K)) (G__law_numbers : Hs P w K mg base 2 "_law_numbers" ["_law_script", "_law_many_here"] (sp__law_numbers K)) (G__law_order : Hs P w K mg base 2 "_law_order" ["_law_parts"] (sp__law_order K)) (G_agreement : Hs P w K mg base 6 "agreement" ["family", "cell", "other"] (sp_agreement K C)) (G_polynomial : Hs P w K mg base 5 "polynomial" ["prime", "degree"] sp_polynomial) (G_square_with : Hs P w K mg base 6 "square_with" ["family", "row", "column", "sign"] (sp_square_with C)) (G_F_init : Hm P w K mg base C 5 "__init__" ["self", "parts"] (sp_F_init C)) (G_F_cell : Hm P w K mg base C 7 "cell" ["self", "one", "other"] (sp_F_cell K C)) (G_F_column_for : Hm P w K mg base C 9 "column_for" ["self", "number", "row", "sign"] (sp_F_column_for C)) (G_F_row_for : Hm P w K mg base C 9 "row_for" ["self", "number", "column", "sign"] (sp_F_row_for C)) (G_F_sign : Hm P w K mg base C 9 "sign" ["self", "number", "row", "column"] (sp_F_sign C)) (G_F_told : Hm P w K mg base C 8 "told" ["self", "one", "other", "wanted"] (sp_F_told K C)) (G_F_word : Hm P w K mg base C 5 "word" ["self", "row", "column", "kinds"] (sp_F_word K C)) (M_Family : PySem.W.makesIn K C = true ∧ PySem.W.keepIn K (.ref C) = true) : FnOk P w K mg base CX0 10 f fd ["_law_script"] (sp_law K) := by
  refine F.ok sc_law (fun vs H Q E h => ?_) (fun cdv A outer s H vs Q E hr h => ?_)
  · obtain ⟨a, cs, rfl, _⟩ := h
    rfl
  · obtain ⟨a, cs, rfl, ha, hc, k⟩ := h
    refine ⟨_, (pss_cons (ps_set (i := 1) sc_law.nd rfl (Or.inl rfl) (pe_c G__law_numbers (hr.mono (by decide)) rfl (pa_cons (pv 0) (pa_cons pe_int pa_nil))))
      (pss_cons (ps_set (i := 2) sc_law.nd rfl (Or.inl rfl) (pe_c G__law_great (hr.mono (by decide)) rfl (pa_cons (pv 1) (pa_cons pe_int pa_nil))))
      (pss_cons (ps_for PassesOwn.never rfl (pi_range1 rfl T.range_ (pa_cons pe_int pa_nil)) (pg_name (i := 3) sc_law.nd rfl (Or.inl rfl))
        (pss_one (ps_if (pt_cmpR op_gt (pe_c G__law_order (hr.mono (by decide)) rfl (pa_cons (pv 2) pa_nil)) (pe_op op_pow pe_int pe_int) (nomark _)) (pss_one (ps_set (i := 2) sc_law.nd rfl (Or.inl rfl) (pe_slice sl_list (pv 2) (po_some pe_int) po_none))) pss_nil)))
      (pss_cons (ps_set (i := 4) sc_law.nd rfl (Or.inl rfl) (pe_c G__law_order (hr.mono (by decide)) rfl (pa_cons (pv 2) pa_nil)))
      (pss_cons (ps_set (i := 5) sc_law.nd rfl (Or.inl rfl) (pe_c G__law_many (hr.mono (by decide)) rfl (pa_cons (pv 2) pa_nil)))
      (pss_cons (ps_setLc (i := 6) (own := [("_law_p", 18), ("_law_k", 19)]) (g := (gTup K 2 (gCons (gName 18) (gCons (gName 19) gNil)))) (tt := tYes) rfl sc_law.nd rfl rfl (sw_true rfl rfl rfl (by decide +kernel)) (pi_list (pv 2)) (blkOk_by (own := [("_law_p", 18), ("_law_k", 19)]) (N := ["_law_script", "_law_numbers_here", "_law_parts", "_law_turn", "_law_order_here", "_law_many_here", "_law_lowers", "_law_family", "_law_row_here", "_law_column", "_law_number_here", "_law_sign", "_law_other", "_law_wanted", "_law_far", "_law_due", "_law_across", "_law_met", "_law_p", "_law_k"]) (sc := defScope s_law) (by decide +kernel)) (fun _ _ _ _ _ => pg_tup rfl (pgs_cons (pg_name (i := 18) sc_law.nd rfl (Or.inl rfl)) (pgs_cons (pg_name (i := 19) sc_law.nd rfl (Or.inl rfl)) pgs_nil))) (fun _ _ _ _ _ => pts_nil) (fun _ _ _ _ _ => (pe_c G_polynomial (hr.mono (by decide)) rfl (pa_cons (pv 18) (pa_cons (pv 19) pa_nil)))))
      (pss_cons (ps_set (i := 7) sc_law.nd rfl (Or.inl rfl) (pe_k M_Family G_F_init (hr.mono (by decide)) rfl T.Family (pa_cons (pv 2) pa_nil)))
      (pss_cons (ps_set (i := 8) sc_law.nd rfl (Or.inl rfl) (pe_op op_mod (pe_callTy call_int1 rfl T.int_ (by decide +kernel) (pa_cons (pe_c G__law_long (hr.mono (by decide)) rfl (pa_cons (pv 1) (pa_cons pe_int pa_nil))) pa_nil)) (pv 4)))
      (pss_cons (ps_set (i := 9) sc_law.nd rfl (Or.inl rfl) (pe_op op_mod (pe_callTy call_int1 rfl T.int_ (by decide +kernel) (pa_cons (pe_c G__law_long (hr.mono (by decide)) rfl (pa_cons (pv 1) (pa_cons pe_int pa_nil))) pa_nil)) (pv 4)))
      (pss_cons (ps_set (i := 10) sc_law.nd rfl (Or.inl rfl) (pe_op op_add pe_int (pe_op op_mod (pe_callTy call_int1 rfl T.int_ (by decide +kernel) (pa_cons (pe_c G__law_long (hr.mono (by decide)) rfl (pa_cons (pv 1) (pa_cons pe_int pa_nil))) pa_nil)) (pv 5))))
      (pss_cons (ps_set (i := 11) sc_law.nd rfl (Or.inl rfl) (pe_c G__law_has (hr.mono (by decide)) rfl (pa_cons (pv 2) (pa_cons (pv 6) (pa_cons (pv 10) (pa_cons (pv 8) (pa_cons (pv 9) pa_nil)))))))
      (pss_cons (ps_if (pt_cmpR op_ne (pe_callB SkE.call_repr_int rfl T.repr_ (by decide +kernel) (pa_cons (pe_m T.cl G_F_sign (hr.mono (by decide)) (pv 7) (pa_cons (pv 10) (pa_cons (pv 8) (pa_cons (pv 9) pa_nil)))) pa_nil)) (pe_callB SkE.call_repr_int rfl T.repr_ (by decide +kernel) (pa_cons (pv 11) pa_nil)) (nomark _)) (pss_one (ps_ret pe_bl)) pss_nil)
      (pss_cons (ps_if (PW.pt (pw_or (pt_cmpR op_ne (pe_m T.cl G_F_row_for (hr.mono (by decide)) (pv 7) (pa_cons (pv 10) (pa_cons (pv 9) (pa_cons (pv 11) pa_nil)))) (pv 8) (nomark _)) (pw_or1 (pt_cmpR op_ne (pe_m T.cl G_F_column_for (hr.mono (by decide)) (pv 7) (pa_cons (pv 10) (pa_cons (pv 8) (pa_cons (pv 11) pa_nil)))) (pv 9) (nomark _))))) (pss_one (ps_ret pe_bl)) pss_nil)
      (pss_cons (ps_set (i := 12) sc_law.nd rfl (Or.inl rfl) (pe_op op_sub (pe_op op_mod (pe_callTy call_int1 rfl T.int_ (by decide +kernel) (pa_cons (pe_c G__law_long (hr.mono (by decide)) rfl (pa_cons (pv 1) (pa_cons pe_int pa_nil))) pa_nil)) (pe_op op_add (pv 5) pe_int)) pe_int))
      (pss_cons (ps_set (i := 13) sc_law.nd rfl (Or.inl rfl) (pe_op op_sub (pe_op op_mod (pe_callTy call_int1 rfl T.int_ (by decide +kernel) (pa_cons (pe_c G__law_long (hr.mono (by decide)) rfl (pa_cons (pv 1) (pa_cons pe_int pa_nil))) pa_nil)) (pe_op op_add (pv 5) pe_int)) pe_int))
      (pss_cons (ps_set (i := 14) sc_law.nd rfl (Or.inl rfl) (pe_c G__law_has (hr.mono (by decide)) rfl (pa_cons (pv 2) (pa_cons (pv 6) (pa_cons (pv 12) (pa_cons (pv 8) (pa_cons (pv 9) pa_nil)))))))
      (pss_cons (ps_set (i := 15) sc_law.nd rfl (Or.inl rfl) (pe_c G__law_has (hr.mono (by decide)) rfl (pa_cons (pv 2) (pa_cons (pv 6) (pa_cons (pv 13) (pa_cons (pv 8) (pa_cons (pv 9) pa_nil)))))))
      (pss_cons (ps_if (pt_cmpR (op_neD hr.units) (pe_m T.cl G_F_word (hr.mono (by decide)) (pv 7) (pa_cons (pv 8) (pa_cons (pv 9) (pa_cons (pe_lst (pa_cons (pv 12) (pa_cons (pv 13) (pa_cons (pv 10) pa_nil)))) pa_nil)))) (pe_tup (pa_cons (pv 14) (pa_cons (pv 15) (pa_cons (pv 11) pa_nil)))) (nomark _)) (pss_one (ps_ret pe_bl)) pss_nil)
      (Mst.pss_mid (ps_if (pt_cmpR op_ne (pv 12) (pv 10) (nomark _)) (pss_cons (ps_if (pt_cmpR (op_neD hr.units) (pe_m T.cl G_F_cell (hr.mono (by decide)) (pv 7) (pa_cons (pe_tup (pa_cons (pv 10) (pa_cons (pv 11) pa_nil))) (pa_cons (pe_tup (pa_cons (pv 12) (pa_cons (pv 14) pa_nil))) pa_nil))) (pe_tup (pa_cons (pv 8) (pa_cons (pv 9) pa_nil))) (nomark _)) (pss_one (ps_ret pe_bl)) pss_nil)
        (pss_one (ps_if (pt_cmpR op_ne (pe_m T.cl G_F_told (hr.mono (by decide)) (pv 7) (pa_cons (pe_tup (pa_cons (pv 12) (pa_cons (pv 14) pa_nil))) (pa_cons (pe_tup (pa_cons (pv 10) (pa_cons (pv 11) pa_nil))) (pa_cons (pv 13) pa_nil)))) (pv 15) (nomark _)) (pss_one (ps_ret pe_bl)) pss_nil))) pss_nil)
      (pss_cons (ps_set (i := 16) sc_law.nd rfl (Or.inl rfl) (pe_op op_mod (pe_callTy call_int1 rfl T.int_ (by decide +kernel) (pa_cons (pe_c G__law_long (hr.mono (by decide)) rfl (pa_cons (pv 1) (pa_cons pe_int pa_nil))) pa_nil)) (pv 4)))
      (Mst.pss_mid (ps_if (pt_cmpR op_ne (pv 16) (pv 9) (nomark _)) (pss_cons (ps_set (i := 17) sc_law.nd rfl (Or.inl rfl) (pe_tup (pa_cons (pe_m T.cl G_F_row_for (hr.mono (by decide)) (pv 7) (pa_cons (pv 10) (pa_cons (pv 16) (pa_cons (pv 11) pa_nil)))) (pa_cons (pv 16) pa_nil))))
        (pss_one (ps_if (PW.pt (pw_or (pt_cmpR op_ne (pe_c G__law_has (hr.mono (by decide)) rfl (pa_cons (pv 2) (pa_cons (pv 6) (pa_cons (pv 10) (pa_cons (pe_ix (r := rIxT K) ix_tup (pv 17) pe_int (fun _ _ => rfl)) (pa_cons (pv 16) pa_nil)))))) (pv 11) (nomark _)) (pw_or1 (pt_cmpR op_ne (pe_c G_agreement (hr.mono (by decide)) rfl (pa_cons (pv 7) (pa_cons (pe_tup (pa_cons (pv 8) (pa_cons (pv 9) pa_nil))) (pa_cons (pv 17) pa_nil)))) (pv 10) (nomark _))))) (pss_one (ps_ret pe_bl)) pss_nil))) pss_nil)
      (Mst.pss_mid (ps_if (PW.pt (pw_and (pt_cmpR op_ne (pv 9) pe_int (nomark _)) (pw_and1 (pt_cmpR op_ne (pe_c G_square_with (hr.mono (by decide)) rfl (pa_cons (pv 7) (pa_cons (pv 8) (pa_cons (pv 9) (pa_cons (pv 11) pa_nil))))) (pv 10) (nomark _))))) (pss_one (ps_ret pe_bl)) pss_nil)
      (pss_one (ps_ret (pe_cmpR op_eq (pe_c G_agreement (hr.mono (by decide)) rfl (pa_cons (pv 7) (pa_cons (pe_tup (pa_cons (pv 8) (pa_cons (pv 9) pa_nil))) (pa_cons (pe_tup (pa_cons (pe_op op_mod (pe_callTy call_int1 rfl T.int_ (by decide +kernel) (pa_cons (pe_op op_add (pv 8) pe_int) pa_nil)) (pv 4)) (pa_cons (pv 9) pa_nil))) pa_nil)))) (pe_un un_neg pe_int) (nomark _)))))))))))))))))))))))))), ?_⟩
    refine ⟨_, rfl, a, cs, rfl, ha, hc, fun ns hl hd N H1 s1 fN hN => ?_⟩
    refine ⟨_, rfl, N, ns, rfl, SqL.of hN, hl, hd, fun es0 ts0 L0 H2 eok0 s2 hL0 tu0 => ?_⟩
    have hN2 := s2 _ _ hN
    refine ⟨8, rfl, by omega, by omega, ?_⟩
    refine fr (lo := 0) (n := 8) (fun i σ H' => ∃ (L : Addr) (ts : List Addr) (es : List Ent) (v3 : Option V), σ = [some (.ref a), some (.ref N), some (.ref L), v3, none, none, none, none, none, none, none, none, none, none, none, none, none, none, none, none] ∧ H' N = some (.lst (vints ns)) ∧ H' L = some (.lst (vrefs ts)) ∧ Tups H' ts es ∧ EsOk es ∧ (ordP (prt es) ≤ 10 ^ 30 ∨ es.length + i ≤ 8)) ⟨L0, ts0, es0, none, rfl, hN2, hL0, tu0, eok0, .inr eok0.len⟩ ?_ ?_
    · rintro i σ H3 hi ⟨L, ts, es, v3, rfl, hN3, hL3, tu3, eok, hor⟩
      refine ⟨_, rfl, L, ts, es, rfl, SqL.of hL3, tu3, eok, fun H4 s4 => ?_⟩
      refine ⟨_, _, rfl, rfl, ⟨by decide, by decide, by decide⟩, _, _, rfl, rfl, _, rfl, ?_⟩
      refine ite2 (fun h0 => ?_) (fun h0 => ?_)
      · have h0 : (10 : Int) ^ 30 < ordP (prt es) := of_decide_eq_true h0
        have h2 : 2 ≤ es.length := by
          apply Classical.byContradiction
          intro hh
          have := eok.one (by omega)
          omega
        refine ⟨_, rfl, _, rfl, L, _, rfl, SqL.of (s4 _ _ hL3), fun u hu => ?_⟩
        rw [show cutV (vrefs ts) (some 1) none = vrefs (ts.drop 1) from by
          rw [show (1 : Int) = ((1 : Nat) : Int) from rfl, cut_from]
          simp [vrefs, List.map_drop]]
        have s5 := s4.trans (same_new (o := .lst (vrefs (ts.drop 1))) hu)
        refine ⟨u, ts.drop 1, es.drop 1, _, rfl, s5 _ _ hN3, upd_same, (tu3.drop 1).up s5, eok.tail h2, ?_⟩
        rcases hor with h | h
        · omega
        · exact .inr (by rw [List.length_drop]; omega)
      · have h0 : ¬ (10 : Int) ^ 30 < ordP (prt es) := fun e => h0 (decide_eq_true e)
        exact ⟨L, ts, es, _, rfl, s4 _ _ hN3, s4 _ _ hL3, tu3.up s4, eok, .inl (by omega)⟩
    rintro σ H3 ⟨L, ts, es, v3, rfl, hN3, hL3, tu3, eok, hor⟩
    have h30 : ordP (prt es) ≤ 10 ^ 30 := by
      rcases hor with h | h
      · exact h
      · exact absurd (List.eq_nil_of_length_eq_zero (by omega)) eok.ne
    have ok := eok.ps
    have l8 := eok.len
    have lPs : (prt es).length = es.length := by simp
    have m1 := ok.many1
    have o2 := ordP_two ok.fld ok.ne
    refine ⟨_, rfl, L, ts, es, rfl, SqL.of hL3, tu3, eok, fun H4 s4 => ?_⟩
    refine ⟨_, rfl, L, ts, es, rfl, SqL.of (s4 _ _ hL3), tu3.up s4, eok, fun H5 s5 => ?_⟩
    have s45 := s4.trans s5
    have hL5 := s45 _ _ hL3
    have tu5 := tu3.up s45
    -- lowers
    refine ⟨_, rfl, L, rfl, ⟨_, SqL.of hL5⟩, fun W hW => ?_⟩
    refine lclA (K := K) (a := L) (xs := vrefs ts) (fun i => HO.tup (vints (((prt es).map (·.lower)).getD i []))) (fun j acc q => by cases q) (SqL.of hL5) hW (by simp; rw [tu3.1]; omega) ?_ ?_
    · intro i y H6 Q6 hy s6 k6
      obtain ⟨t, ht, rfl⟩ := vrefs_get hy
      have hi : i < es.length := by have := (List.getElem?_eq_some_iff.mp ht).1; rw [tu3.1] at this; exact this
      obtain ⟨t', e, ht', he, hH⟩ := tu5.get hi
      obtain rfl : t' = t := Option.some.inj (ht'.symm.trans ht)
      have h0 := eok.tab e (List.mem_of_getElem? he)
      refine ⟨t', _, rfl, SqT.of (s6 _ _ hH), rfl, _, _, rfl, _, _, rfl, rfl, rfl, _, rfl, _, rfl, e, rfl, h0, fun p H7 s7 f7 e7 => ?_⟩
      have := k6 p H7 s7
      rw [getD_at (x := e.P.lower) (by rw [List.getElem?_map, List.getElem?_map, he]; rfl)] at this
      exact this e7
    intro H6 tl s6 ltl hW6 gl
    have s36 := s45.trans s6
    have tw6 : TupW H6 tl (prt es) := ⟨by rw [ltl]; simp [tu3.1], fun j t P0 ht hP0 => by rw [gl j t ht, getD_at (x := P0.lower) (by rw [List.getElem?_map, hP0]; rfl)]⟩
    -- the family
    refine ⟨_, rfl, fun F dx hF hdx hne => ?_⟩
    have snew : Same H6 (upd (upd H6 dx (.own F)) F (.ins C dx [])) := (same_new hdx).trans (same_new (by rw [upd_ne (Ne.symm hne)]; exact hF))
    refine ⟨F, dx, L, ts, es, rfl, upd_same, snew _ _ (s36 _ _ hL3), (tu3.up s36).up snew, eok, h30, fun H7 fam7 fr7 => ⟨rfl, ?_⟩⟩
    have keep : Same H6 H7 := fun b o e => fr7 b o (snew b o e) (fun q => by rw [q, hF] at e; cases e)
    have al : Al K C N L W F ns ts tl es H7 := ⟨keep _ _ (s36 _ _ hN3), keep _ _ (s36 _ _ hL3), (tu3.up s36).up keep, keep _ _ hW6, TupW.up tw6 keep, fam7⟩

    obtain ⟨dy, aP, aS, aL, tP, tL, g1, g2, g3, g4, g5, g6⟩ := al.fam.ex
    -- the row, the column, the number
    refine ⟨_, rfl, N, ns, 30, rfl, SqL.of al.hN, hl, hd, by omega, fun z1 hz1 H8 s8 => .inl ⟨_, rfl, _, rfl, _, _, rfl, rfl, (show (0 : Int) < ordP (prt es) by omega), ?_⟩⟩
    have pr : Pt (prt es) (z1 % ordP (prt es)) := ⟨Int.emod_nonneg _ (by omega), Int.emod_lt_of_pos _ (by omega)⟩
    obtain ⟨r, hr1⟩ : ∃ r, r = z1 % ordP (prt es) := ⟨_, rfl⟩
    simp only [← hr1] at pr ⊢
    refine ⟨_, rfl, N, ns, 40, rfl, SqL.of (s8 _ _ al.hN), hl, hd, by omega, fun z2 hz2 H9 s9 => .inl ⟨_, rfl, _, rfl, _, _, rfl, rfl, (show (0 : Int) < ordP (prt es) by omega), ?_⟩⟩
    have pc : Pt (prt es) (z2 % ordP (prt es)) := ⟨Int.emod_nonneg _ (by omega), Int.emod_lt_of_pos _ (by omega)⟩
    obtain ⟨c, hc1⟩ : ∃ c, c = z2 % ordP (prt es) := ⟨_, rfl⟩
    simp only [← hc1] at pc ⊢
    have t9 := s8.trans s9
    refine ⟨_, rfl, N, ns, 50, rfl, SqL.of (t9 _ _ al.hN), hl, hd, by omega, fun z3 hz3 H10 s10 => .inl ⟨_, rfl, _, rfl, _, _, rfl, rfl, (show (0 : Int) < manyP (prt es) by omega), _, _, rfl, rfl, ?_⟩⟩
    have hj : 1 ≤ 1 + z3 % manyP (prt es) ∧ 1 + z3 % manyP (prt es) ≤ manyP (prt es) := by
      have h1 := Int.emod_nonneg z3 (show manyP (prt es) ≠ 0 by omega)
      have h2 := Int.emod_lt_of_pos z3 (show 0 < manyP (prt es) by omega)
      omega
    obtain ⟨j, hj1⟩ : ∃ j, j = 1 + z3 % manyP (prt es) := ⟨_, rfl⟩
    simp only [← hj1] at hj ⊢
    have t10 := t9.trans s10
    have kj : Kn (prt es) j := ⟨by omega, hj.2⟩
    have hjm : j ≠ -1 := by omega
    have psg : Pt (prt es) (hasP (prt es) j r c) := has_pt ok.fld pc
    -- the sign
    refine ⟨_, rfl, _, rfl, _, rfl, _, rfl, _, rfl, L, ts, es, W, tl, j, r, c, rfl, SqL.of (t10 _ _ al.hL), al.tu.up t10, eok, SqL.of (t10 _ _ al.hW), TupW.up al.tw t10, fun H11 s11 => ?_⟩
    have t11 := t10.trans s11
    have lgs := log_ok psg.1 (by have := psg.2; omega)
    refine ⟨_, rfl, F, dy, _, rfl, t11 _ _ g1, no_m (by decide +kernel), _, rfl, _, rfl, _, rfl, F, prt es, j, r, c, rfl, al.fam.up t11, ok, hj, pr, pc, fun H12 s12 => ⟨_, rfl, lgs, _, rfl, _, rfl, lgs, rfl, _, rfl, ?_⟩⟩
    show if (!decide (V.str (toString (hasP (prt es) j r c)) = V.str (toString (hasP (prt es) j r c)))) = true then _ else _
    rw [ne_self]
    refine iteF ?_
    have t12 := t11.trans s12
    -- row_for, column_for
    refine ⟨_, rfl, F, dy, _, rfl, t12 _ _ g1, no_m (by decide +kernel), _, rfl, _, rfl, _, rfl, F, prt es, j, r, c, rfl, al.fam.up t12, ok, hj, pr, pc, fun H13 s13 => ⟨_, rfl, rfl, _, rfl, ?_⟩⟩
    show if (!decide (V.int r = V.int r)) = true then _ else _
    rw [ne_self]
    have t13 := t12.trans s13
    refine iteF ⟨_, rfl, F, dy, _, rfl, t13 _ _ g1, no_m (by decide +kernel), _, rfl, _, rfl, _, rfl, F, prt es, j, r, c, rfl, al.fam.up t13, ok, hj, pr, pc, fun H14 s14 => ⟨_, rfl, rfl, _, rfl, ?_⟩⟩
    show if (!decide (V.int c = V.int c)) = true then _ else _
    rw [ne_self]
    refine iteF ?_
    have t14 := t13.trans s14
    -- the other, the wanted
    have hkn : ∀ z : Int, Kn (prt es) (z % (manyP (prt es) + 2) - 1) := fun z => by
      have h1 := Int.emod_nonneg z (show manyP (prt es) + 2 ≠ 0 by omega)
      have h2 := Int.emod_lt_of_pos z (show 0 < manyP (prt es) + 2 by omega)
      exact ⟨by omega, by omega⟩
    refine ⟨_, rfl, N, ns, 60, rfl, SqL.of (t14 _ _ al.hN), hl, hd, by omega, fun z4 hz4 H15 s15 => .inl ⟨_, rfl, _, rfl, _, _, rfl, rfl, _, _, rfl, rfl, (show (0 : Int) < manyP (prt es) + 2 by omega), _, _, rfl, rfl, ?_⟩⟩
    have ko := hkn z4
    obtain ⟨o, ho1⟩ : ∃ o, o = z4 % (manyP (prt es) + 2) - 1 := ⟨_, rfl⟩
    simp only [← ho1] at ko ⊢
    have t15 := t14.trans s15
    refine ⟨_, rfl, N, ns, 70, rfl, SqL.of (t15 _ _ al.hN), hl, hd, by omega, fun z5 hz5 H16 s16 => .inl ⟨_, rfl, _, rfl, _, _, rfl, rfl, _, _, rfl, rfl, (show (0 : Int) < manyP (prt es) + 2 by omega), _, _, rfl, rfl, ?_⟩⟩
    have kw := hkn z5
    obtain ⟨wt, hw1⟩ : ∃ wt, wt = z5 % (manyP (prt es) + 2) - 1 := ⟨_, rfl⟩
    simp only [← hw1] at kw ⊢
    have t16 := t15.trans s16
    refine ⟨_, rfl, _, rfl, _, rfl, _, rfl, _, rfl, L, ts, es, W, tl, o, r, c, rfl, SqL.of (t16 _ _ al.hL), al.tu.up t16, eok, SqL.of (t16 _ _ al.hW), TupW.up al.tw t16, fun H17 s17 => ?_⟩
    have t17 := t16.trans s17
    refine ⟨_, rfl, _, rfl, _, rfl, _, rfl, _, rfl, L, ts, es, W, tl, wt, r, c, rfl, SqL.of (t17 _ _ al.hL), al.tu.up t17, eok, SqL.of (t17 _ _ al.hW), TupW.up al.tw t17, fun H18 s18 => ?_⟩
    have t18 := t17.trans s18
    -- the word
    refine ⟨_, rfl, F, dy, _, rfl, t18 _ _ g1, no_m (by decide +kernel), _, rfl, _, rfl, _, rfl, _, rfl, _, rfl, by show 3 ≤ sizeLine; decide, fun p1 hp1 => ?_⟩
    have t19 := t18.trans (same_new (o := .lst (vints [o, wt, j])) hp1)
    refine ⟨F, prt es, r, c, p1, [o, wt, j], rfl, al.fam.up t19, ok, pr, pc, SqL.of upd_same, fun i hi => ?_, by simp, fun p2 H20 s20 f20 e20 => ?_⟩
    · simp only [List.mem_cons, List.not_mem_nil, or_false] at hi
      rcases hi with rfl | rfl | rfl
      · exact ko
      · exact kw
      · exact kj
    have t20 := t19.trans s20
    refine ⟨_, rfl, _, rfl, _, rfl, by show 3 ≤ sizeLine; decide, fun p3 hp3 => ?_⟩
    have t21 := t20.trans (same_new (o := .tup (vints [hasP (prt es) o r c, hasP (prt es) wt r c, hasP (prt es) j r c])) hp3)
    refine ⟨.tuple ([hasP (prt es) o r c, hasP (prt es) wt r c, hasP (prt es) j r c].map PyData.int), .tuple ([hasP (prt es) o r c, hasP (prt es) wt r c, hasP (prt es) j r c].map PyData.int), .tup (SqT.of (same_new hp3 _ _ e20)) (dp_ints [hasP (prt es) o r c, hasP (prt es) wt r c, hasP (prt es) j r c]), .tup (SqT.of upd_same) (dp_ints [hasP (prt es) o r c, hasP (prt es) wt r c, hasP (prt es) j r c]), cell_sh3 _ _ _, cell_sh3 _ _ _, _, rfl, ?_⟩
    show if (!PyData.eqv (.tuple ([hasP (prt es) o r c, hasP (prt es) wt r c, hasP (prt es) j r c].map PyData.int)) (.tuple ([hasP (prt es) o r c, hasP (prt es) wt r c, hasP (prt es) j r c].map PyData.int))) = true then _ else _
    rw [eqv_tup]
    refine iteF ?_
    -- cell, told
    refine ⟨fun σ' H' => σ' = [some (.ref a), some (.ref N), some (.ref L), v3, some (.int (ordP (prt es))), some (.int (manyP (prt es))), some (.ref W), some (.ref F), some (.int r), some (.int c), some (.int j), some (.int (hasP (prt es) j r c)), some (.int o), some (.int wt), some (.int (hasP (prt es) o r c)), some (.int (hasP (prt es) wt r c)), none, none, none, none] ∧ Same H7 H', ?_, ?_⟩
    rotate_left
    · refine ⟨_, rfl, _, rfl, rfl, _, rfl, ?_⟩
      by_cases hoj : o = j
      · have e1 : (!decide (V.int o = V.int j)) = false := by rw [hoj]; exact ne_self _
        show if (!decide (V.int o = V.int j)) = true then _ else _
        rw [e1]
        exact iteF ⟨rfl, t21⟩
      · have e1 : (!decide (V.int o = V.int j)) = true := by
          rw [decide_eq_false (fun q => hoj (V.int.inj q))]
          rfl
        show if (!decide (V.int o = V.int j)) = true then _ else _
        rw [e1]
        refine iteT ⟨_, rfl, F, dy, _, rfl, t21 _ _ g1, no_m (by decide +kernel), _, rfl, _, rfl, by show 2 ≤ sizeLine; decide, fun q1 hq1 => ?_⟩
        have u1 := t21.trans (same_new (o := .tup [.int j, .int (hasP (prt es) j r c)]) hq1)
        refine ⟨_, rfl, _, rfl, by show 2 ≤ sizeLine; decide, fun q2 hq2 => ?_⟩
        have u2 := u1.trans (same_new (o := .tup [.int o, .int (hasP (prt es) o r c)]) hq2)
        refine ⟨F, prt es, q1, q2, j, o, r, c, rfl, al.fam.up u2, ok, SqT.of (same_new hq2 _ _ upd_same), SqT.of upd_same, kj, ko, fun q => hoj q.symm, pr, pc, fun q3 H22 s22 f22 e22 => ?_⟩
        have u3 := u2.trans s22
        refine ⟨_, rfl, _, rfl, by show 2 ≤ sizeLine; decide, fun q4 hq4 => ?_⟩
        have u4 := u3.trans (same_new (o := .tup (vints [r, c])) hq4)
        refine ⟨.tuple ([r, c].map PyData.int), .tuple ([r, c].map PyData.int), .tup (SqT.of (same_new hq4 _ _ e22)) (dp_ints [r, c]), .tup (SqT.of upd_same) (dp_ints [r, c]), cell_sh2 _ _, cell_sh2 _ _, _, rfl, ?_⟩
        show if (!PyData.eqv (.tuple ([r, c].map PyData.int)) (.tuple ([r, c].map PyData.int))) = true then _ else _
        rw [eqv_tup]
        refine iteF ⟨_, rfl, F, dy, _, rfl, u4 _ _ g1, no_m (by decide +kernel), _, rfl, _, rfl, by show 2 ≤ sizeLine; decide, fun q5 hq5 => ?_⟩
        have u5 := u4.trans (same_new (o := .tup [.int o, .int (hasP (prt es) o r c)]) hq5)
        refine ⟨_, rfl, _, rfl, by show 2 ≤ sizeLine; decide, fun q6 hq6 => ?_⟩
        have u6 := u5.trans (same_new (o := .tup [.int j, .int (hasP (prt es) j r c)]) hq6)
        refine ⟨_, rfl, F, prt es, q5, q6, o, j, r, c, wt, rfl, al.fam.up u6, ok, SqT.of (same_new hq6 _ _ upd_same), SqT.of upd_same, ko, kj, hoj, pr, pc, kw, fun H24 s24 => ?_⟩
        refine ⟨_, rfl, rfl, _, rfl, ?_⟩
        show if (!decide (V.int (hasP (prt es) wt r c) = V.int (hasP (prt es) wt r c))) = true then _ else _
        rw [ne_self]
        exact iteF ⟨rfl, u6.trans s24⟩
    rintro σ H22 ⟨rfl, t22⟩
    clear t21
    -- across
    refine ⟨_, rfl, N, ns, 80, rfl, SqL.of (t22 _ _ al.hN), hl, hd, by omega, fun z6 hz6 H23 s23 => .inl ⟨_, rfl, _, rfl, _, _, rfl, rfl, (show (0 : Int) < ordP (prt es) by omega), ?_⟩⟩
    have pd : Pt (prt es) (z6 % ordP (prt es)) := ⟨Int.emod_nonneg _ (by omega), Int.emod_lt_of_pos _ (by omega)⟩
    obtain ⟨d, hd1⟩ : ∃ d, d = z6 % ordP (prt es) := ⟨_, rfl⟩
    simp only [← hd1] at pd ⊢
    have t23 := t22.trans s23
    refine ⟨fun σ' H' => ∃ v17, σ' = [some (.ref a), some (.ref N), some (.ref L), v3, some (.int (ordP (prt es))), some (.int (manyP (prt es))), some (.ref W), some (.ref F), some (.int r), some (.int c), some (.int j), some (.int (hasP (prt es) j r c)), some (.int o), some (.int wt), some (.int (hasP (prt es) o r c)), some (.int (hasP (prt es) wt r c)), some (.int d), v17, none, none] ∧ Same H7 H', ?_, ?_⟩
    rotate_left
    · refine ⟨_, rfl, _, rfl, rfl, _, rfl, ?_⟩
      by_cases hdc : d = c
      · have e1 : (!decide (V.int d = V.int c)) = false := by rw [hdc]; exact ne_self _
        show if (!decide (V.int d = V.int c)) = true then _ else _
        rw [e1]
        exact iteF ⟨_, rfl, t23⟩
      · have e1 : (!decide (V.int d = V.int c)) = true := by
          rw [decide_eq_false (fun q => hdc (V.int.inj q))]
          rfl
        show if (!decide (V.int d = V.int c)) = true then _ else _
        rw [e1]
        obtain ⟨r2, pr2, hr2⟩ := row_ex (c := d) ok.fld hjm psg
        have eraw : ∀ xs : List V, xs = [.ref F, .int j, .int d, .int (hasP (prt es) j r c)] → xs = [.ref F, .int j, .int d, .int (hasP (prt es) j r2 d)] := fun xs h => by rw [h, hr2]
        refine iteT ⟨_, rfl, F, dy, _, rfl, t23 _ _ g1, no_m (by decide +kernel), _, rfl, _, rfl, _, rfl, F, prt es, j, r2, d, eraw _ rfl, al.fam.up t23, ok, hj, pr2, pd, fun H24 s24 => ?_⟩
        have t24 := t23.trans s24
        refine ⟨_, rfl, by show 2 ≤ sizeLine; decide, fun m0 hm0 => ?_⟩
        have t25 := t24.trans (same_new (o := .tup [.int r2, .int d]) hm0)
        have eM : upd H24 m0 (.tup [.int r2, .int d]) m0 = some (.tup [.int r2, .int d]) := upd_same
        generalize upd H24 m0 (.tup [.int r2, .int d]) = H25 at t25 eM ⊢
        refine ⟨_, rfl, _, rfl, _, rfl, _, rfl, m0, _, _, _, rfl, rfl, SqT.of eM, rfl, _, rfl, L, ts, es, W, tl, j, r2, d, rfl, SqL.of (t25 _ _ al.hL), al.tu.up t25, eok, SqL.of (t25 _ _ al.hW), TupW.up al.tw t25, fun H26 s26 => ?_⟩
        rw [hr2]
        have t26 := t25.trans s26
        refine ⟨_, rfl, rfl, _, rfl, ?_⟩
        show if (!decide (V.int (hasP (prt es) j r c) = V.int (hasP (prt es) j r c))) = true then _ else _
        rw [ne_self]
        refine iteF ⟨_, rfl, _, rfl, _, rfl, by show 2 ≤ sizeLine; decide, fun m1 hm1 => ?_⟩
        have t27 := t26.trans (same_new (o := .tup [.int r, .int c]) hm1)
        refine ⟨_, rfl, F, prt es, m1, m0, r, c, r2, d, j, rfl, al.fam.up t27, ok, SqT.of upd_same, SqT.of (same_new hm1 _ _ (s26 _ _ eM)), ⟨pr, pc, pr2, pd⟩, .inr ⟨fun q => hdc q.symm, ⟨by omega, hj.2⟩, hr2.symm⟩, fun H28 s28 => ?_⟩
        refine ⟨_, rfl, rfl, _, rfl, ?_⟩
        show if (!decide (V.int j = V.int j)) = true then _ else _
        rw [ne_self]
        exact iteF ⟨_, rfl, t27.trans s28⟩
    rintro σ H24 ⟨v17, rfl, t24⟩
    clear t23
    -- the square with
    refine ⟨fun σ' H' => σ' = [some (.ref a), some (.ref N), some (.ref L), v3, some (.int (ordP (prt es))), some (.int (manyP (prt es))), some (.ref W), some (.ref F), some (.int r), some (.int c), some (.int j), some (.int (hasP (prt es) j r c)), some (.int o), some (.int wt), some (.int (hasP (prt es) o r c)), some (.int (hasP (prt es) wt r c)), some (.int d), v17, none, none] ∧ Same H7 H', ?_, ?_⟩
    rotate_left
    · refine ⟨_, rfl, rfl, _, rfl, ?_⟩
      by_cases hc0 : c = 0
      · have e1 : (!decide (V.int c = V.int 0)) = false := by rw [hc0]; exact ne_self _
        show if (!decide (V.int c = V.int 0)) = true then _ else _
        rw [e1]
        exact iteF ⟨rfl, t24⟩
      · have e1 : (!decide (V.int c = V.int 0)) = true := by
          rw [decide_eq_false (fun q => hc0 (V.int.inj q))]
          rfl
        show if (!decide (V.int c = V.int 0)) = true then _ else _
        rw [e1]
        refine iteT ⟨_, rfl, _, rfl, _, rfl, _, rfl, F, prt es, r, c, j, rfl, al.fam.up t24, ok, pr, pc, hc0, hj, fun H25 s25 => ?_⟩
        refine ⟨_, rfl, rfl, _, rfl, ?_⟩
        show if (!decide (V.int j = V.int j)) = true then _ else _
        rw [ne_self]
        exact iteF ⟨rfl, t24.trans s25⟩
    rintro σ H25 ⟨rfl, t25⟩
    -- the end
    refine ⟨_, rfl, _, rfl, _, rfl, by show 2 ≤ sizeLine; decide, fun m1 hm1 => ?_⟩
    have t26 := t25.trans (same_new (o := .tup [.int r, .int c]) hm1)
    refine ⟨_, rfl, _, _, rfl, rfl, .inl ⟨_, rfl, _, rfl, _, _, rfl, rfl, (show (0 : Int) < ordP (prt es) by omega), _, rfl, by show 2 ≤ sizeLine; decide, fun m2 hm2 => ?_⟩⟩
    have pn : Pt (prt es) ((r + 1) % ordP (prt es)) := ⟨Int.emod_nonneg _ (by omega), Int.emod_lt_of_pos _ (by omega)⟩
    have hne2 : r ≠ (r + 1) % ordP (prt es) := by
      intro q
      by_cases hlt : r + 1 < ordP (prt es)
      · rw [Int.emod_eq_of_lt (by have := pr.1; omega) hlt] at q
        omega
      · have e : r + 1 = ordP (prt es) := by have := pr.2; omega
        rw [e, Int.emod_self] at q
        omega
    have t27 := t26.trans (same_new (o := .tup [.int ((r + 1) % ordP (prt es)), .int c]) hm2)
    refine ⟨F, prt es, m1, m2, r, c, (r + 1) % ordP (prt es), c, -1, rfl, al.fam.up t27, ok, SqT.of (same_new hm2 _ _ upd_same), SqT.of upd_same, ⟨pr, pc, pn, pc⟩, .inl ⟨rfl, hne2, rfl⟩, fun H28 s28 => ?_⟩
    refine ⟨_, rfl, rfl, ?_⟩
    exact k H28
end
end Msw
set_option maxRecDepth 100000
set_option maxHeartbeats 4000000
namespace Msw
open PySem L2 Msq
section
set_option maxHeartbeats 0
theorem all_mk {l : PySem.W.OpenLaw} {w : World} {K : PySem.W.Frag} {h : Heap} {mg : Str → Option Value} {fa : Addr} (X : K.In h) (G : h.Ns mainGlobals mg) (hfa : mg "law" = some (.ref fa))
    {f_law C f__law_great f__law_size f__law_joined f__law_figures f__law_number f__law_plus f__law_split f__law_times f__law_has f__law_long f__law_many f__law_row f__law_numbers f__law_order f_less_of f_F_split f_apart_of f_figures_of f_number_of f_multiplied f_remainder f_raised f_power_of f_size_of f_inverse_of f_product_of f_kind_of f_F_check_point f_agreement f_is_prime f_is_field f_check_field f_trimmed f_turned_round f_have_common f_is_irreducible f_lower_of f_polynomial f_square_with f_is_prime_power f_checked_parts f_F_joined f_F_init f_sum_of f_F_combined f_F_divided f_F_cell_of f_F_check_kind f_F_cell f_F_check_square f_F_at_cell f_F_told f_F_column_for f_F_row_for f_F_sign f_F_word : Addr} {od__law_great an__law_great od__law_size an__law_size od__law_joined an__law_joined od__law_figures an__law_figures od__law_number an__law_number od__law_plus an__law_plus od__law_split an__law_split od__law_times an__law_times od__law_has an__law_has od__law_long an__law_long od__law_many an__law_many od__law_row an__law_row od__law_numbers an__law_numbers od__law_order an__law_order od_less_of an_less_of od_F_split an_F_split od_apart_of an_apart_of od_figures_of an_figures_of od_number_of an_number_of od_multiplied an_multiplied od_remainder an_remainder od_raised an_raised od_power_of an_power_of od_size_of an_size_of od_inverse_of an_inverse_of od_product_of an_product_of od_kind_of an_kind_of od_F_check_point an_F_check_point od_agreement an_agreement od_is_prime an_is_prime od_is_field an_is_field od_check_field an_check_field od_trimmed an_trimmed od_turned_round an_turned_round od_have_common an_have_common od_is_irreducible an_is_irreducible od_lower_of an_lower_of od_polynomial an_polynomial od_square_with an_square_with od_is_prime_power an_is_prime_power od_checked_parts an_checked_parts od_F_joined an_F_joined od_F_init an_F_init od_sum_of an_sum_of od_F_combined an_F_combined od_F_divided an_F_divided od_F_cell_of an_F_cell_of od_F_check_kind an_F_check_kind od_F_cell an_F_cell od_F_check_square an_F_check_square od_F_at_cell an_F_at_cell od_F_told an_F_told od_F_column_for an_F_column_for od_F_row_for an_F_row_for od_F_sign an_F_sign od_F_word an_F_word od_law an_law : Option Addr} {sl__law_great sl__law_size sl__law_joined sl__law_figures sl__law_number sl__law_plus sl__law_split sl__law_times sl__law_has sl__law_long sl__law_many sl__law_row sl__law_numbers sl__law_order sl_less_of sl_F_split sl_apart_of sl_figures_of sl_number_of sl_multiplied sl_remainder sl_raised sl_power_of sl_size_of sl_inverse_of sl_product_of sl_kind_of sl_F_check_point sl_agreement sl_is_prime sl_is_field sl_check_field sl_trimmed sl_turned_round sl_have_common sl_is_irreducible sl_lower_of sl_polynomial sl_square_with sl_is_prime_power sl_checked_parts sl_F_joined sl_F_init sl_sum_of sl_F_combined sl_F_divided sl_F_cell_of sl_F_check_kind sl_F_cell sl_F_check_square sl_F_at_cell sl_F_told sl_F_column_for sl_F_row_for sl_F_sign sl_F_word sl_law : Array (Option Value)} {oc__law_great kV__law_great dc__law_great pm__law_great cd__law_great ct__law_great oc__law_size kV__law_size dc__law_size pm__law_size cd__law_size ct__law_size oc__law_joined kV__law_joined dc__law_joined pm__law_joined cd__law_joined ct__law_joined oc__law_figures kV__law_figures dc__law_figures pm__law_figures cd__law_figures ct__law_figures oc__law_number kV__law_number dc__law_number pm__law_number cd__law_number ct__law_number oc__law_plus kV__law_plus dc__law_plus pm__law_plus cd__law_plus ct__law_plus oc__law_split kV__law_split dc__law_split pm__law_split cd__law_split ct__law_split oc__law_times kV__law_times dc__law_times pm__law_times cd__law_times ct__law_times oc__law_has kV__law_has dc__law_has pm__law_has cd__law_has ct__law_has oc__law_long kV__law_long dc__law_long pm__law_long cd__law_long ct__law_long oc__law_many kV__law_many dc__law_many pm__law_many cd__law_many ct__law_many oc__law_row kV__law_row dc__law_row pm__law_row cd__law_row ct__law_row oc__law_numbers kV__law_numbers dc__law_numbers pm__law_numbers cd__law_numbers ct__law_numbers oc__law_order kV__law_order dc__law_order pm__law_order cd__law_order ct__law_order oc_less_of kV_less_of dc_less_of pm_less_of cd_less_of ct_less_of oc_F_split kV_F_split dc_F_split pm_F_split cd_F_split ct_F_split oc_apart_of kV_apart_of dc_apart_of pm_apart_of cd_apart_of ct_apart_of oc_figures_of kV_figures_of dc_figures_of pm_figures_of cd_figures_of ct_figures_of oc_number_of kV_number_of dc_number_of pm_number_of cd_number_of ct_number_of oc_multiplied kV_multiplied dc_multiplied pm_multiplied cd_multiplied ct_multiplied oc_remainder kV_remainder dc_remainder pm_remainder cd_remainder ct_remainder oc_raised kV_raised dc_raised pm_raised cd_raised ct_raised oc_power_of kV_power_of dc_power_of pm_power_of cd_power_of ct_power_of oc_size_of kV_size_of dc_size_of pm_size_of cd_size_of ct_size_of oc_inverse_of kV_inverse_of dc_inverse_of pm_inverse_of cd_inverse_of ct_inverse_of oc_product_of kV_product_of dc_product_of pm_product_of cd_product_of ct_product_of oc_kind_of kV_kind_of dc_kind_of pm_kind_of cd_kind_of ct_kind_of oc_F_check_point kV_F_check_point dc_F_check_point pm_F_check_point cd_F_check_point ct_F_check_point oc_agreement kV_agreement dc_agreement pm_agreement cd_agreement ct_agreement oc_is_prime kV_is_prime dc_is_prime pm_is_prime cd_is_prime ct_is_prime oc_is_field kV_is_field dc_is_field pm_is_field cd_is_field ct_is_field oc_check_field kV_check_field dc_check_field pm_check_field cd_check_field ct_check_field oc_trimmed kV_trimmed dc_trimmed pm_trimmed cd_trimmed ct_trimmed oc_turned_round kV_turned_round dc_turned_round pm_turned_round cd_turned_round ct_turned_round oc_have_common kV_have_common dc_have_common pm_have_common cd_have_common ct_have_common oc_is_irreducible kV_is_irreducible dc_is_irreducible pm_is_irreducible cd_is_irreducible ct_is_irreducible oc_lower_of kV_lower_of dc_lower_of pm_lower_of cd_lower_of ct_lower_of oc_polynomial kV_polynomial dc_polynomial pm_polynomial cd_polynomial ct_polynomial oc_square_with kV_square_with dc_square_with pm_square_with cd_square_with ct_square_with oc_is_prime_power kV_is_prime_power dc_is_prime_power pm_is_prime_power cd_is_prime_power ct_is_prime_power oc_checked_parts kV_checked_parts dc_checked_parts pm_checked_parts cd_checked_parts ct_checked_parts oc_F_joined kV_F_joined dc_F_joined pm_F_joined cd_F_joined ct_F_joined oc_F_init kV_F_init dc_F_init pm_F_init cd_F_init ct_F_init oc_sum_of kV_sum_of dc_sum_of pm_sum_of cd_sum_of ct_sum_of oc_F_combined kV_F_combined dc_F_combined pm_F_combined cd_F_combined ct_F_combined oc_F_divided kV_F_divided dc_F_divided pm_F_divided cd_F_divided ct_F_divided oc_F_cell_of kV_F_cell_of dc_F_cell_of pm_F_cell_of cd_F_cell_of ct_F_cell_of oc_F_check_kind kV_F_check_kind dc_F_check_kind pm_F_check_kind cd_F_check_kind ct_F_check_kind oc_F_cell kV_F_cell dc_F_cell pm_F_cell cd_F_cell ct_F_cell oc_F_check_square kV_F_check_square dc_F_check_square pm_F_check_square cd_F_check_square ct_F_check_square oc_F_at_cell kV_F_at_cell dc_F_at_cell pm_F_at_cell cd_F_at_cell ct_F_at_cell oc_F_told kV_F_told dc_F_told pm_F_told cd_F_told ct_F_told oc_F_column_for kV_F_column_for dc_F_column_for pm_F_column_for cd_F_column_for ct_F_column_for oc_F_row_for kV_F_row_for dc_F_row_for pm_F_row_for cd_F_row_for ct_F_row_for oc_F_sign kV_F_sign dc_F_sign pm_F_sign cd_F_sign ct_F_sign oc_F_word kV_F_word dc_F_word pm_F_word cd_F_word ct_F_word oc_law kV_law dc_law pm_law cd_law ct_law : Value} {t_COLUMN t_MOST_BASE t_MOST_DEGREE t_MOST_ORDER t_MOST_PRIME t_MOST_SIZE t_ROW : _}
    (aC : PySem.W.nsIn K mainGlobals "Family" = some (some (.ref C)))
    (a__law_great : PySem.W.nsIn K mainGlobals "_law_great" = some (some (.ref f__law_great)))
    (l__law_great : K.lookup f__law_great = some ⟨oc__law_great, od__law_great, .func (PySem.W.fnOf "_law_great" "_law_great" (defArgs s__law_great) (defBody s__law_great) (defScope s__law_great) .none kV__law_great dc__law_great pm__law_great an__law_great cd__law_great ct__law_great), sl__law_great⟩)
    (c__law_great : PySem.W.codeIn K cd__law_great "_law_great" = true)
    (k__law_great : PySem.W.keepIn K (.ref f__law_great) = true)
    (a__law_size : PySem.W.nsIn K mainGlobals "_law_size" = some (some (.ref f__law_size)))
    (l__law_size : K.lookup f__law_size = some ⟨oc__law_size, od__law_size, .func (PySem.W.fnOf "_law_size" "_law_size" (defArgs s__law_size) (defBody s__law_size) (defScope s__law_size) .none kV__law_size dc__law_size pm__law_size an__law_size cd__law_size ct__law_size), sl__law_size⟩)
    (c__law_size : PySem.W.codeIn K cd__law_size "_law_size" = true)
    (k__law_size : PySem.W.keepIn K (.ref f__law_size) = true)
    (a__law_joined : PySem.W.nsIn K mainGlobals "_law_joined" = some (some (.ref f__law_joined)))
    (l__law_joined : K.lookup f__law_joined = some ⟨oc__law_joined, od__law_joined, .func (PySem.W.fnOf "_law_joined" "_law_joined" (defArgs s__law_joined) (defBody s__law_joined) (defScope s__law_joined) .none kV__law_joined dc__law_joined pm__law_joined an__law_joined cd__law_joined ct__law_joined), sl__law_joined⟩)
    (c__law_joined : PySem.W.codeIn K cd__law_joined "_law_joined" = true)
    (k__law_joined : PySem.W.keepIn K (.ref f__law_joined) = true)
    (a__law_figures : PySem.W.nsIn K mainGlobals "_law_figures" = some (some (.ref f__law_figures)))
    (l__law_figures : K.lookup f__law_figures = some ⟨oc__law_figures, od__law_figures, .func (PySem.W.fnOf "_law_figures" "_law_figures" (defArgs s__law_figures) (defBody s__law_figures) (defScope s__law_figures) .none kV__law_figures dc__law_figures pm__law_figures an__law_figures cd__law_figures ct__law_figures), sl__law_figures⟩)
    (c__law_figures : PySem.W.codeIn K cd__law_figures "_law_figures" = true)
    (k__law_figures : PySem.W.keepIn K (.ref f__law_figures) = true)
    (a__law_number : PySem.W.nsIn K mainGlobals "_law_number" = some (some (.ref f__law_number)))
    (l__law_number : K.lookup f__law_number = some ⟨oc__law_number, od__law_number, .func (PySem.W.fnOf "_law_number" "_law_number" (defArgs s__law_number) (defBody s__law_number) (defScope s__law_number) .none kV__law_number dc__law_number pm__law_number an__law_number cd__law_number ct__law_number), sl__law_number⟩)
    (c__law_number : PySem.W.codeIn K cd__law_number "_law_number" = true)
    (k__law_number : PySem.W.keepIn K (.ref f__law_number) = true)
    (a__law_plus : PySem.W.nsIn K mainGlobals "_law_plus" = some (some (.ref f__law_plus)))
    (l__law_plus : K.lookup f__law_plus = some ⟨oc__law_plus, od__law_plus, .func (PySem.W.fnOf "_law_plus" "_law_plus" (defArgs s__law_plus) (defBody s__law_plus) (defScope s__law_plus) .none kV__law_plus dc__law_plus pm__law_plus an__law_plus cd__law_plus ct__law_plus), sl__law_plus⟩)
    (c__law_plus : PySem.W.codeIn K cd__law_plus "_law_plus" = true)
    (k__law_plus : PySem.W.keepIn K (.ref f__law_plus) = true)
    (a__law_split : PySem.W.nsIn K mainGlobals "_law_split" = some (some (.ref f__law_split)))
    (l__law_split : K.lookup f__law_split = some ⟨oc__law_split, od__law_split, .func (PySem.W.fnOf "_law_split" "_law_split" (defArgs s__law_split) (defBody s__law_split) (defScope s__law_split) .none kV__law_split dc__law_split pm__law_split an__law_split cd__law_split ct__law_split), sl__law_split⟩)
    (c__law_split : PySem.W.codeIn K cd__law_split "_law_split" = true)
    (k__law_split : PySem.W.keepIn K (.ref f__law_split) = true)
    (a__law_times : PySem.W.nsIn K mainGlobals "_law_times" = some (some (.ref f__law_times)))
    (l__law_times : K.lookup f__law_times = some ⟨oc__law_times, od__law_times, .func (PySem.W.fnOf "_law_times" "_law_times" (defArgs s__law_times) (defBody s__law_times) (defScope s__law_times) .none kV__law_times dc__law_times pm__law_times an__law_times cd__law_times ct__law_times), sl__law_times⟩)
    (c__law_times : PySem.W.codeIn K cd__law_times "_law_times" = true)
    (k__law_times : PySem.W.keepIn K (.ref f__law_times) = true)
    (a__law_has : PySem.W.nsIn K mainGlobals "_law_has" = some (some (.ref f__law_has)))
    (l__law_has : K.lookup f__law_has = some ⟨oc__law_has, od__law_has, .func (PySem.W.fnOf "_law_has" "_law_has" (defArgs s__law_has) (defBody s__law_has) (defScope s__law_has) .none kV__law_has dc__law_has pm__law_has an__law_has cd__law_has ct__law_has), sl__law_has⟩)
    (c__law_has : PySem.W.codeIn K cd__law_has "_law_has" = true)
    (k__law_has : PySem.W.keepIn K (.ref f__law_has) = true)
    (a__law_long : PySem.W.nsIn K mainGlobals "_law_long" = some (some (.ref f__law_long)))
    (l__law_long : K.lookup f__law_long = some ⟨oc__law_long, od__law_long, .func (PySem.W.fnOf "_law_long" "_law_long" (defArgs s__law_long) (defBody s__law_long) (defScope s__law_long) .none kV__law_long dc__law_long pm__law_long an__law_long cd__law_long ct__law_long), sl__law_long⟩)
    (c__law_long : PySem.W.codeIn K cd__law_long "_law_long" = true)
    (k__law_long : PySem.W.keepIn K (.ref f__law_long) = true)
    (a__law_many : PySem.W.nsIn K mainGlobals "_law_many" = some (some (.ref f__law_many)))
    (l__law_many : K.lookup f__law_many = some ⟨oc__law_many, od__law_many, .func (PySem.W.fnOf "_law_many" "_law_many" (defArgs s__law_many) (defBody s__law_many) (defScope s__law_many) .none kV__law_many dc__law_many pm__law_many an__law_many cd__law_many ct__law_many), sl__law_many⟩)
    (c__law_many : PySem.W.codeIn K cd__law_many "_law_many" = true)
    (k__law_many : PySem.W.keepIn K (.ref f__law_many) = true)
    (a__law_row : PySem.W.nsIn K mainGlobals "_law_row" = some (some (.ref f__law_row)))
    (l__law_row : K.lookup f__law_row = some ⟨oc__law_row, od__law_row, .func (PySem.W.fnOf "_law_row" "_law_row" (defArgs s__law_row) (defBody s__law_row) (defScope s__law_row) .none kV__law_row dc__law_row pm__law_row an__law_row cd__law_row ct__law_row), sl__law_row⟩)
    (c__law_row : PySem.W.codeIn K cd__law_row "_law_row" = true)
    (k__law_row : PySem.W.keepIn K (.ref f__law_row) = true)
    (a__law_numbers : PySem.W.nsIn K mainGlobals "_law_numbers" = some (some (.ref f__law_numbers)))
    (l__law_numbers : K.lookup f__law_numbers = some ⟨oc__law_numbers, od__law_numbers, .func (PySem.W.fnOf "_law_numbers" "_law_numbers" (defArgs s__law_numbers) (defBody s__law_numbers) (defScope s__law_numbers) .none kV__law_numbers dc__law_numbers pm__law_numbers an__law_numbers cd__law_numbers ct__law_numbers), sl__law_numbers⟩)
    (c__law_numbers : PySem.W.codeIn K cd__law_numbers "_law_numbers" = true)
    (k__law_numbers : PySem.W.keepIn K (.ref f__law_numbers) = true)
    (a__law_order : PySem.W.nsIn K mainGlobals "_law_order" = some (some (.ref f__law_order)))
    (l__law_order : K.lookup f__law_order = some ⟨oc__law_order, od__law_order, .func (PySem.W.fnOf "_law_order" "_law_order" (defArgs s__law_order) (defBody s__law_order) (defScope s__law_order) .none kV__law_order dc__law_order pm__law_order an__law_order cd__law_order ct__law_order), sl__law_order⟩)
    (c__law_order : PySem.W.codeIn K cd__law_order "_law_order" = true)
    (k__law_order : PySem.W.keepIn K (.ref f__law_order) = true)
    (a_less_of : PySem.W.nsIn K mainGlobals "less_of" = some (some (.ref f_less_of)))
    (l_less_of : K.lookup f_less_of = some ⟨oc_less_of, od_less_of, .func (PySem.W.fnOf "less_of" "less_of" (defArgs s_less_of) (defBody s_less_of) (defScope s_less_of) .none kV_less_of dc_less_of pm_less_of an_less_of cd_less_of ct_less_of), sl_less_of⟩)
    (c_less_of : PySem.W.codeIn K cd_less_of "less_of" = true)
    (k_less_of : PySem.W.keepIn K (.ref f_less_of) = true)
    (a_F_split : PySem.W.findIn K (.ref C) "split" = some (some (.ref f_F_split)))
    (i_F_split : PySem.W.isFn K (.ref f_F_split) = true)
    (l_F_split : K.lookup f_F_split = some ⟨oc_F_split, od_F_split, .func (PySem.W.fnOf "split" "Family.split" (defArgs s_F_split) (defBody s_F_split) (defScope s_F_split) .none kV_F_split dc_F_split pm_F_split an_F_split cd_F_split ct_F_split), sl_F_split⟩)
    (c_F_split : PySem.W.codeIn K cd_F_split "Family.split" = true)
    (k_F_split : PySem.W.keepIn K (.ref f_F_split) = true)
    (a_apart_of : PySem.W.nsIn K mainGlobals "apart_of" = some (some (.ref f_apart_of)))
    (l_apart_of : K.lookup f_apart_of = some ⟨oc_apart_of, od_apart_of, .func (PySem.W.fnOf "apart_of" "apart_of" (defArgs s_apart_of) (defBody s_apart_of) (defScope s_apart_of) .none kV_apart_of dc_apart_of pm_apart_of an_apart_of cd_apart_of ct_apart_of), sl_apart_of⟩)
    (c_apart_of : PySem.W.codeIn K cd_apart_of "apart_of" = true)
    (k_apart_of : PySem.W.keepIn K (.ref f_apart_of) = true)
    (a_figures_of : PySem.W.nsIn K mainGlobals "figures_of" = some (some (.ref f_figures_of)))
    (l_figures_of : K.lookup f_figures_of = some ⟨oc_figures_of, od_figures_of, .func (PySem.W.fnOf "figures_of" "figures_of" (defArgs s_figures_of) (defBody s_figures_of) (defScope s_figures_of) .none kV_figures_of dc_figures_of pm_figures_of an_figures_of cd_figures_of ct_figures_of), sl_figures_of⟩)
    (c_figures_of : PySem.W.codeIn K cd_figures_of "figures_of" = true)
    (k_figures_of : PySem.W.keepIn K (.ref f_figures_of) = true)
    (a_number_of : PySem.W.nsIn K mainGlobals "number_of" = some (some (.ref f_number_of)))
    (l_number_of : K.lookup f_number_of = some ⟨oc_number_of, od_number_of, .func (PySem.W.fnOf "number_of" "number_of" (defArgs s_number_of) (defBody s_number_of) (defScope s_number_of) .none kV_number_of dc_number_of pm_number_of an_number_of cd_number_of ct_number_of), sl_number_of⟩)
    (c_number_of : PySem.W.codeIn K cd_number_of "number_of" = true)
    (k_number_of : PySem.W.keepIn K (.ref f_number_of) = true)
    (a_multiplied : PySem.W.nsIn K mainGlobals "multiplied" = some (some (.ref f_multiplied)))
    (l_multiplied : K.lookup f_multiplied = some ⟨oc_multiplied, od_multiplied, .func (PySem.W.fnOf "multiplied" "multiplied" (defArgs s_multiplied) (defBody s_multiplied) (defScope s_multiplied) .none kV_multiplied dc_multiplied pm_multiplied an_multiplied cd_multiplied ct_multiplied), sl_multiplied⟩)
    (c_multiplied : PySem.W.codeIn K cd_multiplied "multiplied" = true)
    (k_multiplied : PySem.W.keepIn K (.ref f_multiplied) = true)
    (a_remainder : PySem.W.nsIn K mainGlobals "remainder" = some (some (.ref f_remainder)))
    (l_remainder : K.lookup f_remainder = some ⟨oc_remainder, od_remainder, .func (PySem.W.fnOf "remainder" "remainder" (defArgs s_remainder) (defBody s_remainder) (defScope s_remainder) .none kV_remainder dc_remainder pm_remainder an_remainder cd_remainder ct_remainder), sl_remainder⟩)
    (c_remainder : PySem.W.codeIn K cd_remainder "remainder" = true)
    (k_remainder : PySem.W.keepIn K (.ref f_remainder) = true)
    (a_raised : PySem.W.nsIn K mainGlobals "raised" = some (some (.ref f_raised)))
    (l_raised : K.lookup f_raised = some ⟨oc_raised, od_raised, .func (PySem.W.fnOf "raised" "raised" (defArgs s_raised) (defBody s_raised) (defScope s_raised) .none kV_raised dc_raised pm_raised an_raised cd_raised ct_raised), sl_raised⟩)
    (c_raised : PySem.W.codeIn K cd_raised "raised" = true)
    (k_raised : PySem.W.keepIn K (.ref f_raised) = true)
    (a_power_of : PySem.W.nsIn K mainGlobals "power_of" = some (some (.ref f_power_of)))
    (l_power_of : K.lookup f_power_of = some ⟨oc_power_of, od_power_of, .func (PySem.W.fnOf "power_of" "power_of" (defArgs s_power_of) (defBody s_power_of) (defScope s_power_of) .none kV_power_of dc_power_of pm_power_of an_power_of cd_power_of ct_power_of), sl_power_of⟩)
    (c_power_of : PySem.W.codeIn K cd_power_of "power_of" = true)
    (k_power_of : PySem.W.keepIn K (.ref f_power_of) = true)
    (a_size_of : PySem.W.nsIn K mainGlobals "size_of" = some (some (.ref f_size_of)))
    (l_size_of : K.lookup f_size_of = some ⟨oc_size_of, od_size_of, .func (PySem.W.fnOf "size_of" "size_of" (defArgs s_size_of) (defBody s_size_of) (defScope s_size_of) .none kV_size_of dc_size_of pm_size_of an_size_of cd_size_of ct_size_of), sl_size_of⟩)
    (c_size_of : PySem.W.codeIn K cd_size_of "size_of" = true)
    (k_size_of : PySem.W.keepIn K (.ref f_size_of) = true)
    (a_inverse_of : PySem.W.nsIn K mainGlobals "inverse_of" = some (some (.ref f_inverse_of)))
    (l_inverse_of : K.lookup f_inverse_of = some ⟨oc_inverse_of, od_inverse_of, .func (PySem.W.fnOf "inverse_of" "inverse_of" (defArgs s_inverse_of) (defBody s_inverse_of) (defScope s_inverse_of) .none kV_inverse_of dc_inverse_of pm_inverse_of an_inverse_of cd_inverse_of ct_inverse_of), sl_inverse_of⟩)
    (c_inverse_of : PySem.W.codeIn K cd_inverse_of "inverse_of" = true)
    (k_inverse_of : PySem.W.keepIn K (.ref f_inverse_of) = true)
    (a_product_of : PySem.W.nsIn K mainGlobals "product_of" = some (some (.ref f_product_of)))
    (l_product_of : K.lookup f_product_of = some ⟨oc_product_of, od_product_of, .func (PySem.W.fnOf "product_of" "product_of" (defArgs s_product_of) (defBody s_product_of) (defScope s_product_of) .none kV_product_of dc_product_of pm_product_of an_product_of cd_product_of ct_product_of), sl_product_of⟩)
    (c_product_of : PySem.W.codeIn K cd_product_of "product_of" = true)
    (k_product_of : PySem.W.keepIn K (.ref f_product_of) = true)
    (a_kind_of : PySem.W.nsIn K mainGlobals "kind_of" = some (some (.ref f_kind_of)))
    (l_kind_of : K.lookup f_kind_of = some ⟨oc_kind_of, od_kind_of, .func (PySem.W.fnOf "kind_of" "kind_of" (defArgs s_kind_of) (defBody s_kind_of) (defScope s_kind_of) .none kV_kind_of dc_kind_of pm_kind_of an_kind_of cd_kind_of ct_kind_of), sl_kind_of⟩)
    (c_kind_of : PySem.W.codeIn K cd_kind_of "kind_of" = true)
    (k_kind_of : PySem.W.keepIn K (.ref f_kind_of) = true)
    (a_F_check_point : PySem.W.findIn K (.ref C) "check_point" = some (some (.ref f_F_check_point)))
    (i_F_check_point : PySem.W.isFn K (.ref f_F_check_point) = true)
    (l_F_check_point : K.lookup f_F_check_point = some ⟨oc_F_check_point, od_F_check_point, .func (PySem.W.fnOf "check_point" "Family.check_point" (defArgs s_F_check_point) (defBody s_F_check_point) (defScope s_F_check_point) .none kV_F_check_point dc_F_check_point pm_F_check_point an_F_check_point cd_F_check_point ct_F_check_point), sl_F_check_point⟩)
    (c_F_check_point : PySem.W.codeIn K cd_F_check_point "Family.check_point" = true)
    (k_F_check_point : PySem.W.keepIn K (.ref f_F_check_point) = true)
    (a_agreement : PySem.W.nsIn K mainGlobals "agreement" = some (some (.ref f_agreement)))
    (l_agreement : K.lookup f_agreement = some ⟨oc_agreement, od_agreement, .func (PySem.W.fnOf "agreement" "agreement" (defArgs s_agreement) (defBody s_agreement) (defScope s_agreement) .none kV_agreement dc_agreement pm_agreement an_agreement cd_agreement ct_agreement), sl_agreement⟩)
    (c_agreement : PySem.W.codeIn K cd_agreement "agreement" = true)
    (k_agreement : PySem.W.keepIn K (.ref f_agreement) = true)
    (a_is_prime : PySem.W.nsIn K mainGlobals "is_prime" = some (some (.ref f_is_prime)))
    (l_is_prime : K.lookup f_is_prime = some ⟨oc_is_prime, od_is_prime, .func (PySem.W.fnOf "is_prime" "is_prime" (defArgs s_is_prime) (defBody s_is_prime) (defScope s_is_prime) .none kV_is_prime dc_is_prime pm_is_prime an_is_prime cd_is_prime ct_is_prime), sl_is_prime⟩)
    (c_is_prime : PySem.W.codeIn K cd_is_prime "is_prime" = true)
    (k_is_prime : PySem.W.keepIn K (.ref f_is_prime) = true)
    (a_is_field : PySem.W.nsIn K mainGlobals "is_field" = some (some (.ref f_is_field)))
    (l_is_field : K.lookup f_is_field = some ⟨oc_is_field, od_is_field, .func (PySem.W.fnOf "is_field" "is_field" (defArgs s_is_field) (defBody s_is_field) (defScope s_is_field) .none kV_is_field dc_is_field pm_is_field an_is_field cd_is_field ct_is_field), sl_is_field⟩)
    (c_is_field : PySem.W.codeIn K cd_is_field "is_field" = true)
    (k_is_field : PySem.W.keepIn K (.ref f_is_field) = true)
    (a_check_field : PySem.W.nsIn K mainGlobals "check_field" = some (some (.ref f_check_field)))
    (l_check_field : K.lookup f_check_field = some ⟨oc_check_field, od_check_field, .func (PySem.W.fnOf "check_field" "check_field" (defArgs s_check_field) (defBody s_check_field) (defScope s_check_field) .none kV_check_field dc_check_field pm_check_field an_check_field cd_check_field ct_check_field), sl_check_field⟩)
    (c_check_field : PySem.W.codeIn K cd_check_field "check_field" = true)
    (k_check_field : PySem.W.keepIn K (.ref f_check_field) = true)
    (a_trimmed : PySem.W.nsIn K mainGlobals "trimmed" = some (some (.ref f_trimmed)))
    (l_trimmed : K.lookup f_trimmed = some ⟨oc_trimmed, od_trimmed, .func (PySem.W.fnOf "trimmed" "trimmed" (defArgs s_trimmed) (defBody s_trimmed) (defScope s_trimmed) .none kV_trimmed dc_trimmed pm_trimmed an_trimmed cd_trimmed ct_trimmed), sl_trimmed⟩)
    (c_trimmed : PySem.W.codeIn K cd_trimmed "trimmed" = true)
    (k_trimmed : PySem.W.keepIn K (.ref f_trimmed) = true)
    (a_turned_round : PySem.W.nsIn K mainGlobals "turned_round" = some (some (.ref f_turned_round)))
    (l_turned_round : K.lookup f_turned_round = some ⟨oc_turned_round, od_turned_round, .func (PySem.W.fnOf "turned_round" "turned_round" (defArgs s_turned_round) (defBody s_turned_round) (defScope s_turned_round) .none kV_turned_round dc_turned_round pm_turned_round an_turned_round cd_turned_round ct_turned_round), sl_turned_round⟩)
    (c_turned_round : PySem.W.codeIn K cd_turned_round "turned_round" = true)
    (k_turned_round : PySem.W.keepIn K (.ref f_turned_round) = true)
    (a_have_common : PySem.W.nsIn K mainGlobals "have_common" = some (some (.ref f_have_common)))
    (l_have_common : K.lookup f_have_common = some ⟨oc_have_common, od_have_common, .func (PySem.W.fnOf "have_common" "have_common" (defArgs s_have_common) (defBody s_have_common) (defScope s_have_common) .none kV_have_common dc_have_common pm_have_common an_have_common cd_have_common ct_have_common), sl_have_common⟩)
    (c_have_common : PySem.W.codeIn K cd_have_common "have_common" = true)
    (k_have_common : PySem.W.keepIn K (.ref f_have_common) = true)
    (a_is_irreducible : PySem.W.nsIn K mainGlobals "is_irreducible" = some (some (.ref f_is_irreducible)))
    (l_is_irreducible : K.lookup f_is_irreducible = some ⟨oc_is_irreducible, od_is_irreducible, .func (PySem.W.fnOf "is_irreducible" "is_irreducible" (defArgs s_is_irreducible) (defBody s_is_irreducible) (defScope s_is_irreducible) .none kV_is_irreducible dc_is_irreducible pm_is_irreducible an_is_irreducible cd_is_irreducible ct_is_irreducible), sl_is_irreducible⟩)
    (c_is_irreducible : PySem.W.codeIn K cd_is_irreducible "is_irreducible" = true)
    (k_is_irreducible : PySem.W.keepIn K (.ref f_is_irreducible) = true)
    (a_lower_of : PySem.W.nsIn K mainGlobals "lower_of" = some (some (.ref f_lower_of)))
    (l_lower_of : K.lookup f_lower_of = some ⟨oc_lower_of, od_lower_of, .func (PySem.W.fnOf "lower_of" "lower_of" (defArgs s_lower_of) (defBody s_lower_of) (defScope s_lower_of) .none kV_lower_of dc_lower_of pm_lower_of an_lower_of cd_lower_of ct_lower_of), sl_lower_of⟩)
    (c_lower_of : PySem.W.codeIn K cd_lower_of "lower_of" = true)
    (k_lower_of : PySem.W.keepIn K (.ref f_lower_of) = true)
    (a_polynomial : PySem.W.nsIn K mainGlobals "polynomial" = some (some (.ref f_polynomial)))
    (l_polynomial : K.lookup f_polynomial = some ⟨oc_polynomial, od_polynomial, .func (PySem.W.fnOf "polynomial" "polynomial" (defArgs s_polynomial) (defBody s_polynomial) (defScope s_polynomial) .none kV_polynomial dc_polynomial pm_polynomial an_polynomial cd_polynomial ct_polynomial), sl_polynomial⟩)
    (c_polynomial : PySem.W.codeIn K cd_polynomial "polynomial" = true)
    (k_polynomial : PySem.W.keepIn K (.ref f_polynomial) = true)
    (a_square_with : PySem.W.nsIn K mainGlobals "square_with" = some (some (.ref f_square_with)))
    (l_square_with : K.lookup f_square_with = some ⟨oc_square_with, od_square_with, .func (PySem.W.fnOf "square_with" "square_with" (defArgs s_square_with) (defBody s_square_with) (defScope s_square_with) .none kV_square_with dc_square_with pm_square_with an_square_with cd_square_with ct_square_with), sl_square_with⟩)
    (c_square_with : PySem.W.codeIn K cd_square_with "square_with" = true)
    (k_square_with : PySem.W.keepIn K (.ref f_square_with) = true)
    (a_is_prime_power : PySem.W.nsIn K mainGlobals "is_prime_power" = some (some (.ref f_is_prime_power)))
    (l_is_prime_power : K.lookup f_is_prime_power = some ⟨oc_is_prime_power, od_is_prime_power, .func (PySem.W.fnOf "is_prime_power" "is_prime_power" (defArgs s_is_prime_power) (defBody s_is_prime_power) (defScope s_is_prime_power) .none kV_is_prime_power dc_is_prime_power pm_is_prime_power an_is_prime_power cd_is_prime_power ct_is_prime_power), sl_is_prime_power⟩)
    (c_is_prime_power : PySem.W.codeIn K cd_is_prime_power "is_prime_power" = true)
    (k_is_prime_power : PySem.W.keepIn K (.ref f_is_prime_power) = true)
    (a_checked_parts : PySem.W.nsIn K mainGlobals "checked_parts" = some (some (.ref f_checked_parts)))
    (l_checked_parts : K.lookup f_checked_parts = some ⟨oc_checked_parts, od_checked_parts, .func (PySem.W.fnOf "checked_parts" "checked_parts" (defArgs s_checked_parts) (defBody s_checked_parts) (defScope s_checked_parts) .none kV_checked_parts dc_checked_parts pm_checked_parts an_checked_parts cd_checked_parts ct_checked_parts), sl_checked_parts⟩)
    (c_checked_parts : PySem.W.codeIn K cd_checked_parts "checked_parts" = true)
    (k_checked_parts : PySem.W.keepIn K (.ref f_checked_parts) = true)
    (a_F_joined : PySem.W.findIn K (.ref C) "joined" = some (some (.ref f_F_joined)))
    (i_F_joined : PySem.W.isFn K (.ref f_F_joined) = true)
    (l_F_joined : K.lookup f_F_joined = some ⟨oc_F_joined, od_F_joined, .func (PySem.W.fnOf "joined" "Family.joined" (defArgs s_F_joined) (defBody s_F_joined) (defScope s_F_joined) .none kV_F_joined dc_F_joined pm_F_joined an_F_joined cd_F_joined ct_F_joined), sl_F_joined⟩)
    (c_F_joined : PySem.W.codeIn K cd_F_joined "Family.joined" = true)
    (k_F_joined : PySem.W.keepIn K (.ref f_F_joined) = true)
    (a_F_init : PySem.W.findIn K (.ref C) "__init__" = some (some (.ref f_F_init)))
    (i_F_init : PySem.W.isFn K (.ref f_F_init) = true)
    (l_F_init : K.lookup f_F_init = some ⟨oc_F_init, od_F_init, .func (PySem.W.fnOf "__init__" "Family.__init__" (defArgs s_F_init) (defBody s_F_init) (defScope s_F_init) .none kV_F_init dc_F_init pm_F_init an_F_init cd_F_init ct_F_init), sl_F_init⟩)
    (c_F_init : PySem.W.codeIn K cd_F_init "Family.__init__" = true)
    (k_F_init : PySem.W.keepIn K (.ref f_F_init) = true)
    (a_sum_of : PySem.W.nsIn K mainGlobals "sum_of" = some (some (.ref f_sum_of)))
    (l_sum_of : K.lookup f_sum_of = some ⟨oc_sum_of, od_sum_of, .func (PySem.W.fnOf "sum_of" "sum_of" (defArgs s_sum_of) (defBody s_sum_of) (defScope s_sum_of) .none kV_sum_of dc_sum_of pm_sum_of an_sum_of cd_sum_of ct_sum_of), sl_sum_of⟩)
    (c_sum_of : PySem.W.codeIn K cd_sum_of "sum_of" = true)
    (k_sum_of : PySem.W.keepIn K (.ref f_sum_of) = true)
    (a_F_combined : PySem.W.findIn K (.ref C) "combined" = some (some (.ref f_F_combined)))
    (i_F_combined : PySem.W.isFn K (.ref f_F_combined) = true)
    (l_F_combined : K.lookup f_F_combined = some ⟨oc_F_combined, od_F_combined, .func (PySem.W.fnOf "combined" "Family.combined" (defArgs s_F_combined) (defBody s_F_combined) (defScope s_F_combined) .none kV_F_combined dc_F_combined pm_F_combined an_F_combined cd_F_combined ct_F_combined), sl_F_combined⟩)
    (c_F_combined : PySem.W.codeIn K cd_F_combined "Family.combined" = true)
    (k_F_combined : PySem.W.keepIn K (.ref f_F_combined) = true)
    (a_F_divided : PySem.W.findIn K (.ref C) "divided" = some (some (.ref f_F_divided)))
    (i_F_divided : PySem.W.isFn K (.ref f_F_divided) = true)
    (l_F_divided : K.lookup f_F_divided = some ⟨oc_F_divided, od_F_divided, .func (PySem.W.fnOf "divided" "Family.divided" (defArgs s_F_divided) (defBody s_F_divided) (defScope s_F_divided) .none kV_F_divided dc_F_divided pm_F_divided an_F_divided cd_F_divided ct_F_divided), sl_F_divided⟩)
    (c_F_divided : PySem.W.codeIn K cd_F_divided "Family.divided" = true)
    (k_F_divided : PySem.W.keepIn K (.ref f_F_divided) = true)
    (a_F_cell_of : PySem.W.findIn K (.ref C) "cell_of" = some (some (.ref f_F_cell_of)))
    (i_F_cell_of : PySem.W.isFn K (.ref f_F_cell_of) = true)
    (l_F_cell_of : K.lookup f_F_cell_of = some ⟨oc_F_cell_of, od_F_cell_of, .func (PySem.W.fnOf "cell_of" "Family.cell_of" (defArgs s_F_cell_of) (defBody s_F_cell_of) (defScope s_F_cell_of) .none kV_F_cell_of dc_F_cell_of pm_F_cell_of an_F_cell_of cd_F_cell_of ct_F_cell_of), sl_F_cell_of⟩)
    (c_F_cell_of : PySem.W.codeIn K cd_F_cell_of "Family.cell_of" = true)
    (k_F_cell_of : PySem.W.keepIn K (.ref f_F_cell_of) = true)
    (a_F_check_kind : PySem.W.findIn K (.ref C) "check_kind" = some (some (.ref f_F_check_kind)))
    (i_F_check_kind : PySem.W.isFn K (.ref f_F_check_kind) = true)
    (l_F_check_kind : K.lookup f_F_check_kind = some ⟨oc_F_check_kind, od_F_check_kind, .func (PySem.W.fnOf "check_kind" "Family.check_kind" (defArgs s_F_check_kind) (defBody s_F_check_kind) (defScope s_F_check_kind) .none kV_F_check_kind dc_F_check_kind pm_F_check_kind an_F_check_kind cd_F_check_kind ct_F_check_kind), sl_F_check_kind⟩)
    (c_F_check_kind : PySem.W.codeIn K cd_F_check_kind "Family.check_kind" = true)
    (k_F_check_kind : PySem.W.keepIn K (.ref f_F_check_kind) = true)
    (a_F_cell : PySem.W.findIn K (.ref C) "cell" = some (some (.ref f_F_cell)))
    (i_F_cell : PySem.W.isFn K (.ref f_F_cell) = true)
    (l_F_cell : K.lookup f_F_cell = some ⟨oc_F_cell, od_F_cell, .func (PySem.W.fnOf "cell" "Family.cell" (defArgs s_F_cell) (defBody s_F_cell) (defScope s_F_cell) .none kV_F_cell dc_F_cell pm_F_cell an_F_cell cd_F_cell ct_F_cell), sl_F_cell⟩)
    (c_F_cell : PySem.W.codeIn K cd_F_cell "Family.cell" = true)
    (k_F_cell : PySem.W.keepIn K (.ref f_F_cell) = true)
    (a_F_check_square : PySem.W.findIn K (.ref C) "check_square" = some (some (.ref f_F_check_square)))
    (i_F_check_square : PySem.W.isFn K (.ref f_F_check_square) = true)
    (l_F_check_square : K.lookup f_F_check_square = some ⟨oc_F_check_square, od_F_check_square, .func (PySem.W.fnOf "check_square" "Family.check_square" (defArgs s_F_check_square) (defBody s_F_check_square) (defScope s_F_check_square) .none kV_F_check_square dc_F_check_square pm_F_check_square an_F_check_square cd_F_check_square ct_F_check_square), sl_F_check_square⟩)
    (c_F_check_square : PySem.W.codeIn K cd_F_check_square "Family.check_square" = true)
    (k_F_check_square : PySem.W.keepIn K (.ref f_F_check_square) = true)
    (a_F_at_cell : PySem.W.findIn K (.ref C) "at_cell" = some (some (.ref f_F_at_cell)))
    (i_F_at_cell : PySem.W.isFn K (.ref f_F_at_cell) = true)
    (l_F_at_cell : K.lookup f_F_at_cell = some ⟨oc_F_at_cell, od_F_at_cell, .func (PySem.W.fnOf "at_cell" "Family.at_cell" (defArgs s_F_at_cell) (defBody s_F_at_cell) (defScope s_F_at_cell) .none kV_F_at_cell dc_F_at_cell pm_F_at_cell an_F_at_cell cd_F_at_cell ct_F_at_cell), sl_F_at_cell⟩)
    (c_F_at_cell : PySem.W.codeIn K cd_F_at_cell "Family.at_cell" = true)
    (k_F_at_cell : PySem.W.keepIn K (.ref f_F_at_cell) = true)
    (a_F_told : PySem.W.findIn K (.ref C) "told" = some (some (.ref f_F_told)))
    (i_F_told : PySem.W.isFn K (.ref f_F_told) = true)
    (l_F_told : K.lookup f_F_told = some ⟨oc_F_told, od_F_told, .func (PySem.W.fnOf "told" "Family.told" (defArgs s_F_told) (defBody s_F_told) (defScope s_F_told) .none kV_F_told dc_F_told pm_F_told an_F_told cd_F_told ct_F_told), sl_F_told⟩)
    (c_F_told : PySem.W.codeIn K cd_F_told "Family.told" = true)
    (k_F_told : PySem.W.keepIn K (.ref f_F_told) = true)
    (a_F_column_for : PySem.W.findIn K (.ref C) "column_for" = some (some (.ref f_F_column_for)))
    (i_F_column_for : PySem.W.isFn K (.ref f_F_column_for) = true)
    (l_F_column_for : K.lookup f_F_column_for = some ⟨oc_F_column_for, od_F_column_for, .func (PySem.W.fnOf "column_for" "Family.column_for" (defArgs s_F_column_for) (defBody s_F_column_for) (defScope s_F_column_for) .none kV_F_column_for dc_F_column_for pm_F_column_for an_F_column_for cd_F_column_for ct_F_column_for), sl_F_column_for⟩)
    (c_F_column_for : PySem.W.codeIn K cd_F_column_for "Family.column_for" = true)
    (k_F_column_for : PySem.W.keepIn K (.ref f_F_column_for) = true)
    (a_F_row_for : PySem.W.findIn K (.ref C) "row_for" = some (some (.ref f_F_row_for)))
    (i_F_row_for : PySem.W.isFn K (.ref f_F_row_for) = true)
    (l_F_row_for : K.lookup f_F_row_for = some ⟨oc_F_row_for, od_F_row_for, .func (PySem.W.fnOf "row_for" "Family.row_for" (defArgs s_F_row_for) (defBody s_F_row_for) (defScope s_F_row_for) .none kV_F_row_for dc_F_row_for pm_F_row_for an_F_row_for cd_F_row_for ct_F_row_for), sl_F_row_for⟩)
    (c_F_row_for : PySem.W.codeIn K cd_F_row_for "Family.row_for" = true)
    (k_F_row_for : PySem.W.keepIn K (.ref f_F_row_for) = true)
    (a_F_sign : PySem.W.findIn K (.ref C) "sign" = some (some (.ref f_F_sign)))
    (i_F_sign : PySem.W.isFn K (.ref f_F_sign) = true)
    (l_F_sign : K.lookup f_F_sign = some ⟨oc_F_sign, od_F_sign, .func (PySem.W.fnOf "sign" "Family.sign" (defArgs s_F_sign) (defBody s_F_sign) (defScope s_F_sign) .none kV_F_sign dc_F_sign pm_F_sign an_F_sign cd_F_sign ct_F_sign), sl_F_sign⟩)
    (c_F_sign : PySem.W.codeIn K cd_F_sign "Family.sign" = true)
    (k_F_sign : PySem.W.keepIn K (.ref f_F_sign) = true)
    (a_F_word : PySem.W.findIn K (.ref C) "word" = some (some (.ref f_F_word)))
    (i_F_word : PySem.W.isFn K (.ref f_F_word) = true)
    (l_F_word : K.lookup f_F_word = some ⟨oc_F_word, od_F_word, .func (PySem.W.fnOf "word" "Family.word" (defArgs s_F_word) (defBody s_F_word) (defScope s_F_word) .none kV_F_word dc_F_word pm_F_word an_F_word cd_F_word ct_F_word), sl_F_word⟩)
    (c_F_word : PySem.W.codeIn K cd_F_word "Family.word" = true)
    (k_F_word : PySem.W.keepIn K (.ref f_F_word) = true)
    (a_law : PySem.W.nsIn K mainGlobals "law" = some (some (.ref f_law)))
    (l_law : K.lookup f_law = some ⟨oc_law, od_law, .func (PySem.W.fnOf "law" "law" (defArgs s_law) (defBody s_law) (defScope s_law) .none kV_law dc_law pm_law an_law cd_law ct_law), sl_law⟩)
    (c_law : PySem.W.codeIn K cd_law "law" = true)
    (k_law : PySem.W.keepIn K (.ref f_law) = true)
    (pg : PySem.W.plainGet K C Str.empty = true)
    (hd : PySem.W.hasDictIn K C = true)
    (po : PySem.W.plainOver K C = true)
    (sa : PySem.W.findIn K (.ref C) "__setattr__" = some (some (.builtin "object.__setattr__")))
    (mk : PySem.W.makesIn K C = true)
    (kc : PySem.W.keepIn K (.ref C) = true)
    (n_parts : PySem.W.findIn K (.ref C) "parts" = some none)
    (n_sizes : PySem.W.findIn K (.ref C) "sizes" = some none)
    (n_many : PySem.W.findIn K (.ref C) "many" = some none)
    (n_lowers : PySem.W.findIn K (.ref C) "lowers" = some none)
    (n_order : PySem.W.findIn K (.ref C) "order" = some none)
    (z_abs : PySem.W.nsIn K mainGlobals "abs" = some none)
    (z_all : PySem.W.nsIn K mainGlobals "all" = some none)
    (z_enumerate : PySem.W.nsIn K mainGlobals "enumerate" = some none)
    (z_int : PySem.W.nsIn K mainGlobals "int" = some none)
    (z_isinstance : PySem.W.nsIn K mainGlobals "isinstance" = some none)
    (z_len : PySem.W.nsIn K mainGlobals "len" = some none)
    (z_list : PySem.W.nsIn K mainGlobals "list" = some none)
    (z_max : PySem.W.nsIn K mainGlobals "max" = some none)
    (z_min : PySem.W.nsIn K mainGlobals "min" = some none)
    (z_range : PySem.W.nsIn K mainGlobals "range" = some none)
    (z_repr : PySem.W.nsIn K mainGlobals "repr" = some none)
    (z_tuple : PySem.W.nsIn K mainGlobals "tuple" = some none)
    (z_zip : PySem.W.nsIn K mainGlobals "zip" = some none)
    (g_COLUMN : PySem.W.nsIn K mainGlobals "COLUMN" = some (some (.int (-1) t_COLUMN)))
    (g_MOST_BASE : PySem.W.nsIn K mainGlobals "MOST_BASE" = some (some (.int (97) t_MOST_BASE)))
    (g_MOST_DEGREE : PySem.W.nsIn K mainGlobals "MOST_DEGREE" = some (some (.int (12) t_MOST_DEGREE)))
    (g_MOST_ORDER : PySem.W.nsIn K mainGlobals "MOST_ORDER" = some (some (.int (1000000000000000000000000000000) t_MOST_ORDER)))
    (g_MOST_PRIME : PySem.W.nsIn K mainGlobals "MOST_PRIME" = some (some (.int (1000000) t_MOST_PRIME)))
    (g_MOST_SIZE : PySem.W.nsIn K mainGlobals "MOST_SIZE" = some (some (.int (1000000000000000) t_MOST_SIZE)))
    (g_ROW : PySem.W.nsIn K mainGlobals "ROW" = some (some (.int (0) t_ROW))) :
    ∃ fd : FuncData, (∀ (s : Shared) (v : Value), BindsTo s fd ⟨[v], []⟩ [("_law_script", v)]) ∧ ∀ base : Heap, K.In base → base.Ns mainGlobals mg → FnOk l.prog w K mg base CX0 10 fa fd ["_law_script"] (sp_law K) := by
  have e := hfa.symm.trans (PySem.W.mg_of X G a_law)
  cases e
  have T : Txt K mg C f_sum_of f_less_of := {
    cl := ⟨pg, hd, po, sa⟩
    abs_ := PySem.W.mg_none_of X G z_abs
    all_ := PySem.W.mg_none_of X G z_all
    enumerate_ := PySem.W.mg_none_of X G z_enumerate
    int_ := PySem.W.mg_none_of X G z_int
    isinstance_ := PySem.W.mg_none_of X G z_isinstance
    len_ := PySem.W.mg_none_of X G z_len
    list_ := PySem.W.mg_none_of X G z_list
    max_ := PySem.W.mg_none_of X G z_max
    min_ := PySem.W.mg_none_of X G z_min
    range_ := PySem.W.mg_none_of X G z_range
    repr_ := PySem.W.mg_none_of X G z_repr
    tuple_ := PySem.W.mg_none_of X G z_tuple
    zip_ := PySem.W.mg_none_of X G z_zip
    COLUMN := ⟨_, PySem.W.mg_of X G g_COLUMN⟩
    MOST_BASE := ⟨_, PySem.W.mg_of X G g_MOST_BASE⟩
    MOST_DEGREE := ⟨_, PySem.W.mg_of X G g_MOST_DEGREE⟩
    MOST_ORDER := ⟨_, PySem.W.mg_of X G g_MOST_ORDER⟩
    MOST_PRIME := ⟨_, PySem.W.mg_of X G g_MOST_PRIME⟩
    MOST_SIZE := ⟨_, PySem.W.mg_of X G g_MOST_SIZE⟩
    ROW := ⟨_, PySem.W.mg_of X G g_ROW⟩
    Family := PySem.W.mg_of X G aC
    sum_of := PySem.W.mg_of X G a_sum_of
    less_of := PySem.W.mg_of X G a_less_of
    n_parts := n_parts
    n_sizes := n_sizes
    n_many := n_many
    n_lowers := n_lowers
    n_order := n_order
  }
  have F__law_great := fun_mk (st := s__law_great) l__law_great c__law_great k__law_great
  have b__law_great := F__law_great.binds (ps := ["_law_numbers_here", "_law_at"]) fun _ _ _ _ _ _ us hl => match us, hl with | [_, _], _ => rfl
  have D__law_great : Dfn K mg "_law_great" s__law_great ["_law_numbers_here", "_law_at"] := ⟨_, _, F__law_great, PySem.W.mg_of X G a__law_great, b__law_great⟩
  have F__law_size := fun_mk (st := s__law_size) l__law_size c__law_size k__law_size
  have b__law_size := F__law_size.binds (ps := ["_law_p", "_law_k"]) fun _ _ _ _ _ _ us hl => match us, hl with | [_, _], _ => rfl
  have D__law_size : Dfn K mg "_law_size" s__law_size ["_law_p", "_law_k"] := ⟨_, _, F__law_size, PySem.W.mg_of X G a__law_size, b__law_size⟩
  have F__law_joined := fun_mk (st := s__law_joined) l__law_joined c__law_joined k__law_joined
  have b__law_joined := F__law_joined.binds (ps := ["_law_parts", "_law_figures_here"]) fun _ _ _ _ _ _ us hl => match us, hl with | [_, _], _ => rfl
  have D__law_joined : Dfn K mg "_law_joined" s__law_joined ["_law_parts", "_law_figures_here"] := ⟨_, _, F__law_joined, PySem.W.mg_of X G a__law_joined, b__law_joined⟩
  have F__law_figures := fun_mk (st := s__law_figures) l__law_figures c__law_figures k__law_figures
  have b__law_figures := F__law_figures.binds (ps := ["_law_p", "_law_k", "_law_number_here"]) fun _ _ _ _ _ _ us hl => match us, hl with | [_, _, _], _ => rfl
  have D__law_figures : Dfn K mg "_law_figures" s__law_figures ["_law_p", "_law_k", "_law_number_here"] := ⟨_, _, F__law_figures, PySem.W.mg_of X G a__law_figures, b__law_figures⟩
  have F__law_number := fun_mk (st := s__law_number) l__law_number c__law_number k__law_number
  have b__law_number := F__law_number.binds (ps := ["_law_p", "_law_figures_here"]) fun _ _ _ _ _ _ us hl => match us, hl with | [_, _], _ => rfl
  have D__law_number : Dfn K mg "_law_number" s__law_number ["_law_p", "_law_figures_here"] := ⟨_, _, F__law_number, PySem.W.mg_of X G a__law_number, b__law_number⟩
  have F__law_plus := fun_mk (st := s__law_plus) l__law_plus c__law_plus k__law_plus
  have b__law_plus := F__law_plus.binds (ps := ["_law_p", "_law_k", "_law_one", "_law_other"]) fun _ _ _ _ _ _ us hl => match us, hl with | [_, _, _, _], _ => rfl
  have D__law_plus : Dfn K mg "_law_plus" s__law_plus ["_law_p", "_law_k", "_law_one", "_law_other"] := ⟨_, _, F__law_plus, PySem.W.mg_of X G a__law_plus, b__law_plus⟩
  have F__law_split := fun_mk (st := s__law_split) l__law_split c__law_split k__law_split
  have b__law_split := F__law_split.binds (ps := ["_law_parts", "_law_point"]) fun _ _ _ _ _ _ us hl => match us, hl with | [_, _], _ => rfl
  have D__law_split : Dfn K mg "_law_split" s__law_split ["_law_parts", "_law_point"] := ⟨_, _, F__law_split, PySem.W.mg_of X G a__law_split, b__law_split⟩
  have F__law_times := fun_mk (st := s__law_times) l__law_times c__law_times k__law_times
  have b__law_times := F__law_times.binds (ps := ["_law_p", "_law_lower", "_law_one", "_law_other"]) fun _ _ _ _ _ _ us hl => match us, hl with | [_, _, _, _], _ => rfl
  have D__law_times : Dfn K mg "_law_times" s__law_times ["_law_p", "_law_lower", "_law_one", "_law_other"] := ⟨_, _, F__law_times, PySem.W.mg_of X G a__law_times, b__law_times⟩
  have F__law_has := fun_mk (st := s__law_has) l__law_has c__law_has k__law_has
  have b__law_has := F__law_has.binds (ps := ["_law_parts", "_law_lowers", "_law_kind", "_law_row_here", "_law_column"]) fun _ _ _ _ _ _ us hl => match us, hl with | [_, _, _, _, _], _ => rfl
  have D__law_has : Dfn K mg "_law_has" s__law_has ["_law_parts", "_law_lowers", "_law_kind", "_law_row_here", "_law_column"] := ⟨_, _, F__law_has, PySem.W.mg_of X G a__law_has, b__law_has⟩
  have F__law_long := fun_mk (st := s__law_long) l__law_long c__law_long k__law_long
  have b__law_long := F__law_long.binds (ps := ["_law_numbers_here", "_law_at"]) fun _ _ _ _ _ _ us hl => match us, hl with | [_, _], _ => rfl
  have D__law_long : Dfn K mg "_law_long" s__law_long ["_law_numbers_here", "_law_at"] := ⟨_, _, F__law_long, PySem.W.mg_of X G a__law_long, b__law_long⟩
  have F__law_many := fun_mk (st := s__law_many) l__law_many c__law_many k__law_many
  have b__law_many := F__law_many.binds (ps := ["_law_parts"]) fun _ _ _ _ _ _ us hl => match us, hl with | [_], _ => rfl
  have D__law_many : Dfn K mg "_law_many" s__law_many ["_law_parts"] := ⟨_, _, F__law_many, PySem.W.mg_of X G a__law_many, b__law_many⟩
  have F__law_row := fun_mk (st := s__law_row) l__law_row c__law_row k__law_row
  have b__law_row := F__law_row.binds (ps := ["_law_cell", "_law_many_here"]) fun _ _ _ _ _ _ us hl => match us, hl with | [_, _], _ => rfl
  have D__law_row : Dfn K mg "_law_row" s__law_row ["_law_cell", "_law_many_here"] := ⟨_, _, F__law_row, PySem.W.mg_of X G a__law_row, b__law_row⟩
  have F__law_numbers := fun_mk (st := s__law_numbers) l__law_numbers c__law_numbers k__law_numbers
  have b__law_numbers := F__law_numbers.binds (ps := ["_law_script", "_law_many_here"]) fun _ _ _ _ _ _ us hl => match us, hl with | [_, _], _ => rfl
  have D__law_numbers : Dfn K mg "_law_numbers" s__law_numbers ["_law_script", "_law_many_here"] := ⟨_, _, F__law_numbers, PySem.W.mg_of X G a__law_numbers, b__law_numbers⟩
  have F__law_order := fun_mk (st := s__law_order) l__law_order c__law_order k__law_order
  have b__law_order := F__law_order.binds (ps := ["_law_parts"]) fun _ _ _ _ _ _ us hl => match us, hl with | [_], _ => rfl
  have D__law_order : Dfn K mg "_law_order" s__law_order ["_law_parts"] := ⟨_, _, F__law_order, PySem.W.mg_of X G a__law_order, b__law_order⟩
  have F_less_of := fun_mk (st := s_less_of) l_less_of c_less_of k_less_of
  have b_less_of := F_less_of.binds (ps := ["prime", "one", "other"]) fun _ _ _ _ _ _ us hl => match us, hl with | [_, _, _], _ => rfl
  have D_less_of : Dfn K mg "less_of" s_less_of ["prime", "one", "other"] := ⟨_, _, F_less_of, PySem.W.mg_of X G a_less_of, b_less_of⟩
  have F_F_split := fun_mk (st := s_F_split) l_F_split c_F_split k_F_split
  have b_F_split := F_F_split.binds (ps := ["self", "point"]) fun _ _ _ _ _ _ us hl => match us, hl with | [_, _], _ => rfl
  have D_F_split : Mtd K C "split" "Family.split" s_F_split ["self", "point"] := ⟨_, _, F_F_split, ⟨a_F_split, i_F_split, k_F_split⟩, b_F_split⟩
  have F_apart_of := fun_mk (st := s_apart_of) l_apart_of c_apart_of k_apart_of
  have b_apart_of := F_apart_of.binds (ps := ["family", "one", "other"]) fun _ _ _ _ _ _ us hl => match us, hl with | [_, _, _], _ => rfl
  have D_apart_of : Dfn K mg "apart_of" s_apart_of ["family", "one", "other"] := ⟨_, _, F_apart_of, PySem.W.mg_of X G a_apart_of, b_apart_of⟩
  have F_figures_of := fun_mk (st := s_figures_of) l_figures_of c_figures_of k_figures_of
  have b_figures_of := F_figures_of.binds (ps := ["prime", "many", "number"]) fun _ _ _ _ _ _ us hl => match us, hl with | [_, _, _], _ => rfl
  have D_figures_of : Dfn K mg "figures_of" s_figures_of ["prime", "many", "number"] := ⟨_, _, F_figures_of, PySem.W.mg_of X G a_figures_of, b_figures_of⟩
  have F_number_of := fun_mk (st := s_number_of) l_number_of c_number_of k_number_of
  have b_number_of := F_number_of.binds (ps := ["prime", "figures"]) fun _ _ _ _ _ _ us hl => match us, hl with | [_, _], _ => rfl
  have D_number_of : Dfn K mg "number_of" s_number_of ["prime", "figures"] := ⟨_, _, F_number_of, PySem.W.mg_of X G a_number_of, b_number_of⟩
  have F_multiplied := fun_mk (st := s_multiplied) l_multiplied c_multiplied k_multiplied
  have b_multiplied := F_multiplied.binds (ps := ["prime", "one", "other"]) fun _ _ _ _ _ _ us hl => match us, hl with | [_, _, _], _ => rfl
  have D_multiplied : Dfn K mg "multiplied" s_multiplied ["prime", "one", "other"] := ⟨_, _, F_multiplied, PySem.W.mg_of X G a_multiplied, b_multiplied⟩
  have F_remainder := fun_mk (st := s_remainder) l_remainder c_remainder k_remainder
  have b_remainder := F_remainder.binds (ps := ["prime", "lower", "figures"]) fun _ _ _ _ _ _ us hl => match us, hl with | [_, _, _], _ => rfl
  have D_remainder : Dfn K mg "remainder" s_remainder ["prime", "lower", "figures"] := ⟨_, _, F_remainder, PySem.W.mg_of X G a_remainder, b_remainder⟩
  have F_raised := fun_mk (st := s_raised) l_raised c_raised k_raised
  have b_raised := F_raised.binds (ps := ["prime", "lower", "figures", "times"]) fun _ _ _ _ _ _ us hl => match us, hl with | [_, _, _, _], _ => rfl
  have D_raised : Dfn K mg "raised" s_raised ["prime", "lower", "figures", "times"] := ⟨_, _, F_raised, PySem.W.mg_of X G a_raised, b_raised⟩
  have F_power_of := fun_mk (st := s_power_of) l_power_of c_power_of k_power_of
  have b_power_of := F_power_of.binds (ps := ["prime", "lower", "one", "times"]) fun _ _ _ _ _ _ us hl => match us, hl with | [_, _, _, _], _ => rfl
  have D_power_of : Dfn K mg "power_of" s_power_of ["prime", "lower", "one", "times"] := ⟨_, _, F_power_of, PySem.W.mg_of X G a_power_of, b_power_of⟩
  have F_size_of := fun_mk (st := s_size_of) l_size_of c_size_of k_size_of
  have b_size_of := F_size_of.binds (ps := ["prime", "degree"]) fun _ _ _ _ _ _ us hl => match us, hl with | [_, _], _ => rfl
  have D_size_of : Dfn K mg "size_of" s_size_of ["prime", "degree"] := ⟨_, _, F_size_of, PySem.W.mg_of X G a_size_of, b_size_of⟩
  have F_inverse_of := fun_mk (st := s_inverse_of) l_inverse_of c_inverse_of k_inverse_of
  have b_inverse_of := F_inverse_of.binds (ps := ["prime", "lower", "one"]) fun _ _ _ _ _ _ us hl => match us, hl with | [_, _, _], _ => rfl
  have D_inverse_of : Dfn K mg "inverse_of" s_inverse_of ["prime", "lower", "one"] := ⟨_, _, F_inverse_of, PySem.W.mg_of X G a_inverse_of, b_inverse_of⟩
  have F_product_of := fun_mk (st := s_product_of) l_product_of c_product_of k_product_of
  have b_product_of := F_product_of.binds (ps := ["prime", "lower", "one", "other"]) fun _ _ _ _ _ _ us hl => match us, hl with | [_, _, _, _], _ => rfl
  have D_product_of : Dfn K mg "product_of" s_product_of ["prime", "lower", "one", "other"] := ⟨_, _, F_product_of, PySem.W.mg_of X G a_product_of, b_product_of⟩
  have F_kind_of := fun_mk (st := s_kind_of) l_kind_of c_kind_of k_kind_of
  have b_kind_of := F_kind_of.binds (ps := ["family", "apart", "across"]) fun _ _ _ _ _ _ us hl => match us, hl with | [_, _, _], _ => rfl
  have D_kind_of : Dfn K mg "kind_of" s_kind_of ["family", "apart", "across"] := ⟨_, _, F_kind_of, PySem.W.mg_of X G a_kind_of, b_kind_of⟩
  have F_F_check_point := fun_mk (st := s_F_check_point) l_F_check_point c_F_check_point k_F_check_point
  have b_F_check_point := F_F_check_point.binds (ps := ["self", "point"]) fun _ _ _ _ _ _ us hl => match us, hl with | [_, _], _ => rfl
  have D_F_check_point : Mtd K C "check_point" "Family.check_point" s_F_check_point ["self", "point"] := ⟨_, _, F_F_check_point, ⟨a_F_check_point, i_F_check_point, k_F_check_point⟩, b_F_check_point⟩
  have F_agreement := fun_mk (st := s_agreement) l_agreement c_agreement k_agreement
  have b_agreement := F_agreement.binds (ps := ["family", "cell", "other"]) fun _ _ _ _ _ _ us hl => match us, hl with | [_, _, _], _ => rfl
  have D_agreement : Dfn K mg "agreement" s_agreement ["family", "cell", "other"] := ⟨_, _, F_agreement, PySem.W.mg_of X G a_agreement, b_agreement⟩
  have F_is_prime := fun_mk (st := s_is_prime) l_is_prime c_is_prime k_is_prime
  have b_is_prime := F_is_prime.binds (ps := ["number"]) fun _ _ _ _ _ _ us hl => match us, hl with | [_], _ => rfl
  have D_is_prime : Dfn K mg "is_prime" s_is_prime ["number"] := ⟨_, _, F_is_prime, PySem.W.mg_of X G a_is_prime, b_is_prime⟩
  have F_is_field := fun_mk (st := s_is_field) l_is_field c_is_field k_is_field
  have b_is_field := F_is_field.binds (ps := ["prime", "degree"]) fun _ _ _ _ _ _ us hl => match us, hl with | [_, _], _ => rfl
  have D_is_field : Dfn K mg "is_field" s_is_field ["prime", "degree"] := ⟨_, _, F_is_field, PySem.W.mg_of X G a_is_field, b_is_field⟩
  have F_check_field := fun_mk (st := s_check_field) l_check_field c_check_field k_check_field
  have b_check_field := F_check_field.binds (ps := ["prime", "degree"]) fun _ _ _ _ _ _ us hl => match us, hl with | [_, _], _ => rfl
  have D_check_field : Dfn K mg "check_field" s_check_field ["prime", "degree"] := ⟨_, _, F_check_field, PySem.W.mg_of X G a_check_field, b_check_field⟩
  have F_trimmed := fun_mk (st := s_trimmed) l_trimmed c_trimmed k_trimmed
  have b_trimmed := F_trimmed.binds (ps := ["figures"]) fun _ _ _ _ _ _ us hl => match us, hl with | [_], _ => rfl
  have D_trimmed : Dfn K mg "trimmed" s_trimmed ["figures"] := ⟨_, _, F_trimmed, PySem.W.mg_of X G a_trimmed, b_trimmed⟩
  have F_turned_round := fun_mk (st := s_turned_round) l_turned_round c_turned_round k_turned_round
  have b_turned_round := F_turned_round.binds (ps := ["prime", "number"]) fun _ _ _ _ _ _ us hl => match us, hl with | [_, _], _ => rfl
  have D_turned_round : Dfn K mg "turned_round" s_turned_round ["prime", "number"] := ⟨_, _, F_turned_round, PySem.W.mg_of X G a_turned_round, b_turned_round⟩
  have F_have_common := fun_mk (st := s_have_common) l_have_common c_have_common k_have_common
  have b_have_common := F_have_common.binds (ps := ["prime", "one", "other"]) fun _ _ _ _ _ _ us hl => match us, hl with | [_, _, _], _ => rfl
  have D_have_common : Dfn K mg "have_common" s_have_common ["prime", "one", "other"] := ⟨_, _, F_have_common, PySem.W.mg_of X G a_have_common, b_have_common⟩
  have F_is_irreducible := fun_mk (st := s_is_irreducible) l_is_irreducible c_is_irreducible k_is_irreducible
  have b_is_irreducible := F_is_irreducible.binds (ps := ["prime", "lower"]) fun _ _ _ _ _ _ us hl => match us, hl with | [_, _], _ => rfl
  have D_is_irreducible : Dfn K mg "is_irreducible" s_is_irreducible ["prime", "lower"] := ⟨_, _, F_is_irreducible, PySem.W.mg_of X G a_is_irreducible, b_is_irreducible⟩
  have F_lower_of := fun_mk (st := s_lower_of) l_lower_of c_lower_of k_lower_of
  have b_lower_of := F_lower_of.binds (ps := ["prime", "degree"]) fun _ _ _ _ _ _ us hl => match us, hl with | [_, _], _ => rfl
  have D_lower_of : Dfn K mg "lower_of" s_lower_of ["prime", "degree"] := ⟨_, _, F_lower_of, PySem.W.mg_of X G a_lower_of, b_lower_of⟩
  have F_polynomial := fun_mk (st := s_polynomial) l_polynomial c_polynomial k_polynomial
  have b_polynomial := F_polynomial.binds (ps := ["prime", "degree"]) fun _ _ _ _ _ _ us hl => match us, hl with | [_, _], _ => rfl
  have D_polynomial : Dfn K mg "polynomial" s_polynomial ["prime", "degree"] := ⟨_, _, F_polynomial, PySem.W.mg_of X G a_polynomial, b_polynomial⟩
  have F_square_with := fun_mk (st := s_square_with) l_square_with c_square_with k_square_with
  have b_square_with := F_square_with.binds (ps := ["family", "row", "column", "sign"]) fun _ _ _ _ _ _ us hl => match us, hl with | [_, _, _, _], _ => rfl
  have D_square_with : Dfn K mg "square_with" s_square_with ["family", "row", "column", "sign"] := ⟨_, _, F_square_with, PySem.W.mg_of X G a_square_with, b_square_with⟩
  have F_is_prime_power := fun_mk (st := s_is_prime_power) l_is_prime_power c_is_prime_power k_is_prime_power
  have b_is_prime_power := F_is_prime_power.binds (ps := ["part"]) fun _ _ _ _ _ _ us hl => match us, hl with | [_], _ => rfl
  have D_is_prime_power : Dfn K mg "is_prime_power" s_is_prime_power ["part"] := ⟨_, _, F_is_prime_power, PySem.W.mg_of X G a_is_prime_power, b_is_prime_power⟩
  have F_checked_parts := fun_mk (st := s_checked_parts) l_checked_parts c_checked_parts k_checked_parts
  have b_checked_parts := F_checked_parts.binds (ps := ["parts"]) fun _ _ _ _ _ _ us hl => match us, hl with | [_], _ => rfl
  have D_checked_parts : Dfn K mg "checked_parts" s_checked_parts ["parts"] := ⟨_, _, F_checked_parts, PySem.W.mg_of X G a_checked_parts, b_checked_parts⟩
  have F_F_joined := fun_mk (st := s_F_joined) l_F_joined c_F_joined k_F_joined
  have b_F_joined := F_F_joined.binds (ps := ["self", "figures"]) fun _ _ _ _ _ _ us hl => match us, hl with | [_, _], _ => rfl
  have D_F_joined : Mtd K C "joined" "Family.joined" s_F_joined ["self", "figures"] := ⟨_, _, F_F_joined, ⟨a_F_joined, i_F_joined, k_F_joined⟩, b_F_joined⟩
  have F_F_init := fun_mk (st := s_F_init) l_F_init c_F_init k_F_init
  have b_F_init := F_F_init.binds (ps := ["self", "parts"]) fun _ _ _ _ _ _ us hl => match us, hl with | [_, _], _ => rfl
  have D_F_init : Mtd K C "__init__" "Family.__init__" s_F_init ["self", "parts"] := ⟨_, _, F_F_init, ⟨a_F_init, i_F_init, k_F_init⟩, b_F_init⟩
  have F_sum_of := fun_mk (st := s_sum_of) l_sum_of c_sum_of k_sum_of
  have b_sum_of := F_sum_of.binds (ps := ["prime", "one", "other"]) fun _ _ _ _ _ _ us hl => match us, hl with | [_, _, _], _ => rfl
  have D_sum_of : Dfn K mg "sum_of" s_sum_of ["prime", "one", "other"] := ⟨_, _, F_sum_of, PySem.W.mg_of X G a_sum_of, b_sum_of⟩
  have F_F_combined := fun_mk (st := s_F_combined) l_F_combined c_F_combined k_F_combined
  have b_F_combined := F_F_combined.binds (ps := ["self", "point", "other", "kind", "together"]) fun _ _ _ _ _ _ us hl => match us, hl with | [_, _, _, _, _], _ => rfl
  have D_F_combined : Mtd K C "combined" "Family.combined" s_F_combined ["self", "point", "other", "kind", "together"] := ⟨_, _, F_F_combined, ⟨a_F_combined, i_F_combined, k_F_combined⟩, b_F_combined⟩
  have F_F_divided := fun_mk (st := s_F_divided) l_F_divided c_F_divided k_F_divided
  have b_F_divided := F_F_divided.binds (ps := ["self", "point", "kind", "other"]) fun _ _ _ _ _ _ us hl => match us, hl with | [_, _, _, _], _ => rfl
  have D_F_divided : Mtd K C "divided" "Family.divided" s_F_divided ["self", "point", "kind", "other"] := ⟨_, _, F_F_divided, ⟨a_F_divided, i_F_divided, k_F_divided⟩, b_F_divided⟩
  have F_F_cell_of := fun_mk (st := s_F_cell_of) l_F_cell_of c_F_cell_of k_F_cell_of
  have b_F_cell_of := F_F_cell_of.binds (ps := ["self", "one", "other"]) fun _ _ _ _ _ _ us hl => match us, hl with | [_, _, _], _ => rfl
  have D_F_cell_of : Mtd K C "cell_of" "Family.cell_of" s_F_cell_of ["self", "one", "other"] := ⟨_, _, F_F_cell_of, ⟨a_F_cell_of, i_F_cell_of, k_F_cell_of⟩, b_F_cell_of⟩
  have F_F_check_kind := fun_mk (st := s_F_check_kind) l_F_check_kind c_F_check_kind k_F_check_kind
  have b_F_check_kind := F_F_check_kind.binds (ps := ["self", "kind"]) fun _ _ _ _ _ _ us hl => match us, hl with | [_, _], _ => rfl
  have D_F_check_kind : Mtd K C "check_kind" "Family.check_kind" s_F_check_kind ["self", "kind"] := ⟨_, _, F_F_check_kind, ⟨a_F_check_kind, i_F_check_kind, k_F_check_kind⟩, b_F_check_kind⟩
  have F_F_cell := fun_mk (st := s_F_cell) l_F_cell c_F_cell k_F_cell
  have b_F_cell := F_F_cell.binds (ps := ["self", "one", "other"]) fun _ _ _ _ _ _ us hl => match us, hl with | [_, _, _], _ => rfl
  have D_F_cell : Mtd K C "cell" "Family.cell" s_F_cell ["self", "one", "other"] := ⟨_, _, F_F_cell, ⟨a_F_cell, i_F_cell, k_F_cell⟩, b_F_cell⟩
  have F_F_check_square := fun_mk (st := s_F_check_square) l_F_check_square c_F_check_square k_F_check_square
  have b_F_check_square := F_F_check_square.binds (ps := ["self", "number"]) fun _ _ _ _ _ _ us hl => match us, hl with | [_, _], _ => rfl
  have D_F_check_square : Mtd K C "check_square" "Family.check_square" s_F_check_square ["self", "number"] := ⟨_, _, F_F_check_square, ⟨a_F_check_square, i_F_check_square, k_F_check_square⟩, b_F_check_square⟩
  have F_F_at_cell := fun_mk (st := s_F_at_cell) l_F_at_cell c_F_at_cell k_F_at_cell
  have b_F_at_cell := F_F_at_cell.binds (ps := ["self", "row", "column", "kind"]) fun _ _ _ _ _ _ us hl => match us, hl with | [_, _, _, _], _ => rfl
  have D_F_at_cell : Mtd K C "at_cell" "Family.at_cell" s_F_at_cell ["self", "row", "column", "kind"] := ⟨_, _, F_F_at_cell, ⟨a_F_at_cell, i_F_at_cell, k_F_at_cell⟩, b_F_at_cell⟩
  have F_F_told := fun_mk (st := s_F_told) l_F_told c_F_told k_F_told
  have b_F_told := F_F_told.binds (ps := ["self", "one", "other", "wanted"]) fun _ _ _ _ _ _ us hl => match us, hl with | [_, _, _, _], _ => rfl
  have D_F_told : Mtd K C "told" "Family.told" s_F_told ["self", "one", "other", "wanted"] := ⟨_, _, F_F_told, ⟨a_F_told, i_F_told, k_F_told⟩, b_F_told⟩
  have F_F_column_for := fun_mk (st := s_F_column_for) l_F_column_for c_F_column_for k_F_column_for
  have b_F_column_for := F_F_column_for.binds (ps := ["self", "number", "row", "sign"]) fun _ _ _ _ _ _ us hl => match us, hl with | [_, _, _, _], _ => rfl
  have D_F_column_for : Mtd K C "column_for" "Family.column_for" s_F_column_for ["self", "number", "row", "sign"] := ⟨_, _, F_F_column_for, ⟨a_F_column_for, i_F_column_for, k_F_column_for⟩, b_F_column_for⟩
  have F_F_row_for := fun_mk (st := s_F_row_for) l_F_row_for c_F_row_for k_F_row_for
  have b_F_row_for := F_F_row_for.binds (ps := ["self", "number", "column", "sign"]) fun _ _ _ _ _ _ us hl => match us, hl with | [_, _, _, _], _ => rfl
  have D_F_row_for : Mtd K C "row_for" "Family.row_for" s_F_row_for ["self", "number", "column", "sign"] := ⟨_, _, F_F_row_for, ⟨a_F_row_for, i_F_row_for, k_F_row_for⟩, b_F_row_for⟩
  have F_F_sign := fun_mk (st := s_F_sign) l_F_sign c_F_sign k_F_sign
  have b_F_sign := F_F_sign.binds (ps := ["self", "number", "row", "column"]) fun _ _ _ _ _ _ us hl => match us, hl with | [_, _, _, _], _ => rfl
  have D_F_sign : Mtd K C "sign" "Family.sign" s_F_sign ["self", "number", "row", "column"] := ⟨_, _, F_F_sign, ⟨a_F_sign, i_F_sign, k_F_sign⟩, b_F_sign⟩
  have F_F_word := fun_mk (st := s_F_word) l_F_word c_F_word k_F_word
  have b_F_word := F_F_word.binds (ps := ["self", "row", "column", "kinds"]) fun _ _ _ _ _ _ us hl => match us, hl with | [_, _, _, _], _ => rfl
  have D_F_word : Mtd K C "word" "Family.word" s_F_word ["self", "row", "column", "kinds"] := ⟨_, _, F_F_word, ⟨a_F_word, i_F_word, k_F_word⟩, b_F_word⟩
  have F_law := fun_mk (st := s_law) l_law c_law k_law
  refine ⟨PySem.W.fnOf "law" "law" (defArgs s_law) (defBody s_law) (defScope s_law) .none kV_law dc_law pm_law an_law cd_law ct_law, fun s v => .of_eq rfl, fun base _ _ => ?_⟩
  have G__law_great := ok__law_great (P := l.prog) (w := w) (base := base) T D__law_great 
  have G__law_size := ok__law_size (P := l.prog) (w := w) (base := base) T D__law_size 
  have G__law_joined := ok__law_joined (P := l.prog) (w := w) (base := base) T D__law_joined G__law_size
  have G__law_figures := ok__law_figures (P := l.prog) (w := w) (base := base) T D__law_figures 
  have G__law_number := ok__law_number (P := l.prog) (w := w) (base := base) T D__law_number 
  have G__law_plus := ok__law_plus (P := l.prog) (w := w) (base := base) T D__law_plus G__law_figures G__law_number
  have G__law_split := ok__law_split (P := l.prog) (w := w) (base := base) T D__law_split G__law_size
  have G__law_times := ok__law_times (P := l.prog) (w := w) (base := base) T D__law_times G__law_figures G__law_number
  have G__law_has := ok__law_has (P := l.prog) (w := w) (base := base) T D__law_has G__law_joined G__law_plus G__law_split G__law_times
  have G__law_long := ok__law_long (P := l.prog) (w := w) (base := base) T D__law_long 
  have G__law_many := ok__law_many (P := l.prog) (w := w) (base := base) T D__law_many G__law_size
  have G__law_row := ok__law_row (P := l.prog) (w := w) (base := base) T D__law_row 
  have G__law_numbers := ok__law_numbers (P := l.prog) (w := w) (base := base) T D__law_numbers G__law_row
  have G__law_order := ok__law_order (P := l.prog) (w := w) (base := base) T D__law_order G__law_size
  have G_less_of := ok_less_of (P := l.prog) (w := w) (base := base) T D_less_of 
  have G_F_split := ok_F_split (P := l.prog) (w := w) (base := base) T D_F_split 
  have G_apart_of := ok_apart_of (P := l.prog) (w := w) (base := base) T D_apart_of G_less_of G_F_split
  have G_figures_of := ok_figures_of (P := l.prog) (w := w) (base := base) T D_figures_of 
  have G_number_of := ok_number_of (P := l.prog) (w := w) (base := base) T D_number_of 
  have G_multiplied := ok_multiplied (P := l.prog) (w := w) (base := base) T D_multiplied 
  have G_remainder := ok_remainder (P := l.prog) (w := w) (base := base) T D_remainder 
  have G_raised := ok_raised (P := l.prog) (w := w) (base := base) T D_raised G_multiplied G_remainder
  have G_power_of := ok_power_of (P := l.prog) (w := w) (base := base) T D_power_of G_figures_of G_number_of G_raised
  have G_size_of := ok_size_of (P := l.prog) (w := w) (base := base) T D_size_of 
  have G_inverse_of := ok_inverse_of (P := l.prog) (w := w) (base := base) T D_inverse_of G_power_of G_size_of
  have G_product_of := ok_product_of (P := l.prog) (w := w) (base := base) T D_product_of G_figures_of G_multiplied G_number_of G_remainder
  have G_kind_of := ok_kind_of (P := l.prog) (w := w) (base := base) T D_kind_of G_inverse_of G_product_of
  have G_F_check_point := ok_F_check_point (P := l.prog) (w := w) (base := base) T D_F_check_point 
  have G_agreement := ok_agreement (P := l.prog) (w := w) (base := base) T D_agreement G_apart_of G_kind_of G_F_check_point
  have G_is_prime := ok_is_prime (P := l.prog) (w := w) (base := base) T D_is_prime 
  have G_is_field := ok_is_field (P := l.prog) (w := w) (base := base) T D_is_field G_is_prime G_size_of
  have G_check_field := ok_check_field (P := l.prog) (w := w) (base := base) T D_check_field G_is_field
  have G_trimmed := ok_trimmed (P := l.prog) (w := w) (base := base) T D_trimmed 
  have G_turned_round := ok_turned_round (P := l.prog) (w := w) (base := base) T D_turned_round 
  have G_have_common := ok_have_common (P := l.prog) (w := w) (base := base) T D_have_common G_remainder G_trimmed G_turned_round
  have G_is_irreducible := ok_is_irreducible (P := l.prog) (w := w) (base := base) T D_is_irreducible G_have_common G_raised G_remainder
  have G_lower_of := ok_lower_of (P := l.prog) (w := w) (base := base) T D_lower_of G_figures_of G_is_irreducible
  have G_polynomial := ok_polynomial (P := l.prog) (w := w) (base := base) T D_polynomial G_check_field G_lower_of
  have G_square_with := ok_square_with (P := l.prog) (w := w) (base := base) T D_square_with G_apart_of G_kind_of G_F_check_point G_F_split
  have G_is_prime_power := ok_is_prime_power (P := l.prog) (w := w) (base := base) T D_is_prime_power G_is_field
  have G_checked_parts := ok_checked_parts (P := l.prog) (w := w) (base := base) T D_checked_parts G_is_prime_power G_size_of
  have G_F_joined := ok_F_joined (P := l.prog) (w := w) (base := base) T D_F_joined 
  have G_F_init := ok_F_init (P := l.prog) (w := w) (base := base) T D_F_init G_checked_parts G_lower_of G_size_of G_F_joined
  have G_sum_of := ok_sum_of (P := l.prog) (w := w) (base := base) T D_sum_of 
  have G_F_combined := ok_F_combined (P := l.prog) (w := w) (base := base) T D_F_combined G_product_of G_F_joined G_F_split G_sum_of G_less_of
  have G_F_divided := ok_F_divided (P := l.prog) (w := w) (base := base) T D_F_divided G_inverse_of G_less_of G_product_of G_F_joined G_F_split
  have G_F_cell_of := ok_F_cell_of (P := l.prog) (w := w) (base := base) T D_F_cell_of G_F_combined G_F_divided
  have G_F_check_kind := ok_F_check_kind (P := l.prog) (w := w) (base := base) T D_F_check_kind 
  have G_F_cell := ok_F_cell (P := l.prog) (w := w) (base := base) T D_F_cell G_F_cell_of G_F_check_kind G_F_check_point
  have G_F_check_square := ok_F_check_square (P := l.prog) (w := w) (base := base) T D_F_check_square 
  have G_F_at_cell := ok_F_at_cell (P := l.prog) (w := w) (base := base) T D_F_at_cell G_F_combined
  have G_F_told := ok_F_told (P := l.prog) (w := w) (base := base) T D_F_told G_F_at_cell G_F_cell G_F_check_kind
  have G_F_column_for := ok_F_column_for (P := l.prog) (w := w) (base := base) T D_F_column_for G_F_check_square G_F_told
  have G_F_row_for := ok_F_row_for (P := l.prog) (w := w) (base := base) T D_F_row_for G_F_check_square G_F_told
  have G_F_sign := ok_F_sign (P := l.prog) (w := w) (base := base) T D_F_sign G_F_check_square G_F_told
  have G_F_word := ok_F_word (P := l.prog) (w := w) (base := base) T D_F_word G_F_at_cell G_F_check_kind G_F_check_point
  exact ok_law T F_law G__law_great G__law_has G__law_long G__law_many G__law_numbers G__law_order G_agreement G_polynomial G_square_with G_F_init G_F_cell G_F_column_for G_F_row_for G_F_sign G_F_told G_F_word ⟨mk, kc⟩
end
end Msw
section
open PySem PySem.W PyProof.Rows
set_option maxHeartbeats 0
open_top hd for PySem.Challenge.rw_matedsquares_k45_whole_great_families
end
open PySem PySem.W PyProof.Rows
set_option maxRecDepth 100000 in
set_option maxHeartbeats 0 in
theorem PySem.Challenge.cw_matedsquares_k45_whole_great_families_holds : PySem.Challenge.rw_matedsquares_k45_whole_great_families.Holds := by
  refine hd ?_
  k_fill
  refine L2.walk_ofK (l := PySem.Challenge.rw_matedsquares_k45_whole_great_families) (n := 63) (k := 10) (x := "_law_script") (CX := L2.CX0) (sp := Msw.sp_law) rfl (by decide) rfl ⟨rfl, by decide, by decide⟩ (fun w h Y => PySem.W.kIn_of Y) ?F (fun K H a ns h1 _ hS => ⟨a, ns, rfl, hS, h1, fun _ => rfl⟩) (fun _ _ _ _ z => z)
  case F =>
    intro w mg fa h KX G hmg
    refine' Msw.all_mk KX G hmg ?aC ?a__law_great ?l__law_great ?c__law_great ?k__law_great ?a__law_size ?l__law_size ?c__law_size ?k__law_size ?a__law_joined ?l__law_joined ?c__law_joined ?k__law_joined ?a__law_figures ?l__law_figures ?c__law_figures ?k__law_figures ?a__law_number ?l__law_number ?c__law_number ?k__law_number ?a__law_plus ?l__law_plus ?c__law_plus ?k__law_plus ?a__law_split ?l__law_split ?c__law_split ?k__law_split ?a__law_times ?l__law_times ?c__law_times ?k__law_times ?a__law_has ?l__law_has ?c__law_has ?k__law_has ?a__law_long ?l__law_long ?c__law_long ?k__law_long ?a__law_many ?l__law_many ?c__law_many ?k__law_many ?a__law_row ?l__law_row ?c__law_row ?k__law_row ?a__law_numbers ?l__law_numbers ?c__law_numbers ?k__law_numbers ?a__law_order ?l__law_order ?c__law_order ?k__law_order ?a_less_of ?l_less_of ?c_less_of ?k_less_of ?a_F_split ?i_F_split ?l_F_split ?c_F_split ?k_F_split ?a_apart_of ?l_apart_of ?c_apart_of ?k_apart_of ?a_figures_of ?l_figures_of ?c_figures_of ?k_figures_of ?a_number_of ?l_number_of ?c_number_of ?k_number_of ?a_multiplied ?l_multiplied ?c_multiplied ?k_multiplied ?a_remainder ?l_remainder ?c_remainder ?k_remainder ?a_raised ?l_raised ?c_raised ?k_raised ?a_power_of ?l_power_of ?c_power_of ?k_power_of ?a_size_of ?l_size_of ?c_size_of ?k_size_of ?a_inverse_of ?l_inverse_of ?c_inverse_of ?k_inverse_of ?a_product_of ?l_product_of ?c_product_of ?k_product_of ?a_kind_of ?l_kind_of ?c_kind_of ?k_kind_of ?a_F_check_point ?i_F_check_point ?l_F_check_point ?c_F_check_point ?k_F_check_point ?a_agreement ?l_agreement ?c_agreement ?k_agreement ?a_is_prime ?l_is_prime ?c_is_prime ?k_is_prime ?a_is_field ?l_is_field ?c_is_field ?k_is_field ?a_check_field ?l_check_field ?c_check_field ?k_check_field ?a_trimmed ?l_trimmed ?c_trimmed ?k_trimmed ?a_turned_round ?l_turned_round ?c_turned_round ?k_turned_round ?a_have_common ?l_have_common ?c_have_common ?k_have_common ?a_is_irreducible ?l_is_irreducible ?c_is_irreducible ?k_is_irreducible ?a_lower_of ?l_lower_of ?c_lower_of ?k_lower_of ?a_polynomial ?l_polynomial ?c_polynomial ?k_polynomial ?a_square_with ?l_square_with ?c_square_with ?k_square_with ?a_is_prime_power ?l_is_prime_power ?c_is_prime_power ?k_is_prime_power ?a_checked_parts ?l_checked_parts ?c_checked_parts ?k_checked_parts ?a_F_joined ?i_F_joined ?l_F_joined ?c_F_joined ?k_F_joined ?a_F_init ?i_F_init ?l_F_init ?c_F_init ?k_F_init ?a_sum_of ?l_sum_of ?c_sum_of ?k_sum_of ?a_F_combined ?i_F_combined ?l_F_combined ?c_F_combined ?k_F_combined ?a_F_divided ?i_F_divided ?l_F_divided ?c_F_divided ?k_F_divided ?a_F_cell_of ?i_F_cell_of ?l_F_cell_of ?c_F_cell_of ?k_F_cell_of ?a_F_check_kind ?i_F_check_kind ?l_F_check_kind ?c_F_check_kind ?k_F_check_kind ?a_F_cell ?i_F_cell ?l_F_cell ?c_F_cell ?k_F_cell ?a_F_check_square ?i_F_check_square ?l_F_check_square ?c_F_check_square ?k_F_check_square ?a_F_at_cell ?i_F_at_cell ?l_F_at_cell ?c_F_at_cell ?k_F_at_cell ?a_F_told ?i_F_told ?l_F_told ?c_F_told ?k_F_told ?a_F_column_for ?i_F_column_for ?l_F_column_for ?c_F_column_for ?k_F_column_for ?a_F_row_for ?i_F_row_for ?l_F_row_for ?c_F_row_for ?k_F_row_for ?a_F_sign ?i_F_sign ?l_F_sign ?c_F_sign ?k_F_sign ?a_F_word ?i_F_word ?l_F_word ?c_F_word ?k_F_word ?a_law ?l_law ?c_law ?k_law ?pg ?hd ?po ?sa ?mk ?kc ?n_parts ?n_sizes ?n_many ?n_lowers ?n_order ?z_abs ?z_all ?z_enumerate ?z_int ?z_isinstance ?z_len ?z_list ?z_max ?z_min ?z_range ?z_repr ?z_tuple ?z_zip ?g_COLUMN ?g_MOST_BASE ?g_MOST_DEGREE ?g_MOST_ORDER ?g_MOST_PRIME ?g_MOST_SIZE ?g_ROW
    case aC => k_is
    case a__law_great => k_is
    case l__law_great => k_is
    case c__law_great => k_is
    case k__law_great => k_is
    case a__law_size => k_is
    case l__law_size => k_is
    case c__law_size => k_is
    case k__law_size => k_is
    case a__law_joined => k_is
    case l__law_joined => k_is
    case c__law_joined => k_is
    case k__law_joined => k_is
    case a__law_figures => k_is
    case l__law_figures => k_is
    case c__law_figures => k_is
    case k__law_figures => k_is
    case a__law_number => k_is
    case l__law_number => k_is
    case c__law_number => k_is
    case k__law_number => k_is
    case a__law_plus => k_is
    case l__law_plus => k_is
    case c__law_plus => k_is
    case k__law_plus => k_is
    case a__law_split => k_is
    case l__law_split => k_is
    case c__law_split => k_is
    case k__law_split => k_is
    case a__law_times => k_is
    case l__law_times => k_is
    case c__law_times => k_is
    case k__law_times => k_is
    case a__law_has => k_is
    case l__law_has => k_is
    case c__law_has => k_is
    case k__law_has => k_is
    case a__law_long => k_is
    case l__law_long => k_is
    case c__law_long => k_is
    case k__law_long => k_is
    case a__law_many => k_is
    case l__law_many => k_is
    case c__law_many => k_is
    case k__law_many => k_is
    case a__law_row => k_is
    case l__law_row => k_is
    case c__law_row => k_is
    case k__law_row => k_is
    case a__law_numbers => k_is
    case l__law_numbers => k_is
    case c__law_numbers => k_is
    case k__law_numbers => k_is
    case a__law_order => k_is
    case l__law_order => k_is
    case c__law_order => k_is
    case k__law_order => k_is
    case a_less_of => k_is
    case l_less_of => k_is
    case c_less_of => k_is
    case k_less_of => k_is
    case a_F_split => k_is
    case i_F_split => k_is
    case l_F_split => k_is
    case c_F_split => k_is
    case k_F_split => k_is
    case a_apart_of => k_is
    case l_apart_of => k_is
    case c_apart_of => k_is
    case k_apart_of => k_is
    case a_figures_of => k_is
    case l_figures_of => k_is
    case c_figures_of => k_is
    case k_figures_of => k_is
    case a_number_of => k_is
    case l_number_of => k_is
    case c_number_of => k_is
    case k_number_of => k_is
    case a_multiplied => k_is
    case l_multiplied => k_is
    case c_multiplied => k_is
    case k_multiplied => k_is
    case a_remainder => k_is
    case l_remainder => k_is
    case c_remainder => k_is
    case k_remainder => k_is
    case a_raised => k_is
    case l_raised => k_is
    case c_raised => k_is
    case k_raised => k_is
    case a_power_of => k_is
    case l_power_of => k_is
    case c_power_of => k_is
    case k_power_of => k_is
    case a_size_of => k_is
    case l_size_of => k_is
    case c_size_of => k_is
    case k_size_of => k_is
    case a_inverse_of => k_is
    case l_inverse_of => k_is
    case c_inverse_of => k_is
    case k_inverse_of => k_is
    case a_product_of => k_is
    case l_product_of => k_is
    case c_product_of => k_is
    case k_product_of => k_is
    case a_kind_of => k_is
    case l_kind_of => k_is
    case c_kind_of => k_is
    case k_kind_of => k_is
    case a_F_check_point => k_is
    case i_F_check_point => k_is
    case l_F_check_point => k_is
    case c_F_check_point => k_is
    case k_F_check_point => k_is
    case a_agreement => k_is
    case l_agreement => k_is
    case c_agreement => k_is
    case k_agreement => k_is
    case a_is_prime => k_is
    case l_is_prime => k_is
    case c_is_prime => k_is
    case k_is_prime => k_is
    case a_is_field => k_is
    case l_is_field => k_is
    case c_is_field => k_is
    case k_is_field => k_is
    case a_check_field => k_is
    case l_check_field => k_is
    case c_check_field => k_is
    case k_check_field => k_is
    case a_trimmed => k_is
    case l_trimmed => k_is
    case c_trimmed => k_is
    case k_trimmed => k_is
    case a_turned_round => k_is
    case l_turned_round => k_is
    case c_turned_round => k_is
    case k_turned_round => k_is
    case a_have_common => k_is
    case l_have_common => k_is
    case c_have_common => k_is
    case k_have_common => k_is
    case a_is_irreducible => k_is
    case l_is_irreducible => k_is
    case c_is_irreducible => k_is
    case k_is_irreducible => k_is
    case a_lower_of => k_is
    case l_lower_of => k_is
    case c_lower_of => k_is
    case k_lower_of => k_is
    case a_polynomial => k_is
    case l_polynomial => k_is
    case c_polynomial => k_is
    case k_polynomial => k_is
    case a_square_with => k_is
    case l_square_with => k_is
    case c_square_with => k_is
    case k_square_with => k_is
    case a_is_prime_power => k_is
    case l_is_prime_power => k_is
    case c_is_prime_power => k_is
    case k_is_prime_power => k_is
    case a_checked_parts => k_is
    case l_checked_parts => k_is
    case c_checked_parts => k_is
    case k_checked_parts => k_is
    case a_F_joined => k_is
    case i_F_joined => k_is
    case l_F_joined => k_is
    case c_F_joined => k_is
    case k_F_joined => k_is
    case a_F_init => k_is
    case i_F_init => k_is
    case l_F_init => k_is
    case c_F_init => k_is
    case k_F_init => k_is
    case a_sum_of => k_is
    case l_sum_of => k_is
    case c_sum_of => k_is
    case k_sum_of => k_is
    case a_F_combined => k_is
    case i_F_combined => k_is
    case l_F_combined => k_is
    case c_F_combined => k_is
    case k_F_combined => k_is
    case a_F_divided => k_is
    case i_F_divided => k_is
    case l_F_divided => k_is
    case c_F_divided => k_is
    case k_F_divided => k_is
    case a_F_cell_of => k_is
    case i_F_cell_of => k_is
    case l_F_cell_of => k_is
    case c_F_cell_of => k_is
    case k_F_cell_of => k_is
    case a_F_check_kind => k_is
    case i_F_check_kind => k_is
    case l_F_check_kind => k_is
    case c_F_check_kind => k_is
    case k_F_check_kind => k_is
    case a_F_cell => k_is
    case i_F_cell => k_is
    case l_F_cell => k_is
    case c_F_cell => k_is
    case k_F_cell => k_is
    case a_F_check_square => k_is
    case i_F_check_square => k_is
    case l_F_check_square => k_is
    case c_F_check_square => k_is
    case k_F_check_square => k_is
    case a_F_at_cell => k_is
    case i_F_at_cell => k_is
    case l_F_at_cell => k_is
    case c_F_at_cell => k_is
    case k_F_at_cell => k_is
    case a_F_told => k_is
    case i_F_told => k_is
    case l_F_told => k_is
    case c_F_told => k_is
    case k_F_told => k_is
    case a_F_column_for => k_is
    case i_F_column_for => k_is
    case l_F_column_for => k_is
    case c_F_column_for => k_is
    case k_F_column_for => k_is
    case a_F_row_for => k_is
    case i_F_row_for => k_is
    case l_F_row_for => k_is
    case c_F_row_for => k_is
    case k_F_row_for => k_is
    case a_F_sign => k_is
    case i_F_sign => k_is
    case l_F_sign => k_is
    case c_F_sign => k_is
    case k_F_sign => k_is
    case a_F_word => k_is
    case i_F_word => k_is
    case l_F_word => k_is
    case c_F_word => k_is
    case k_F_word => k_is
    case a_law => k_is
    case l_law => k_is
    case c_law => k_is
    case k_law => k_is
    case pg => k_is
    case hd => k_is
    case po => k_is
    case sa => k_is
    case mk => k_is
    case kc => k_is
    case n_parts => k_is
    case n_sizes => k_is
    case n_many => k_is
    case n_lowers => k_is
    case n_order => k_is
    case z_abs => k_is
    case z_all => k_is
    case z_enumerate => k_is
    case z_int => k_is
    case z_isinstance => k_is
    case z_len => k_is
    case z_list => k_is
    case z_max => k_is
    case z_min => k_is
    case z_range => k_is
    case z_repr => k_is
    case z_tuple => k_is
    case z_zip => k_is
    case g_COLUMN => k_is
    case g_MOST_BASE => k_is
    case g_MOST_DEGREE => k_is
    case g_MOST_ORDER => k_is
    case g_MOST_PRIME => k_is
    case g_MOST_SIZE => k_is
    case g_ROW => k_is
