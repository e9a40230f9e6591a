import PyProof.Rows.All
import Wide.All
import OpenK.AllK
import Wide.FinOn
import KE.KStateDown
import Lean
import HandS.Deep
import HandS.Defaults
import HandS.ForMost
import HandS.Head0
import HandS.Head1
import HandS.Head2
import HandS.HeadEnd
import HandS.HeadHook1
import HandS.HeadHook2
import HandS.IsInst
import HandS.RaiseMore
import HandS.SetFor
import HandS.Style
import HandS.TupAny
import HandS.TupMul
import HandS.Wide
import HandS.WideBits
import HandS.Zip
import KE.GoesMore
import PyProof.CallFns
import PyProof.EqLayable
import PyProof.NoPylong
import PyProof.ReprReads
import PyProof.Rows.StrBin
import PySem.Builtin.IntDigits
import PySem.Challenge.RW_bentpieces_k11_any_value_as_poly_and_tol
set_option Elab.async false
set_option linter.all false
set_option maxRecDepth 100000
set_option maxHeartbeats 0
set_option exponentiation.threshold 300
namespace BP
/-! ### polynomials as lists of numbers -/
def ev : List Rat → Rat → Rat
  | [], _ => 0
  | a :: p, x => a + x * ev p x
def strip : List Rat → List Rat
  | [] => []
  | a :: p => if a = 0 ∧ strip p = [] then [] else a :: strip p
@[simp] theorem ev_nil (x : Rat) : ev [] x = 0 := rfl
@[simp] theorem ev_cons (a : Rat) (p : List Rat) (x : Rat) : ev (a :: p) x = a + x * ev p x := rfl
@[simp] theorem ev_strip : ∀ (p : List Rat) (x : Rat), ev (strip p) x = ev p x
  | [], _ => rfl
  | a :: p, x => by
    have ih := ev_strip p x
    unfold strip
    split
    · rename_i h
      rw [h.2] at ih
      simp at ih
      simp [h.1, ← ih]
      grind
    · simp [ih]
/-- the number at a place, 0 behind the end -/
def co (p : List Rat) (k : Nat) : Rat := p.getD k 0
@[simp] theorem co_nil (k : Nat) : co [] k = 0 := by simp [co]
@[simp] theorem co_cons0 (a : Rat) (p : List Rat) : co (a :: p) 0 = a := by simp [co]
@[simp] theorem co_consS (a : Rat) (p : List Rat) (k : Nat) : co (a :: p) (k + 1) = co p k := by simp [co]
theorem co_strip : ∀ (p : List Rat) (k : Nat), co (strip p) k = co p k
  | [], _ => rfl
  | a :: p, k => by
    unfold strip
    split
    · rename_i h
      cases k with
      | zero => simp [h.1]
      | succ k =>
        have ih := co_strip p k
        rw [h.2] at ih
        simpa using ih
    · cases k with
      | zero => simp
      | succ k => simpa using co_strip p k
theorem strip_nil_of : ∀ (p : List Rat), (∀ k, co p k = 0) → strip p = []
  | [], _ => rfl
  | a :: p, h => by
    have h0 := h 0
    have ih := strip_nil_of p fun k => by simpa using h (k + 1)
    simp at h0
    simp [strip, h0, ih]
theorem strip_eq_of : ∀ (p q : List Rat), (∀ k, co p k = co q k) → strip p = strip q
  | [], q, h => (strip_nil_of q fun k => by simpa using (h k).symm).symm
  | a :: p, [], h => strip_nil_of (a :: p) fun k => by simpa using h k
  | a :: p, b :: q, h => by
    have h0 := h 0
    have ih := strip_eq_of p q fun k => by simpa using h (k + 1)
    simp at h0
    simp [strip, h0, ih]
theorem strip_strip (p : List Rat) : strip (strip p) = strip p := strip_eq_of _ _ (co_strip p)
theorem strip_le : ∀ (p : List Rat), (strip p).length ≤ p.length
  | [] => Nat.le_refl _
  | a :: p => by
    have := strip_le p
    unfold strip
    split
    · simp
    · simp
      omega
theorem mem_strip {a : Rat} : ∀ {p : List Rat}, a ∈ strip p → a ∈ p
  | [], h => h
  | b :: p, h => by
    unfold strip at h
    split at h
    · simp at h
    · rcases List.mem_cons.mp h with h | h
      · exact h ▸ List.mem_cons_self
      · exact List.mem_cons_of_mem _ (mem_strip h)
/-! by a root: the rest -/
def syn (c : Rat) : List Rat → List Rat
  | [] => []
  | [_] => []
  | _ :: b :: p => ev (b :: p) c :: syn c (b :: p)
theorem syn_ev (c x : Rat) : ∀ (p : List Rat), ev p x - ev p c = (x - c) * ev (syn c p) x
  | [] => by simp [syn]; grind
  | [a] => by simp [syn]; grind
  | a :: b :: p => by
    have ih := syn_ev c x (b :: p)
    simp only [syn, ev_cons] at ih ⊢
    grind
theorem syn_len (c : Rat) : ∀ (p : List Rat), (syn c p).length = p.length - 1
  | [] => rfl
  | [a] => rfl
  | a :: b :: p => by
    have ih := syn_len c (b :: p)
    simp only [syn, List.length_cons] at ih ⊢
    omega
theorem syn_zero (c : Rat) : ∀ (p : List Rat), ev p c = 0 → (∀ a ∈ syn c p, a = 0) → ∀ a ∈ p, a = 0
  | [], _, _ => by simp
  | [a], h, _ => by
    simp at h ⊢
    grind
  | a :: b :: p, h, hs => by
    have h1 : ev (b :: p) c = 0 := hs _ (by simp [syn])
    have ih := syn_zero c (b :: p) h1 fun a ha => hs a (by simp only [syn]; exact List.mem_cons_of_mem _ ha)
    have h2 : a = 0 := by
      rw [ev_cons, h1] at h
      grind
    intro z hz
    rcases List.mem_cons.mp hz with hz | hz
    · rw [hz, h2]
    · exact ih z hz
/-- as many different roots as numbers: nought -/
theorem zero_of (s : Nat → Rat) (inj : ∀ i j, s i = s j → i = j) : ∀ (n : Nat) (p : List Rat), p.length ≤ n → (∀ i, i < n → ev p (s i) = 0) → ∀ a ∈ p, a = 0
  | 0, p, hl, _ => by
    have : p = [] := List.length_eq_zero_iff.mp (by omega)
    simp [this]
  | n + 1, p, hl, h => by
    refine syn_zero (s n) p (h n (by omega)) (zero_of s inj n (syn (s n) p) (by rw [syn_len]; omega) fun i hi => ?_)
    have e := syn_ev (s n) (s i) p
    rw [h i (by omega), h n (by omega)] at e
    have ne : s i - s n ≠ 0 := fun z => by
      have : s i = s n := by grind
      have := inj _ _ this
      omega
    have e2 : (s i - s n) * ev (syn (s n) p) (s i) = 0 := by grind
    rcases Rat.mul_eq_zero.mp e2 with z | z
    · exact absurd z ne
    · exact z
/-! sums -/
def padd : List Rat → List Rat → List Rat
  | [], q => q
  | p, [] => p
  | a :: p, b :: q => (a + b) :: padd p q
@[simp] theorem padd_nil (p : List Rat) : padd p [] = p := by cases p <;> rfl
@[simp] theorem nil_padd (p : List Rat) : padd [] p = p := by cases p <;> rfl
@[simp] theorem padd_cons (a b : Rat) (p q : List Rat) : padd (a :: p) (b :: q) = (a + b) :: padd p q := rfl
theorem ev_padd (x : Rat) : ∀ (p q : List Rat), ev (padd p q) x = ev p x + ev q x
  | [], q => by simp; grind
  | a :: p, [] => by simp; grind
  | a :: p, b :: q => by
    simp [ev_padd x p q]
    grind
theorem co_padd : ∀ (p q : List Rat) (k : Nat), co (padd p q) k = co p k + co q k
  | [], q, k => by simp; grind
  | a :: p, [], k => by simp; grind
  | a :: p, b :: q, 0 => by simp
  | a :: p, b :: q, k + 1 => by simpa using co_padd p q k
theorem padd_len : ∀ (p q : List Rat), (padd p q).length = max p.length q.length
  | [], q => by simp
  | a :: p, [] => by simp
  | a :: p, b :: q => by
    simp [padd_len p q]
/-! multiples -/
def pmulc (c : Rat) (p : List Rat) : List Rat := p.map (· * c)
theorem ev_pmulc (c x : Rat) : ∀ (p : List Rat), ev (pmulc c p) x = c * ev p x
  | [] => by simp [pmulc]
  | a :: p => by
    have ih := ev_pmulc c x p
    simp only [pmulc, List.map_cons, ev_cons] at ih ⊢
    grind
theorem co_pmulc (c : Rat) : ∀ (p : List Rat) (k : Nat), co (pmulc c p) k = co p k * c
  | [], k => by simp [pmulc]
  | a :: p, 0 => by simp [pmulc]
  | a :: p, k + 1 => by
    have ih := co_pmulc c p k
    simpa [pmulc] using ih
/-- by values: told ones are the same -/
theorem strip_ext {p q : List Rat} (h : ∀ n : Nat, ev p (n : Rat) = ev q (n : Rat)) : strip p = strip q := by
  refine strip_eq_of p q fun k => ?_
  have inj : ∀ i j : Nat, ((i : Nat) : Rat) = ((j : Nat) : Rat) → i = j := fun i j h => by exact_mod_cast h
  have z := zero_of (fun n => (n : Rat)) inj _ (padd p (pmulc (-1) q)) (Nat.le_refl _) fun i _ => by
    rw [ev_padd, ev_pmulc, h i]
    grind
  have e := co_padd p (pmulc (-1) q) k
  rw [co_pmulc] at e
  have e0 : co (padd p (pmulc (-1) q)) k = 0 := by
    unfold co
    by_cases hk : k < (padd p (pmulc (-1) q)).length
    · rw [List.getD_eq_getElem?_getD, List.getElem?_eq_getElem hk]
      exact z _ (List.getElem_mem hk)
    · rw [List.getD_eq_getElem?_getD, List.getElem?_eq_none (by omega)]
      rfl
  rw [e0] at e
  grind
/-! products, as a double loop makes them -/
def addAt (r : List Rat) (i : Nat) : List Rat → List Rat
  | [] => r
  | b :: q => addAt (r.set i (co r i + b)) (i + 1) q
theorem addAt_len : ∀ (q r : List Rat) (i : Nat), (addAt r i q).length = r.length
  | [], _, _ => rfl
  | b :: q, r, i => by
    rw [addAt, addAt_len q]
    simp
theorem ev_set (x b : Rat) : ∀ (r : List Rat) (i : Nat), i < r.length → ev (r.set i (co r i + b)) x = ev r x + x ^ i * b
  | [], i, h => by simp at h
  | a :: r, 0, h => by
    simp
    grind
  | a :: r, i + 1, h => by
    have ih := ev_set x b r i (by simpa using h)
    simp [ih, Rat.pow_succ]
    grind
theorem ev_addAt (x : Rat) : ∀ (q r : List Rat) (i : Nat), i + q.length ≤ r.length → ev (addAt r i q) x = ev r x + x ^ i * ev q x
  | [], r, i, h => by
    simp [addAt]
    grind
  | b :: q, r, i, h => by
    simp only [List.length_cons] at h
    rw [addAt, ev_addAt x q _ (i + 1) (by simp; omega), ev_set x b r i (by omega)]
    simp [Rat.pow_succ]
    grind
/-- row by row -/
def mulRows (q : List Rat) : List Rat → Nat → List Rat → List Rat
  | r, _, [] => r
  | r, i, a :: p => mulRows q (addAt r i (q.map (a * ·))) (i + 1) p
theorem ev_mapl (a x : Rat) : ∀ q : List Rat, ev (q.map (a * ·)) x = a * ev q x
  | [] => by simp
  | b :: q => by
    simp [ev_mapl a x q]
    grind
theorem mulRows_len (q : List Rat) : ∀ (p r : List Rat) (i : Nat), (mulRows q r i p).length = r.length
  | [], _, _ => rfl
  | a :: p, r, i => by rw [mulRows, mulRows_len q p, addAt_len]
theorem ev_mulRows (q : List Rat) (x : Rat) : ∀ (p r : List Rat) (i : Nat), i + p.length + q.length ≤ r.length → ev (mulRows q r i p) x = ev r x + x ^ i * (ev p x * ev q x)
  | [], r, i, h => by
    simp [mulRows]
    grind
  | a :: p, r, i, h => by
    simp only [List.length_cons] at h
    rw [mulRows, ev_mulRows q x p _ (i + 1) (by rw [addAt_len]; omega), ev_addAt x _ _ _ (by simp; omega), ev_mapl]
    simp [Rat.pow_succ]
    grind
def zeros (n : Nat) : List Rat := List.replicate n 0
@[simp] theorem ev_zeros (x : Rat) : ∀ n, ev (zeros n) x = 0
  | 0 => rfl
  | n + 1 => by
    have := ev_zeros x n
    unfold zeros at this ⊢
    simp [List.replicate_succ, this]
    grind
def pmul (p q : List Rat) : List Rat := mulRows q (zeros (p.length + q.length)) 0 p
theorem ev_pmul (p q : List Rat) (x : Rat) : ev (pmul p q) x = ev p x * ev q x := by
  unfold pmul
  rw [ev_mulRows q x p _ 0 (by simp [zeros])]
  simp
  grind
/-- how far a told poly reaches -/
theorem ev_append (x : Rat) : ∀ (p q : List Rat), ev (p ++ q) x = ev p x + x ^ p.length * ev q x
  | [], q => by simp; grind
  | a :: p, q => by
    simp [ev_append x p q, Rat.pow_succ]
    grind
end BP

namespace BP
/-! ### corners -/
def su (f : Nat → Rat) : Nat → Rat
  | 0 => 0
  | n + 1 => su f n + f n
theorem su_congr {f g : Nat → Rat} : ∀ {n : Nat}, (∀ k, k < n → f k = g k) → su f n = su g n
  | 0, _ => rfl
  | n + 1, h => by
    rw [su, su, su_congr fun k hk => h k (by omega), h n (by omega)]
theorem su_add (f g : Nat → Rat) : ∀ n, su (fun k => f k + g k) n = su f n + su g n
  | 0 => by simp [su]; grind
  | n + 1 => by
    rw [su, su, su, su_add f g n]
    grind
theorem su_mul (c : Rat) (f : Nat → Rat) : ∀ n, su (fun k => c * f k) n = c * su f n
  | 0 => by simp [su]
  | n + 1 => by
    rw [su, su, su_mul c f n]
    grind
theorem su_zero {f : Nat → Rat} : ∀ {n : Nat}, (∀ k, k < n → f k = 0) → su f n = 0
  | 0, _ => rfl
  | n + 1, h => by
    rw [su, su_zero fun k hk => h k (by omega), h n (by omega)]
    grind
/-- noughts behind -/
theorem su_more {f : Nat → Rat} {m : Nat} (h : ∀ k, m ≤ k → f k = 0) : ∀ d, su f (m + d) = su f m
  | 0 => rfl
  | d + 1 => by
    rw [← Nat.add_assoc, su, su_more h d, h _ (by omega)]
    grind
theorem su_head (f : Nat → Rat) : ∀ n, su f (n + 1) = f 0 + su (fun k => f (k + 1)) n
  | 0 => by simp [su]; grind
  | n + 1 => by
    rw [su, su_head f n, su]
    grind
def ch : Nat → Nat → Nat
  | _, 0 => 1
  | 0, _ + 1 => 0
  | n + 1, k + 1 => ch n k + ch n (k + 1)
theorem ev_co (x : Rat) : ∀ (p : List Rat) (n : Nat), p.length ≤ n → ev p x = su (fun k => co p k * x ^ k) n
  | [], n, _ => by
    rw [su_zero fun k _ => by simp]
    rfl
  | a :: p, 0, h => by simp at h
  | a :: p, n + 1, h => by
    have ih := ev_co x p n (by simpa using h)
    rw [su_head, ev_cons, ih, ← su_mul]
    simp only [co_cons0, co_consS, Rat.pow_zero, Rat.mul_one]
    congr 1
    refine su_congr fun k _ => ?_
    rw [Rat.pow_succ]
    grind
def bern (r : Nat → Rat) (n : Nat) (u : Rat) : Rat := su (fun i => r i * (ch n i : Rat) * (u ^ i * (1 - u) ^ (n - i))) (n + 1)
def uni (r : Nat → Rat) (n p : Nat) : Rat := su (fun i => (if (p - i) % 2 = 0 then 1 else -1) * (r i * (ch p i : Rat))) (p + 1) * (ch n p : Rat)
def crn (c : Nat → Rat) (n i : Nat) : Rat := su (fun k => c k * ((ch i k : Rat) / (ch n k : Rat))) (i + 1)
theorem bern_uni (r : Nat → Rat) (u : Rat) (n : Nat) (h : n ≤ 8) : su (fun p => uni r n p * u ^ p) (n + 1) = bern r n u := by
  match n with
  | 0 => simp [su, uni, bern, ch]; grind
  | 1 => simp [su, uni, bern, ch]; grind
  | 2 => simp [su, uni, bern, ch]; grind
  | 3 => simp [su, uni, bern, ch]; grind
  | 4 => simp [su, uni, bern, ch]; grind
  | 5 => simp [su, uni, bern, ch]; grind
  | 6 => simp [su, uni, bern, ch]; grind
  | 7 => simp [su, uni, bern, ch]; grind
  | 8 => simp [su, uni, bern, ch]; grind
  | n + 9 => omega
theorem bern_crn (c : Nat → Rat) (u : Rat) (n : Nat) (h : n ≤ 8) : bern (crn c n) n u = su (fun k => c k * u ^ k) (n + 1) := by
  match n with
  | 0 => simp [su, crn, bern, ch]; grind
  | 1 => simp [su, crn, bern, ch]; grind
  | 2 => simp [su, crn, bern, ch]; grind
  | 3 => simp [su, crn, bern, ch]; grind
  | 4 => simp [su, crn, bern, ch]; grind
  | 5 => simp [su, crn, bern, ch]; grind
  | 6 => simp [su, crn, bern, ch]; grind
  | 7 => simp [su, crn, bern, ch]; grind
  | 8 => simp [su, crn, bern, ch]; grind
  | n + 9 => omega
theorem one_pow' : ∀ k : Nat, (1 : Rat) ^ k = 1
  | 0 => by simp
  | k + 1 => by
    rw [Rat.pow_succ, one_pow' k]
    grind
theorem ch_pos : ∀ {n : Nat}, n ≤ 16 → ∀ {k : Nat}, k ≤ n → 0 < ch n k := fun {n} h {k} hk => by
  have : ∀ n, n < 17 → ∀ k, k < 17 → k ≤ n → 0 < ch n k := by decide
  exact this n (by omega) k (by omega) hk
theorem crn_uni (r : Nat → Rat) (n : Nat) (h : n ≤ 8) (i : Nat) (hi : i ≤ n) : crn (uni r n) n i = r i := by
  have e : crn (uni r n) n i = crn (fun p => uni r i p / (ch i p : Rat) * (ch n p : Rat)) n i := su_congr fun k hk => by
    have h1 : (ch i k : Rat) ≠ 0 := by
      have := ch_pos (n := i) (by omega) (k := k) (by omega)
      intro z
      have : ch i k = 0 := by exact_mod_cast z
      omega
    simp only [uni]
    grind
  have e2 : crn (fun p => uni r i p / (ch i p : Rat) * (ch n p : Rat)) n i = su (fun p => uni r i p) (i + 1) := su_congr fun k hk => by
    have h1 : (ch n k : Rat) ≠ 0 := by
      have := ch_pos (n := n) (by omega) (k := k) (by omega)
      intro z
      have : ch n k = 0 := by exact_mod_cast z
      omega
    have h2 : (ch i k : Rat) ≠ 0 := by
      have := ch_pos (n := i) (by omega) (k := k) (by omega)
      intro z
      have : ch i k = 0 := by exact_mod_cast z
      omega
    simp only []
    grind
  have e3 := bern_uni r 1 i (by omega)
  have e4 : su (fun p => uni r i p * 1 ^ p) (i + 1) = su (fun p => uni r i p) (i + 1) := su_congr fun k _ => by
    rw [one_pow' k]
    grind
  rw [e, e2, ← e4, e3]
  unfold bern
  rw [su, su_zero fun k hk => ?_]
  · have : ch i i = 1 := by
      have : ∀ n, n < 17 → ch n n = 1 := by decide
      exact this i (by omega)
    rw [this, one_pow' i, Nat.sub_self, Rat.pow_zero]
    push_cast
    grind
  · obtain ⟨d, hd⟩ : ∃ d, i - k = d + 1 := ⟨i - k - 1, by omega⟩
    rw [hd, Rat.pow_succ]
    grind
end BP

namespace BP
/-! ### rows raised, values by the scheme -/
def rz (r : Nat → Rat) (n i : Nat) : Rat := ((i : Rat) * r (i - 1) + ((n + 1 - i : Nat) : Rat) * r i) * (1 / ((n + 1 : Nat) : Rat))
theorem bern_rz (r : Nat → Rat) (u : Rat) (n : Nat) (h : n ≤ 7) : bern (rz r n) (n + 1) u = bern r n u := by
  match n with
  | 0 => simp [su, rz, bern, ch]; grind
  | 1 => simp [su, rz, bern, ch]; grind
  | 2 => simp [su, rz, bern, ch]; grind
  | 3 => simp [su, rz, bern, ch]; grind
  | 4 => simp [su, rz, bern, ch]; grind
  | 5 => simp [su, rz, bern, ch]; grind
  | 6 => simp [su, rz, bern, ch]; grind
  | 7 => simp [su, rz, bern, ch]; grind
  | n + 8 => omega
theorem su_rz (r : Nat → Rat) (n : Nat) (h : n ≤ 7) : su (rz r n) (n + 2) / ((n + 2 : Nat) : Rat) = su r (n + 1) / ((n + 1 : Nat) : Rat) := by
  match n with
  | 0 => simp [su, rz]; grind
  | 1 => simp [su, rz]; grind
  | 2 => simp [su, rz]; grind
  | 3 => simp [su, rz]; grind
  | 4 => simp [su, rz]; grind
  | 5 => simp [su, rz]; grind
  | 6 => simp [su, rz]; grind
  | 7 => simp [su, rz]; grind
  | n + 8 => omega
/-- rows of the scheme -/
def dc (u : Rat) (r : Nat → Rat) : Nat → Nat → Rat
  | 0, i => r i
  | k + 1, i => dc u r k i * (1 - u) + dc u r k (i + 1) * u
theorem dc_bern (r : Nat → Rat) (u : Rat) (n : Nat) (h : n ≤ 8) : dc u r n 0 = bern r n u := by
  match n with
  | 0 => simp [su, dc, bern, ch]; grind
  | 1 => simp [su, dc, bern, ch]; grind
  | 2 => simp [su, dc, bern, ch]; grind
  | 3 => simp [su, dc, bern, ch]; grind
  | 4 => simp [su, dc, bern, ch]; grind
  | 5 => simp [su, dc, bern, ch]; grind
  | 6 => simp [su, dc, bern, ch]; grind
  | 7 => simp [su, dc, bern, ch]; grind
  | 8 => simp [su, dc, bern, ch]; grind
  | n + 9 => omega
/-- a mean lies between -/
theorem mean_le {a b u hi : Rat} (ha : a ≤ hi) (hb : b ≤ hi) (h0 : 0 ≤ u) (h1 : u ≤ 1) : a * (1 - u) + b * u ≤ hi := by
  have e1 := Rat.mul_le_mul_of_nonneg_right ha (show 0 ≤ 1 - u by grind)
  have e2 := Rat.mul_le_mul_of_nonneg_right hb h0
  grind
theorem le_mean {a b u lo : Rat} (ha : lo ≤ a) (hb : lo ≤ b) (h0 : 0 ≤ u) (h1 : u ≤ 1) : lo ≤ a * (1 - u) + b * u := by
  have e1 := Rat.mul_le_mul_of_nonneg_right ha (show 0 ≤ 1 - u by grind)
  have e2 := Rat.mul_le_mul_of_nonneg_right hb h0
  grind
theorem dc_le {u hi : Rat} {r : Nat → Rat} (h0 : 0 ≤ u) (h1 : u ≤ 1) : ∀ (k i n : Nat), i + k ≤ n → (∀ j, j ≤ n → r j ≤ hi) → dc u r k i ≤ hi
  | 0, i, n, h, hr => hr i (by omega)
  | k + 1, i, n, h, hr => mean_le (dc_le h0 h1 k i n (by omega) hr) (dc_le h0 h1 k (i + 1) n (by omega) hr) h0 h1
theorem le_dc {u lo : Rat} {r : Nat → Rat} (h0 : 0 ≤ u) (h1 : u ≤ 1) : ∀ (k i n : Nat), i + k ≤ n → (∀ j, j ≤ n → lo ≤ r j) → lo ≤ dc u r k i
  | 0, i, n, h, hr => hr i (by omega)
  | k + 1, i, n, h, hr => le_mean (le_dc h0 h1 k i n (by omega) hr) (le_dc h0 h1 k (i + 1) n (by omega) hr) h0 h1
/-- a raised number as a mean of its neighbours -/
theorem rz_mean (r : Nat → Rat) (n i : Nat) (hi : i ≤ n + 1) : ∃ u : Rat, 0 ≤ u ∧ u ≤ 1 ∧ rz r n i = r i * (1 - u) + r (i - 1) * u ∧ (i = 0 → u = 0) ∧ (i = n + 1 → u = 1) := by
  have np : (0 : Rat) < ((n + 1 : Nat) : Rat) := by exact_mod_cast (show 0 < n + 1 by omega)
  have nz1 : ((n + 1 : Nat) : Rat) ≠ 0 := by grind
  have ei : ((n + 1 - i : Nat) : Rat) = ((n + 1 : Nat) : Rat) - (i : Rat) := by
    obtain ⟨d, hd⟩ : ∃ d, n + 1 = i + d := ⟨n + 1 - i, by omega⟩
    rw [hd, Nat.add_sub_cancel_left]
    push_cast
    grind
  have le : (i : Rat) ≤ ((n + 1 : Nat) : Rat) := by exact_mod_cast hi
  have i0 : (0 : Rat) ≤ (i : Rat) := by exact_mod_cast Nat.zero_le i
  refine ⟨(i : Rat) / ((n + 1 : Nat) : Rat), ?_, ?_, ?_, fun h => ?_, fun h => ?_⟩
  · rw [Rat.div_def]
    exact Rat.mul_nonneg i0 (Rat.le_of_lt (Rat.inv_pos.mpr np))
  · rw [Rat.div_def]
    have := Rat.mul_le_mul_of_nonneg_right le (Rat.le_of_lt (Rat.inv_pos.mpr np))
    grind
  · unfold rz
    rw [ei]
    grind
  · rw [h]
    simp
    grind
  · rw [h]
    grind
end BP

namespace BP
/-! ### changes of sign -/
def opp (a b : Rat) : Bool := decide (0 < a) && decide (b < 0) || decide (a < 0) && decide (0 < b)
def n1 (b : Bool) : Nat := if b then 1 else 0
/-- noughts left out; the last one that is not 0 is p -/
def VS : Rat → List Rat → Nat
  | _, [] => 0
  | p, a :: l => if a = 0 then VS p l else n1 (opp p a) + VS a l
/-- neighbours alone -/
def CS : Rat → List Rat → Nat
  | _, [] => 0
  | p, a :: l => n1 (opp p a) + CS a l
def Btw (a b d : Rat) : Prop := (0 < d → 0 < a ∨ 0 < b) ∧ (d < 0 → a < 0 ∨ b < 0)
/-- a row and what lies between its numbers -/
inductive Mix : Rat → List Rat → List Rat → Prop where
  | nil (a : Rat) : Mix a [] [a]
  | cons {a b d : Rat} {rs ds : List Rat} : Btw a b d → Mix b rs ds → Mix a (b :: rs) (d :: ds)
theorem mix_le {a : Rat} {rs ds : List Rat} (h : Mix a rs ds) : ∀ (p q : Rat), (a ≠ 0 → p = a) → (p = 0 → q = 0) → CS q ds ≤ VS p rs + n1 (opp q p) := by
  induction h with
  | nil a =>
    intro p q hp hq
    by_cases ha : a = 0
    · subst ha
      simp [CS, VS, opp, n1]
    · rw [hp ha]
      simp [CS, VS]
  | @cons a b d rs ds hb hm ih =>
    intro p q hp hq
    by_cases h0 : b = 0
    · subst h0
      have i := ih p d (fun z => absurd rfl z) (fun z => by
        have ha : a = 0 := by
          by_cases h : a = 0
          · exact h
          · have := hp h
            grind
        obtain ⟨b1, b2⟩ := hb
        grind)
      have k : n1 (opp q d) + n1 (opp d p) ≤ n1 (opp q p) := by
        obtain ⟨b1, b2⟩ := hb
        by_cases h : a = 0
        · have : d = 0 := by grind
          subst this
          simp [opp, n1]
        · have := hp h
          subst this
          simp only [opp, n1]
          grind
      simp only [CS, VS, if_pos]
      omega
    · have i := ih b d (fun _ => rfl) (fun z => absurd z h0)
      have k : n1 (opp q d) + n1 (opp d b) ≤ n1 (opp p b) + n1 (opp q p) := by
        obtain ⟨b1, b2⟩ := hb
        by_cases hpz : p = 0
        · have hq0 := hq hpz
          have ha : a = 0 := by
            by_cases h : a = 0
            · exact h
            · have := hp h
              grind
          subst hq0
          simp only [opp, n1]
          grind
        · simp only [opp, n1]
          by_cases h : a = 0
          · grind
          · have := hp h
            grind
      simp only [CS, VS, if_neg h0]
      omega
def cntN (g : Nat → Bool) : Nat → Nat
  | 0 => 0
  | n + 1 => cntN g n + n1 (g n)
theorem cntN_head (g : Nat → Bool) : ∀ n, cntN g (n + 1) = n1 (g 0) + cntN (fun k => g (k + 1)) n
  | 0 => by simp [cntN]
  | n + 1 => by
    rw [cntN, cntN_head g n, cntN]
    omega
theorem VS_filter : ∀ (l : List Rat) (p : Rat), VS p l = CS p (l.filter fun a => decide (a ≠ 0))
  | [], _ => rfl
  | a :: l, p => by
    by_cases h : a = 0
    · simp [VS, h, VS_filter l]
    · simp [VS, CS, h, VS_filter l]
theorem CS_cnt : ∀ (l : List Rat) (p a : Rat), CS p (a :: l) = n1 (opp p a) + cntN (fun i => opp (co (a :: l) i) (co (a :: l) (i + 1))) l.length
  | [], p, a => by simp [CS, cntN]
  | b :: l, p, a => by
    have ih := CS_cnt l a b
    rw [CS, ih, List.length_cons, cntN_head]
    simp
theorem opp_0 (a : Rat) : opp 0 a = false := by simp [opp]
theorem CS_0 (l : List Rat) : CS 0 l = cntN (fun i => opp (co l i) (co l (i + 1))) (l.length - 1) := by
  cases l with
  | nil => rfl
  | cons a l =>
    rw [CS_cnt, opp_0]
    simp [n1]
theorem opp_num (a b : Rat) : decide (a.num * b.num < 0) = opp a b := by
  have h1 : (0 < a) ↔ 0 < a.num := by rw [Rat.lt_iff]; simp
  have h2 : (0 < b) ↔ 0 < b.num := by rw [Rat.lt_iff]; simp
  have h3 : (a < 0) ↔ a.num < 0 := by rw [Rat.lt_iff]; simp
  have h4 : (b < 0) ↔ b.num < 0 := by rw [Rat.lt_iff]; simp
  rw [Bool.eq_iff_iff]
  simp only [opp, decide_eq_true_iff, Bool.or_eq_true, Bool.and_eq_true, h1, h2, h3, h4]
  constructor
  · intro h
    by_cases c : 0 < a.num
    · left
      refine ⟨c, ?_⟩
      by_cases d : b.num < 0
      · exact d
      · have := Int.mul_nonneg (Int.le_of_lt c) (show 0 ≤ b.num by omega)
        omega
    · by_cases c2 : a.num < 0
      · right
        refine ⟨c2, ?_⟩
        by_cases d : 0 < b.num
        · exact d
        · have := Int.mul_nonneg_of_nonpos_of_nonpos (Int.le_of_lt c2) (show b.num ≤ 0 by omega)
          omega
      · have : a.num = 0 := by omega
        rw [this] at h
        simp at h
  · rintro (⟨x, y⟩ | ⟨x, y⟩)
    · exact Int.mul_neg_of_pos_of_neg x y
    · exact Int.mul_neg_of_neg_of_pos x y
end BP

/-! The pure layer: Python values as trees (PyData), what an operator, a built-in, a statement computes over slots. No program, no heap. -/
namespace BP
abbrev D := PySem.PyData
/-- a result: a value; an own error with its value; nothing known -/
inductive R (α : Type) where
  | ok (a : α)
  | er (c : PySem.Str) (d : D)
  | st
namespace R
def bind {α β : Type} : R α → (α → R β) → R β
  | .ok a, f => f a
  | .er c d, _ => .er c d
  | .st, _ => .st
@[simp] theorem ok_bind {α β : Type} {a : α} {f : α → R β} : (R.ok a).bind f = f a := rfl
@[simp] theorem st_bind {α β : Type} {f : α → R β} : (R.st : R α).bind f = .st := rfl
@[simp] theorem er_bind {α β : Type} {f : α → R β} {c : PySem.Str} {d : D} : (R.er c d : R α).bind f = .er c d := rfl
/-- what is behind, kept from view until its time has come -/
class Cont (α β : Type) where
  run : α → R β
def bindI {α β : Type} (x : R α) [c : Cont α β] : R β := x.bind c.run
@[simp ↓] theorem bind_I {α β : Type} {x : R α} {f : α → R β} : x.bind f = @bindI α β x ⟨f⟩ := rfl
@[simp] theorem bindI_ok {α β : Type} {a : α} {f : α → R β} : @bindI α β (.ok a) ⟨f⟩ = f a := rfl
@[simp] theorem bindI_st {α β : Type} {f : α → R β} : @bindI α β .st ⟨f⟩ = .st := rfl
@[simp] theorem bindI_er {α β : Type} {f : α → R β} {c : PySem.Str} {d : D} : @bindI α β (.er c d) ⟨f⟩ = .er c d := rfl
def sat {α : Type} (r : R α) (P : α → Prop) : Prop := ∃ a, r = .ok a ∧ P a
theorem bind_ok {α β : Type} {r : R α} {f : α → R β} {b : β} (h : r.bind f = .ok b) : ∃ a, r = .ok a ∧ f a = .ok b := by
  cases r with
  | ok a => exact ⟨a, rfl, h⟩
  | er c d => cases h
  | st => cases h
theorem sat_bind {α β : Type} {r : R α} {f : α → R β} {P : β → Prop} (h : r.sat fun a => (f a).sat P) : (r.bind f).sat P := by
  obtain ⟨a, rfl, h⟩ := h
  exact h
theorem sat_ok {α : Type} {a : α} {P : α → Prop} (h : P a) : (R.ok a).sat P := ⟨a, rfl, h⟩
theorem sat_of {α : Type} {r : R α} {a : α} {P : α → Prop} (e : r = .ok a) (h : P a) : r.sat P := ⟨a, e, h⟩
theorem sat.imp {α : Type} {r : R α} {P Q : α → Prop} (h : r.sat P) (k : ∀ a, P a → Q a) : r.sat Q := by
  obtain ⟨a, e, p⟩ := h
  exact ⟨a, e, k a p⟩
end R
/-- what a slot holds: nothing; the pot; a value; an own list that may be changed; (of an expression) an own list that is looked at; the script -/
inductive EV where
  | no
  | pt
  | im (d : D)
  | ow (ds : List D)
  | bo (ds : List D)
  | fz (ns : List Int)
abbrev Env := List EV
/-- what stands in the pot -/
abbrev Pt := List Int
abbrev ME := Env → Pt → R (EV × Pt)
/-- the value, looked at for a moment -/
def EV.view : EV → R D
  | .im d => .ok d
  | .ow ds => .ok (.list ds)
  | .bo ds => .ok (.list ds)
  | _ => .st
/-- the value, to be kept -/
def EV.val : EV → R D
  | .im d => .ok d
  | .ow ds => .ok (.list ds)
  | _ => .st
@[simp] def EV.frz : EV → EV
  | .ow ds => .im (.list ds)
  | e => e
@[simp] def getE : Env → Nat → EV
  | [], _ => .no
  | e :: _, 0 => e
  | _ :: r, n + 1 => getE r n
@[simp] def setE : Env → Nat → EV → Env
  | [], _, _ => []
  | _ :: r, 0, x => x :: r
  | e :: r, n + 1, x => e :: setE r n x
def isPt : EV → Bool
  | .pt => true
  | _ => false
/-- a slot that a comprehension's own name may take -/
def isLk : EV → Bool
  | .pt => true
  | .ow _ => true
  | _ => false
/-- a slot is stored; the pot's never -/
@[simp] def putE (env : Env) (i : Nat) (x : EV) : R Env := if isPt (getE env i) then .st else .ok (setE env i x)
/-! ### values -/
@[simp] def LIM : Nat := 1000000
def mulOk (a b : Int) : Bool := decide (a.natAbs.log2 + b.natAbs.log2 < 100000000)
def ixD (n : Nat) (i : Int) : Option Nat := if 0 ≤ i then (if i < n then some i.toNat else none) else if -(n : Int) ≤ i then some (i + n).toNat else none
def atD {α : Type} (xs : List α) (i : Int) : Option α := (ixD xs.length i).bind fun j => xs[j]?
def sIxD (n d : Nat) : Option Int → Nat
  | none => d
  | some v => if v < 0 then (v + (n : Int)).toNat else min v.toNat n
def cutD {α : Type} (xs : List α) (lo hi : Option Int) : List α := (xs.drop (sIxD xs.length 0 lo)).take (sIxD xs.length xs.length hi - sIxD xs.length 0 lo)
abbrev O2 := D → D → R EV
def oAdd : O2
  | .int a, .int b => .ok (.im (.int (a + b)))
  | .list a, .list b => if a.length + b.length ≤ LIM then .ok (.ow (a ++ b)) else .st
  | .tuple a, .tuple b => if a.length + b.length ≤ LIM then .ok (.im (.tuple (a ++ b))) else .st
  | .str a, .str b => if a.length + b.length ≤ LIM then .ok (.im (.str (a ++ b))) else .st
  | _, _ => .st
def oSub : O2
  | .int a, .int b => .ok (.im (.int (a - b)))
  | _, _ => .st
def oMul : O2
  | .int a, .int b => if mulOk a b then .ok (.im (.int (a * b))) else .st
  | .list a, .int k => if a.length * k.toNat ≤ LIM ∧ k ≤ LIM ∧ -(LIM : Int) ≤ k then .ok (.ow (List.replicate k.toNat a).flatten) else .st
  | .tuple a, .int k => if a ≠ [] ∧ 2 ≤ k ∧ k ≤ 1000 ∧ a.length ≤ 1000 then .ok (.im (.tuple (List.replicate k.toNat a).flatten)) else .st
  | _, _ => .st
def oDiv : O2
  | .int a, .int b => if b = 0 ∨ PySem.Builtin.divisionGoesByPylong a b = true then .st else .ok (.im (.int (a.fdiv b)))
  | _, _ => .st
def oMod : O2
  | .int a, .int b => if b = 0 then .st else .ok (.im (.int (a.fmod b)))
  | _, _ => .st
def oPow : O2
  | .int a, .int b => if 0 ≤ b ∧ b ≤ 1000000 ∧ a.natAbs < 2 ^ 64 then .ok (.im (.int (a ^ b.toNat))) else .st
  | _, _ => .st
@[simp] def bl (b : Bool) : R EV := .ok (.im (.bool b))
def oLt : O2
  | .int a, .int b => bl (decide (a < b))
  | _, _ => .st
def oLe : O2
  | .int a, .int b => bl (decide (a ≤ b))
  | _, _ => .st
def oGt : O2
  | .int a, .int b => bl (decide (b < a))
  | _, _ => .st
def oGe : O2
  | .int a, .int b => bl (decide (b ≤ a))
  | _, _ => .st
/-- strings of any signs -/
def oEqS : O2
  | .str x, .str y => bl (x == y)
  | _, _ => .st
def oNeS : O2
  | .str x, .str y => bl (!(x == y))
  | _, _ => .st
@[simp] def oEq : O2 := fun a b => if PySem.SeqAt.shaped a && PySem.SeqAt.shaped b then bl (PySem.PyData.eqv a b) else oEqS a b
@[simp] def oNe : O2 := fun a b => if PySem.SeqAt.shaped a && PySem.SeqAt.shaped b then bl (!PySem.PyData.eqv a b) else oNeS a b
/-- is: None on the right, or two bools -/
def oIs : O2
  | .none, .none => bl true
  | .bool a, .bool b => bl (a == b)
  | _, .none => bl false
  | _, _ => .st
def oIsN : O2
  | .none, .none => bl false
  | .bool a, .bool b => bl (!(a == b))
  | _, .none => bl true
  | _, _ => .st
def oIn : O2
  | d, .list ds => if PySem.SeqAt.shaped d && PySem.SeqAt.shaped (.list ds) then bl (ds.any fun z => PySem.PyData.eqv z d) else .st
  | d, .tuple ds => if PySem.SeqAt.shaped d && PySem.SeqAt.shaped (.tuple ds) then bl (ds.any fun z => PySem.PyData.eqv z d) else .st
  | _, _ => .st
def oNotIn : O2
  | d, .list ds => if PySem.SeqAt.shaped d && PySem.SeqAt.shaped (.list ds) then bl (!ds.any fun z => PySem.PyData.eqv z d) else .st
  | d, .tuple ds => if PySem.SeqAt.shaped d && PySem.SeqAt.shaped (.tuple ds) then bl (!ds.any fun z => PySem.PyData.eqv z d) else .st
  | _, _ => .st
def oIx : O2
  | .list xs, .int i => match atD xs i with
    | some d => .ok (.im d)
    | none => .st
  | .tuple xs, .int i => match atD xs i with
    | some d => .ok (.im d)
    | none => .st
  | _, _ => .st
abbrev O1 := D → R EV
def oNeg : O1
  | .int a => .ok (.im (.int (-a)))
  | _ => .st
def oNot : O1
  | .bool b => bl (!b)
  | _ => .st
/-! ### built-ins: of a list of arguments -/
abbrev OB := List D → R EV
def bLen : OB
  | [.list xs] => .ok (.im (.int xs.length))
  | [.tuple xs] => .ok (.im (.int xs.length))
  | [.dict xs] => .ok (.im (.int xs.length))
  | [.str x] => if x.length ≤ LIM then .ok (.im (.int x.length)) else .st
  | _ => .st
def bAbs : OB
  | [.int a] => .ok (.im (.int (if a < 0 then -a else a)))
  | _ => .st
def bInt : OB
  | [.int a] => .ok (.im (.int a))
  | [.bool b] => .ok (.im (.int (if b then 1 else 0)))
  | _ => .st
def intsOf : List D → Option (List Int)
  | [] => some []
  | .int i :: r => (intsOf r).map (i :: ·)
  | _ => none
def boolsOf : List D → Option (List Bool)
  | [] => some []
  | .bool i :: r => (boolsOf r).map (i :: ·)
  | _ => none
def bMax : OB
  | [.int a, .int b] => .ok (.im (.int (if b > a then b else a)))
  | [.list xs] => match intsOf xs with
    | some (x :: r) => .ok (.im (.int (r.foldl max x)))
    | _ => .st
  | _ => .st
def bMin : OB
  | [.int a, .int b] => .ok (.im (.int (if b < a then b else a)))
  | [.list xs] => match intsOf xs with
    | some (x :: r) => .ok (.im (.int (r.foldl min x)))
    | _ => .st
  | _ => .st
def bSum : OB
  | [.list xs] => match intsOf xs with
    | some ns => .ok (.im (.int ns.sum))
    | _ => .st
  | _ => .st
def bAll : OB
  | [.list xs] => match boolsOf xs with
    | some bs => bl (bs.all id)
    | _ => .st
  | _ => .st
def bAny : OB
  | [.list xs] => match boolsOf xs with
    | some bs => bl (bs.any id)
    | _ => .st
  | _ => .st
def bList : OB
  | [.list xs] => .ok (.ow xs)
  | [.tuple xs] => .ok (.ow xs)
  | _ => .st
/-- xs[::-1] of a list -/
def revLO : O1
  | .list xs => .ok (.ow xs.reverse)
  | _ => .st
def bTuple : OB
  | [.list xs] => .ok (.im (.tuple xs))
  | [.tuple xs] => .ok (.im (.tuple xs))
  | _ => .st
mutual
/-- every dict in it is empty -/
def noKeys : D → Bool
  | .list xs => noKeysAll xs
  | .tuple xs => noKeysAll xs
  | .dict [] => true
  | .dict (_ :: _) => false
  | _ => true
def noKeysAll : List D → Bool
  | [] => true
  | x :: xs => noKeys x && noKeysAll xs
end
def reprOk (d : D) : Bool := d.showable && (decide (d.shown.length ≤ LIM) && (decide (d.depth ≤ 64) && noKeys d))
@[simp] def bRepr : OB
  | [d] => if reprOk d then .ok (.im (.str d.shown)) else .st
  | _ => .st
inductive Ty where
  | int | bool | str | list | tuple | dict | listtuple
@[simp] def isI : Ty → D → Bool
  | .int, .int _ => true
  | .int, .bool _ => true
  | .bool, .bool _ => true
  | .str, .str _ => true
  | .list, .list _ => true
  | .tuple, .tuple _ => true
  | .dict, .dict _ => true
  | .listtuple, .list _ => true
  | .listtuple, .tuple _ => true
  | _, _ => false
@[simp] def oIsI (t : Ty) : O1 := fun d => bl (isI t d)
/-! ### expressions -/
@[simp] def mVar (i : Nat) : ME := fun env st => match getE env i with
  | .im d => .ok (.im d, st)
  | .ow ds => .ok (.bo ds, st)
  | _ => .st
@[simp] def mC (d : D) : ME := fun _ st => .ok (.im d, st)
@[simp] def mBin (f : O2) (a b : ME) : ME := fun env st => (a env st).bind fun x => x.1.view.bind fun u => (b env x.2).bind fun y => y.1.view.bind fun v => (f u v).bind fun z => .ok (z, y.2)
@[simp] def mUn (f : O1) (a : ME) : ME := fun env st => (a env st).bind fun x => x.1.view.bind fun u => (f u).bind fun z => .ok (z, x.2)
/-- a < b < c -/
@[simp] def mChain (f g : O2) (a b c : ME) : ME := fun env st => (a env st).bind fun x => x.1.view.bind fun u => (b env x.2).bind fun y => y.1.view.bind fun v => (f u v).bind fun z =>
  match z with
  | .im (.bool true) => (c env y.2).bind fun w => w.1.view.bind fun t => (g v t).bind fun q => .ok (q, w.2)
  | .im (.bool false) => .ok (.im (.bool false), y.2)
  | _ => .st
@[simp] def mAnd (a b : ME) : ME := fun env st => (a env st).bind fun x => match x.1 with
  | .im (.bool true) => b env x.2
  | .im (.bool false) => .ok (.im (.bool false), x.2)
  | _ => .st
@[simp] def mOr (a b : ME) : ME := fun env st => (a env st).bind fun x => match x.1 with
  | .im (.bool false) => b env x.2
  | .im (.bool true) => .ok (.im (.bool true), x.2)
  | _ => .st
@[simp] def mIf (c a b : ME) : ME := fun env st => (c env st).bind fun x => match x.1 with
  | .im (.bool true) => a env x.2
  | .im (.bool false) => b env x.2
  | _ => .st
/-- arguments, kept -/
abbrev MA := Env → Pt → R (List D × Pt)
@[simp] def aNil : MA := fun _ st => .ok ([], st)
@[simp] def aCons (a : ME) (r : MA) : MA := fun env st => (a env st).bind fun x => x.1.val.bind fun u => (r env x.2).bind fun y => .ok (u :: y.1, y.2)
/-- arguments, looked at -/
@[simp] def vNil : MA := fun _ st => .ok ([], st)
@[simp] def vCons (a : ME) (r : MA) : MA := fun env st => (a env st).bind fun x => x.1.view.bind fun u => (r env x.2).bind fun y => .ok (u :: y.1, y.2)
@[simp] def mTup (as : MA) : ME := fun env st => (as env st).bind fun x => if x.1.length ≤ LIM then .ok (.im (.tuple x.1), x.2) else .st
@[simp] def mLst (as : MA) : ME := fun env st => (as env st).bind fun x => if x.1.length ≤ LIM then .ok (.ow x.1, x.2) else .st
/-- a built-in -/
@[simp] def mB (f : OB) (as : MA) : ME := fun env st => (as env st).bind fun x => (f x.1).bind fun z => .ok (z, x.2)
/-- a def of the text -/
abbrev PF := List D → R D
@[simp] def mCall (f : PF) (as : MA) : ME := fun env st => (as env st).bind fun x => (f x.1).bind fun z => .ok (.im z, x.2)
/-- a def that draws from the pot (its first argument, in slot i) -/
abbrev PD := List D → Pt → R (D × Pt)
/-- the pot in slot i -/
@[simp] def mDrawAt (i : Nat) (f : PD) (as : MA) : ME := fun env st => if isPt (getE env i) then (as env st).bind fun x => (f x.1 x.2).bind fun z => .ok (.im z.1, z.2) else .st
@[simp] def mDraw (f : PD) (as : MA) : ME := fun env st => if isPt (getE env 0) then (as env st).bind fun x => (f x.1 x.2).bind fun z => .ok (.im z.1, z.2) else .st
abbrev MO := Env → Pt → R (Option Int × Pt)
@[simp] def oNone : MO := fun _ st => .ok (none, st)
@[simp] def oSome (a : ME) : MO := fun env st => (a env st).bind fun x => match x.1 with
  | .im (.int i) => .ok (some i, x.2)
  | _ => .st
def cutO (d : D) (lo hi : Option Int) : R EV := match d with
  | .list xs => .ok (.ow (cutD xs lo hi))
  | .tuple xs => .ok (.im (.tuple (cutD xs lo hi)))
  | _ => .st
@[simp] def mCut (a : ME) (lo hi : MO) : ME := fun env st => (a env st).bind fun x => x.1.view.bind fun u => (lo env x.2).bind fun y => (hi env y.2).bind fun z => (cutO u y.1 z.1).bind fun q => .ok (q, z.2)
def revO : D → R EV
  | .list xs => .ok (.ow xs.reverse)
  | .tuple xs => .ok (.im (.tuple xs.reverse))
  | _ => .st
/-! ### targets -/
inductive Pat where
  | nm (i : Nat)
  | tp (ps : List Pat)
mutual
@[simp] def Pat.set : Pat → D → Env → R Env
  | .nm i, d, env => putE env i (.im d)
  | .tp ps, .tuple ds, env => patSets ps ds env
  | .tp _, _, _ => .st
@[simp] def patSets : List Pat → List D → Env → R Env
  | [], [], env => .ok env
  | p :: ps, d :: ds, env => (p.set d env).bind fun env1 => patSets ps ds env1
  | _, _, _ => .st
end
/-! ### what a for, a comprehension walks -/
abbrev MI := Env → Pt → R (List D × Pt)
def itemsO : D → R (List D)
  | .list xs => .ok xs
  | .tuple xs => .ok xs
  | _ => .st
@[simp] def iSeq (a : ME) : MI := fun env st => (a env st).bind fun x => x.1.val.bind fun u => (itemsO u).bind fun z => .ok (z, x.2)
def rangeL (lo hi : Int) : List D := (List.range (hi - lo).toNat).map fun k => .int (lo + (k : Nat))
@[simp] def iRange1 (a : ME) : MI := fun env st => (a env st).bind fun x => match x.1 with
  | .im (.int n) => if n ≤ 1000000 ∧ -1000000 ≤ n then .ok (rangeL 0 n, x.2) else .st
  | _ => .st
@[simp] def iRange2 (a b : ME) : MI := fun env st => (a env st).bind fun x => (b env x.2).bind fun y => match x.1, y.1 with
  | .im (.int m), .im (.int n) => if (m ≤ 1000000 ∧ -1000000 ≤ m) ∧ (n ≤ 1000000 ∧ -1000000 ≤ n) then .ok (rangeL m n, y.2) else .st
  | _, _ => .st
def enumL (xs : List D) : List D := xs.mapIdx fun i d => .tuple [.int i, d]
/-- enumerate of a list, a tuple -/
@[simp] def iEnumL (a : ME) : MI := fun env st => (a env st).bind fun x => x.1.val.bind fun u => match u with
  | .list xs => .ok (enumL xs, x.2)
  | .tuple xs => .ok (enumL xs, x.2)
  | _ => .st
@[simp] def zipL : List D → List D → List D
  | x :: xs, y :: ys => .tuple [x, y] :: zipL xs ys
  | _, _ => []
/-- zip of two lists, of two tuples -/
@[simp] def iZipS (a b : ME) : MI := fun env st => (a env st).bind fun x => x.1.val.bind fun u => (b env x.2).bind fun y => y.1.val.bind fun v => match u, v with
  | .list xs, .list ys => .ok (zipL xs ys, y.2)
  | .tuple xs, .tuple ys => .ok (zipL xs ys, y.2)
  | _, _ => .st
/-- the slots of a comprehension's own names forgotten -/
@[simp] def wipeE (env : Env) : List Nat → Env
  | [] => env
  | v :: vs => setE (wipeE env vs) v .no
def lcL (p : Pat) (c e : ME) (env : Env) : List D → Pt → R (List D × Pt)
  | [], st => .ok ([], st)
  | d :: r, st => (p.set d env).bind fun env1 => (c env1 st).bind fun b => match b.1 with
    | .im (.bool true) => (e env1 b.2).bind fun x => x.1.val.bind fun u => (lcL p c e env r x.2).bind fun y => .ok (u :: y.1, y.2)
    | .im (.bool false) => lcL p c e env r b.2
    | _ => .st
def mLc (it : MI) (p : Pat) (vs : List Nat) (c e : ME) : ME := fun env st => (it env st).bind fun x => if x.1.length ≤ LIM ∧ (vs.any fun v => isLk (getE env v)) = false then (lcL p c e (wipeE env vs) x.1 x.2).bind fun y => .ok (.ow y.1, y.2) else .st
/-! ### statements -/
inductive Out where
  | nx (env : Env) (st : Pt)
  | rt (d : D) (st : Pt)
  /-- a new list is given out -/
  | ro (ds : List D) (st : Pt)
abbrev MS := Env → Pt → R Out
@[simp] def sNil : MS := fun env st => .ok (.nx env st)
@[simp] def sSeq (a b : MS) : MS := fun env st => (a env st).bind fun o => match o with
  | .nx env1 st1 => b env1 st1
  | .rt d st1 => .ok (.rt d st1)
  | .ro d st1 => .ok (.ro d st1)
@[simp] def sExpr (a : ME) : MS := fun env st => (a env st).bind fun x => .ok (.nx env x.2)
@[simp] def sSet (i : Nat) (a : ME) : MS := fun env st => (a env st).bind fun x => x.1.val.bind fun u => (putE env i (.im u)).bind fun env1 => .ok (.nx env1 x.2)
/-- the new value is a new list that is to be changed later -/
@[simp] def sOwn (i : Nat) (a : ME) : MS := fun env st => (a env st).bind fun x => match x.1 with
  | .ow ds => (putE env i (.ow ds)).bind fun env1 => .ok (.nx env1 x.2)
  | _ => .st
@[simp] def sPat (p : Pat) (a : ME) : MS := fun env st => (a env st).bind fun x => x.1.val.bind fun u => (p.set u env).bind fun env1 => .ok (.nx env1 x.2)
/-- a, b = .., .. ; which of them are to be changed later -/
@[simp] def keepE (own : Bool) (x : EV) : R EV := if own then (match x with
  | .ow ds => .ok (.ow ds)
  | _ => .st) else x.val.bind fun u => .ok (.im u)
@[simp] def sPar2 (i j : Nat) (oi oj : Bool) (a b : ME) : MS := fun env st => (a env st).bind fun x => (keepE oi x.1).bind fun u => (b env x.2).bind fun y => (keepE oj y.1).bind fun v => (putE env i u).bind fun env1 => (putE env1 j v).bind fun env2 => .ok (.nx env2 y.2)
@[simp] def sPar3 (i j k : Nat) (oi oj ok : Bool) (a b c : ME) : MS := fun env st => (a env st).bind fun x => (keepE oi x.1).bind fun u => (b env x.2).bind fun y => (keepE oj y.1).bind fun v =>
  (c env y.2).bind fun z => (keepE ok z.1).bind fun w => (putE env i u).bind fun env1 => (putE env1 j v).bind fun env2 => (putE env2 k w).bind fun env3 => .ok (.nx env3 z.2)
/-- x[e] = v, x an own list -/
@[simp] def sSetI (i : Nat) (e v : ME) : MS := fun env st => (v env st).bind fun y => y.1.val.bind fun u => (e env y.2).bind fun x => match getE env i, x.1 with
  | .ow ds, .im (.int k) => (match ixD ds.length k with
    | some j => .ok (.nx (setE env i (.ow (ds.set j u))) x.2)
    | none => .st)
  | _, _ => .st
@[simp] def sAppend (i : Nat) (v : ME) : MS := fun env st => (v env st).bind fun y => y.1.val.bind fun u => match getE env i with
  | .ow ds => if ds.length < LIM then .ok (.nx (setE env i (.ow (ds ++ [u]))) y.2) else .st
  | _ => .st
@[simp] def sExtend (i : Nat) (v : ME) : MS := fun env st => (v env st).bind fun y => y.1.val.bind fun u => match getE env i, u with
  | .ow ds, .list es => if ds.length + es.length ≤ LIM then .ok (.nx (setE env i (.ow (ds ++ es))) y.2) else .st
  | _, _ => .st
@[simp] def sPop (i : Nat) : MS := fun env st => match getE env i with
  | .ow ds => if ds ≠ [] then .ok (.nx (setE env i (.ow ds.dropLast)) st) else .st
  | _ => .st
@[simp] def sRet (a : ME) : MS := fun env st => (a env st).bind fun x => x.1.val.bind fun u => .ok (.rt u x.2)
/-- a new list, given out as such -/
@[simp] def sRetF (a : ME) : MS := fun env st => (a env st).bind fun x => match x.1 with
  | .ow ds => .ok (.ro ds x.2)
  | _ => .st
/-- a list of one's own, given out as such -/
@[simp] def sRetOwn (i : Nat) : MS := fun env st => match getE env i with
  | .ow ds => .ok (.ro ds st)
  | _ => .st
@[simp] def sRetN : MS := fun _ st => .ok (.rt .none st)
/-- return x, x an own list -/
def sRetO (i : Nat) : MS := fun env st => match getE env i with
  | .ow ds => .ok (.rt (.list ds) st)
  | _ => .st
@[simp] def sIf (c : ME) (a b : MS) : MS := fun env st => (c env st).bind fun x => match x.1 with
  | .im (.bool true) => a env x.2
  | .im (.bool false) => b env x.2
  | _ => .st
/-- an own list in slot i is no more changed -/
@[simp] def sFrz (i : Nat) (s : MS) : MS := fun env st => match getE env i with
  | .ow ds => s (setE env i (.im (.list ds))) st
  | _ => s env st
@[simp] def sNever : MS := fun _ _ => .st
def forL (p : Pat) (b : MS) : List D → Env → Pt → R Out
  | [], env, st => .ok (.nx env st)
  | d :: r, env, st => (p.set d env).bind fun env1 => (b env1 st).bind fun o => match o with
    | .nx env2 st2 => forL p b r env2 st2
    | .rt x st2 => .ok (.rt x st2)
    | .ro x st2 => .ok (.ro x st2)
def sFor (it : MI) (p : Pat) (b : MS) : MS := fun env st => (it env st).bind fun x => forL p b x.1 env x.2
def whileL (c : ME) (b : MS) : Nat → Env → Pt → R Out
  | 0, _, _ => .st
  | n + 1, env, st => (c env st).bind fun x => match x.1 with
    | .im (.bool true) => (b env x.2).bind fun o => (match o with
      | .nx env2 st2 => whileL c b n env2 st2
      | .rt y st2 => .ok (.rt y st2)
      | .ro y st2 => .ok (.ro y st2))
    | .im (.bool false) => .ok (.nx env x.2)
    | _ => .st
/-- the number tells how many turns at most: of the slots at the loop's start -/
def sWhile (fuel : Env → Nat) (c : ME) (b : MS) : MS := fun env st => whileL c b (fuel env) env st
/-- as many turns as the number in a slot, and two -/
@[simp] def fuelV (i : Nat) : Env → Nat := fun env => match getE env i with
  | .im (.int n) => n.toNat + 2
  | _ => 1000
/-! ### a def -/
@[simp] def startE (n : Nat) (ds : List D) : Env := ds.map EV.im ++ List.replicate (n - ds.length) .no
/-- a parameters, n slots -/
@[simp] def runP (a n : Nat) (s : MS) : PF := fun ds => if ds.length = a then (s (startE n ds) []).bind fun o => match o with
  | .nx _ _ => .ok .none
  | .rt x _ => .ok x
  | .ro x _ => .ok (.list x)
  else .st
/-- a def that gives a new list -/
abbrev PFo := List D → R (List D)
@[simp] def runPo (a n : Nat) (s : MS) : PFo := fun ds => if ds.length = a then (s (startE n ds) []).bind fun o => match o with
  | .ro x _ => .ok x
  | _ => .st
  else .st
@[simp] def mCallO (f : PFo) (as : MA) : ME := fun env st => (as env st).bind fun x => (f x.1).bind fun z => .ok (.ow z, x.2)
/-- the pot in slot 0 (no value of its own), the other arguments behind it -/
@[simp] def runD (a n : Nat) (s : MS) : PD := fun ds st => if ds.length + 1 = a then (s (.pt :: startE (n - 1) ds) st).bind fun o => match o with
  | .nx _ st1 => .ok (.none, st1)
  | .rt x st1 => .ok (x, st1)
  | .ro x st1 => .ok (.list x, st1)
  else .st
section
variable {d : D} {ds xs ys : List D} {ns : List Int} {a b i k : Int} {p q : Bool} {x y : PySem.Str} {kvs : List (D × D)} {r : List D} {lo hi : Option Int}
@[simp] theorem view_im : EV.view (.im d) = .ok d := rfl
@[simp] theorem view_ow : EV.view (.ow ds) = .ok (.list ds) := rfl
@[simp] theorem view_bo : EV.view (.bo ds) = .ok (.list ds) := rfl
@[simp] theorem val_im : EV.val (.im d) = .ok d := rfl
@[simp] theorem val_ow : EV.val (.ow ds) = .ok (.list ds) := rfl
@[simp] theorem isPt_no : isPt .no = false := rfl
@[simp] theorem isPt_pt : isPt .pt = true := rfl
@[simp] theorem isPt_im : isPt (.im d) = false := rfl
@[simp] theorem isPt_ow : isPt (.ow ds) = false := rfl
@[simp] theorem isPt_bo : isPt (.bo ds) = false := rfl
@[simp] theorem isPt_fz : isPt (.fz ns) = false := rfl
@[simp] theorem isLk_no : isLk .no = false := rfl
@[simp] theorem isLk_pt : isLk .pt = true := rfl
@[simp] theorem isLk_im : isLk (.im d) = false := rfl
@[simp] theorem isLk_ow : isLk (.ow ds) = true := rfl
@[simp] theorem isLk_bo : isLk (.bo ds) = false := rfl
@[simp] theorem isLk_fz : isLk (.fz ns) = false := rfl
@[simp] theorem oAdd_i : oAdd (.int a) (.int b) = .ok (.im (.int (a + b))) := rfl
@[simp] theorem oAdd_l : oAdd (.list xs) (.list ys) = if xs.length + ys.length ≤ LIM then .ok (.ow (xs ++ ys)) else .st := rfl
@[simp] theorem oAdd_t : oAdd (.tuple xs) (.tuple ys) = if xs.length + ys.length ≤ LIM then .ok (.im (.tuple (xs ++ ys))) else .st := rfl
@[simp] theorem oAdd_s : oAdd (.str x) (.str y) = if x.length + y.length ≤ LIM then .ok (.im (.str (x ++ y))) else .st := rfl
@[simp] theorem oSub_i : oSub (.int a) (.int b) = .ok (.im (.int (a - b))) := rfl
@[simp] theorem oMul_i : oMul (.int a) (.int b) = if mulOk a b then .ok (.im (.int (a * b))) else .st := rfl
@[simp] theorem oMul_l : oMul (.list xs) (.int k) = if xs.length * k.toNat ≤ LIM ∧ k ≤ LIM ∧ -(LIM : Int) ≤ k then .ok (.ow (List.replicate k.toNat xs).flatten) else .st := rfl
@[simp] theorem oMul_t : oMul (.tuple xs) (.int k) = if xs ≠ [] ∧ 2 ≤ k ∧ k ≤ 1000 ∧ xs.length ≤ 1000 then .ok (.im (.tuple (List.replicate k.toNat xs).flatten)) else .st := rfl
@[simp] theorem oDiv_i : oDiv (.int a) (.int b) = if b = 0 ∨ PySem.Builtin.divisionGoesByPylong a b = true then .st else .ok (.im (.int (a.fdiv b))) := rfl
@[simp] theorem oMod_i : oMod (.int a) (.int b) = if b = 0 then .st else .ok (.im (.int (a.fmod b))) := rfl
@[simp] theorem oPow_i : oPow (.int a) (.int b) = if 0 ≤ b ∧ b ≤ 1000000 ∧ a.natAbs < 2 ^ 64 then .ok (.im (.int (a ^ b.toNat))) else .st := rfl
@[simp] theorem oLt_i : oLt (.int a) (.int b) = bl (decide (a < b)) := rfl
@[simp] theorem oLe_i : oLe (.int a) (.int b) = bl (decide (a ≤ b)) := rfl
@[simp] theorem oGt_i : oGt (.int a) (.int b) = bl (decide (b < a)) := rfl
@[simp] theorem oGe_i : oGe (.int a) (.int b) = bl (decide (b ≤ a)) := rfl
@[simp] theorem oIx_l : oIx (.list xs) (.int i) = match atD xs i with
  | some d => .ok (.im d)
  | none => .st := rfl
@[simp] theorem oIx_t : oIx (.tuple xs) (.int i) = match atD xs i with
  | some d => .ok (.im d)
  | none => .st := rfl
@[simp] theorem oNeg_i : oNeg (.int a) = .ok (.im (.int (-a))) := rfl
@[simp] theorem oNot_b : oNot (.bool p) = bl (!p) := rfl
@[simp] theorem oIs_n : oIs .none .none = bl true := rfl
@[simp] theorem oIs_b : oIs (.bool p) (.bool q) = bl (p == q) := rfl
@[simp] theorem oIs_bn : oIs (.bool p) .none = bl false := rfl
@[simp] theorem oIs_in : oIs (.int a) .none = bl false := rfl
@[simp] theorem oIs_tn : oIs (.tuple xs) .none = bl false := rfl
@[simp] theorem oIs_ln : oIs (.list xs) .none = bl false := rfl
@[simp] theorem oIsN_n : oIsN .none .none = bl false := rfl
@[simp] theorem oIsN_b : oIsN (.bool p) (.bool q) = bl (!(p == q)) := rfl
@[simp] theorem oIsN_bn : oIsN (.bool p) .none = bl true := rfl
@[simp] theorem oIsN_in : oIsN (.int a) .none = bl true := rfl
@[simp] theorem oIsN_tn : oIsN (.tuple xs) .none = bl true := rfl
@[simp] theorem oIsN_ln : oIsN (.list xs) .none = bl true := rfl
@[simp] theorem bLen_l : bLen [.list xs] = .ok (.im (.int xs.length)) := rfl
@[simp] theorem bLen_t : bLen [.tuple xs] = .ok (.im (.int xs.length)) := rfl
@[simp] theorem bLen_d : bLen [.dict kvs] = .ok (.im (.int kvs.length)) := rfl
@[simp] theorem bLen_s : bLen [.str x] = if x.length ≤ LIM then .ok (.im (.int x.length)) else .st := rfl
@[simp] theorem bAbs_i : bAbs [.int a] = .ok (.im (.int (if a < 0 then -a else a))) := rfl
@[simp] theorem bInt_i : bInt [.int a] = .ok (.im (.int a)) := rfl
@[simp] theorem bInt_b : bInt [.bool p] = .ok (.im (.int (if p then 1 else 0))) := rfl
@[simp] theorem intsOf_0 : intsOf [] = some [] := rfl
@[simp] theorem intsOf_1 : intsOf (.int i :: r) = (intsOf r).map (i :: ·) := rfl
@[simp] theorem boolsOf_0 : boolsOf [] = some [] := rfl
@[simp] theorem boolsOf_1 : boolsOf (.bool p :: r) = (boolsOf r).map (p :: ·) := rfl
@[simp] theorem bMax_2 : bMax [.int a, .int b] = .ok (.im (.int (if b > a then b else a))) := rfl
@[simp] theorem bMin_2 : bMin [.int a, .int b] = .ok (.im (.int (if b < a then b else a))) := rfl
theorem bMax_l : bMax [.list xs] = match intsOf xs with
    | some (x :: r) => .ok (.im (.int (r.foldl max x)))
    | _ => .st := rfl
theorem bMin_l : bMin [.list xs] = match intsOf xs with
    | some (x :: r) => .ok (.im (.int (r.foldl min x)))
    | _ => .st := rfl
theorem bSum_l : bSum [.list xs] = match intsOf xs with
    | some ns => .ok (.im (.int ns.sum))
    | _ => .st := rfl
theorem bAll_l : bAll [.list xs] = match boolsOf xs with
    | some bs => bl (bs.all id)
    | _ => .st := rfl
theorem bAny_l : bAny [.list xs] = match boolsOf xs with
    | some bs => bl (bs.any id)
    | _ => .st := rfl
@[simp] theorem bList_l : bList [.list xs] = .ok (.ow xs) := rfl
@[simp] theorem bList_t : bList [.tuple xs] = .ok (.ow xs) := rfl
@[simp] theorem revLO_l : revLO (.list xs) = .ok (.ow xs.reverse) := rfl
@[simp] theorem bTuple_l : bTuple [.list xs] = .ok (.im (.tuple xs)) := rfl
@[simp] theorem bTuple_t : bTuple [.tuple xs] = .ok (.im (.tuple xs)) := rfl
@[simp] theorem cutO_l : cutO (.list xs) lo hi = .ok (.ow (cutD xs lo hi)) := rfl
@[simp] theorem cutO_t : cutO (.tuple xs) lo hi = .ok (.im (.tuple (cutD xs lo hi))) := rfl
@[simp] theorem itemsO_l : itemsO (.list xs) = .ok xs := rfl
@[simp] theorem itemsO_t : itemsO (.tuple xs) = .ok xs := rfl
@[simp] theorem getE_0 {e : EV} {r : Env} : getE (e :: r) 0 = e := rfl
end
theorem oEq_str (x y : PySem.Str) : oEq (.str x) (.str y) = bl (x == y) := by
  unfold oEq
  split
  · simp [PySem.PyData.eqv]
  · rfl
theorem oNe_str (x y : PySem.Str) : oNe (.str x) (.str y) = bl (!(x == y)) := by
  unfold oNe
  split
  · simp [PySem.PyData.eqv]
  · rfl
end BP

namespace BP
/-! ### numbers -/
theorem log2_le {a : Int} {m : Nat} (h : a.natAbs < 2 ^ m) : a.natAbs.log2 ≤ m := by
  by_cases h0 : a.natAbs = 0
  · rw [h0]
    exact Nat.zero_le _
  · exact Nat.le_of_lt ((Nat.log2_lt h0).mpr h)
theorem mulOk_of {a b : Int} (m n : Nat) (ha : a.natAbs < 2 ^ m) (hb : b.natAbs < 2 ^ n) (h : m + n < 100000000) : mulOk a b = true := by
  have h1 := log2_le ha
  have h2 := log2_le hb
  exact decide_eq_true (by omega)
theorem divOk_of {a b : Int} (h : b.natAbs < 2 ^ 9000) : PySem.Builtin.divisionGoesByPylong a b = false := by
  refine PyProof.noPylong_of_log2 ?_
  by_cases h0 : b.natAbs = 0
  · rw [h0]
    decide +kernel
  · exact (Nat.log2_lt h0).mpr h
def qD (q : Rat) : D := .tuple [.int q.num, .int q.den]
/-! ### the lowest terms -/
def C_made : MS := (sSeq (sPar2 2 3 false false (mB bAbs (vCons (mVar 0) vNil)) (mB bAbs (vCons (mVar 1) vNil)))
  (sSeq (sWhile (fuelV 3) (mBin oGt (mVar 3) (mC (.int 0))) (sPar2 2 3 false false (mVar 3) (mBin oMod (mB bInt (vCons (mVar 2) vNil)) (mVar 3))))
  (sSeq (sSet 2 (mIf (mBin oGt (mVar 1) (mC (.int 0))) (mVar 2) (mBin oSub (mC (.int 0)) (mVar 2))))
  (sRet (mTup (aCons (mBin oDiv (mVar 0) (mVar 2)) (aCons (mBin oDiv (mVar 1) (mVar 2)) aNil)))))))
/-- a loop of a greatest common divisor, over slots 2 and 3 -/
theorem gcd_loop (x y : EV) (st : Pt) : ∀ (n : Nat) (a b : Nat), b < n → whileL (mBin oGt (mVar 3) (mC (.int 0))) (sPar2 2 3 false false (mVar 3) (mBin oMod (mB bInt (vCons (mVar 2) vNil)) (mVar 3))) n [x, y, .im (.int a), .im (.int b)] st = .ok (.nx [x, y, .im (.int (a.gcd b : Nat)), .im (.int 0)] st)
  | 0, _, _, h => absurd h (Nat.not_lt_zero _)
  | n + 1, a, b, h => by
    by_cases hb : b = 0
    · subst hb
      simp [whileL]
    · have hb' : 0 < b := Nat.pos_of_ne_zero hb
      have e : ((a : Int).fmod (b : Int)) = (a : Int) % (b : Int) := Int.fmod_eq_emod_of_nonneg _ (Int.natCast_nonneg b)
      have ih := gcd_loop x y st n b (a % b) (by have := Nat.mod_lt a hb'; omega)
      have g : b.gcd (a % b) = a.gcd b := by rw [Nat.gcd_comm, ← Nat.gcd_rec, Nat.gcd_comm]
      rw [g] at ih
      simp only [Int.natCast_emod] at ih
      simp [whileL, hb, hb', e, ih]
theorem made_sgn (t b : Int) (h : 0 < b) : (Rat.divInt t b).num = t / (b.gcd t : Nat) ∧ ((Rat.divInt t b).den : Int) = b / (b.gcd t : Nat) := by
  constructor
  · rw [Rat.num_divInt, Int.sign_eq_one_of_pos h, Int.one_mul]
  · rw [Rat.den_divInt, if_neg (by omega)]
    rw [Int.natCast_ediv]
    congr 1
    omega
theorem C_made_ok (t b : Int) (st : Pt) (hb : 0 < b) (hs : b.natAbs < 2 ^ 9000) : C_made [.im (.int t), .im (.int b), .no, .no] st = .ok (.rt (qD (Rat.divInt t b)) st) := by
  have ga : (if t < 0 then -t else t) = (t.natAbs : Int) := by omega
  have gb : (if b < 0 then -b else b) = (b.natAbs : Int) := by omega
  have L := gcd_loop (.im (.int t)) (.im (.int b)) st (b.natAbs + 2) t.natAbs b.natAbs (by omega)
  have hg : 0 < t.natAbs.gcd b.natAbs := Nat.gcd_pos_of_pos_right _ (by omega)
  have hle : t.natAbs.gcd b.natAbs ≤ b.natAbs := Nat.gcd_le_right _ (by omega)
  have hg0 : ¬ ((t.natAbs.gcd b.natAbs : Nat) : Int) = 0 := by omega
  have d1 : ∀ x : Int, PySem.Builtin.divisionGoesByPylong x ((t.natAbs.gcd b.natAbs : Nat) : Int) = false := fun x => divOk_of (by
    show (t.natAbs.gcd b.natAbs) < 2 ^ 9000
    omega)
  have f1 : ∀ x : Int, x.fdiv ((t.natAbs.gcd b.natAbs : Nat) : Int) = x / ((t.natAbs.gcd b.natAbs : Nat) : Int) := fun x => Int.fdiv_eq_ediv_of_nonneg _ (by omega)
  obtain ⟨m1, m2⟩ := made_sgn t b hb
  have eg : b.gcd t = t.natAbs.gcd b.natAbs := by
    show b.natAbs.gcd t.natAbs = _
    exact Nat.gcd_comm _ _
  rw [eg] at m1 m2
  have tn : ((b.natAbs : Int)).toNat = b.natAbs := Int.toNat_natCast _
  unfold C_made
  simp only [sSeq, sPar2, mB, vCons, mVar, getE, vNil, R.bind, EV.view, bAbs, ga, gb, keepE, EV.val, putE, setE, isPt, sWhile, fuelV, Bool.false_eq_true, if_false, tn, L, sSet, mIf, mBin, mC, oGt, bl, hb, decide_true, sRet, mTup, aCons, aNil, oDiv, hg0, d1, or_self, f1, LIM, List.length_cons, List.length_nil, if_true]
  simp [qD, m1, m2]
end BP

namespace BP
/-! ### fractions -/
/-- number and bottom below 2 ** k -/
def Qs (k : Nat) (q : Rat) : Prop := q.num.natAbs < 2 ^ k ∧ q.den < 2 ^ k
theorem Qs.mono {k l : Nat} {q : Rat} (h : Qs k q) (hl : k ≤ l) : Qs l q :=
  ⟨Nat.lt_of_lt_of_le h.1 (Nat.pow_le_pow_right (by decide) hl), Nat.lt_of_lt_of_le h.2 (Nat.pow_le_pow_right (by decide) hl)⟩
theorem Qs_div {n : Int} {d : Nat} {k : Nat} (hd : d ≠ 0) (h1 : n.natAbs < 2 ^ k) (h2 : d < 2 ^ k) : Qs k (Rat.divInt n d) := by
  rw [Rat.divInt_ofNat]
  constructor
  · rw [Rat.num_mkRat, if_neg hd]
    refine Nat.lt_of_le_of_lt ?_ h1
    have := Int.natAbs_ediv_le_natAbs n ((d.gcd n.natAbs : Nat) : Int)
    exact this
  · rw [Rat.den_mkRat, if_neg hd]
    exact Nat.lt_of_le_of_lt (Nat.div_le_self _ _) h2
theorem mul_lt_pow {a b k l : Nat} (ha : a < 2 ^ k) (hb : b < 2 ^ l) : a * b < 2 ^ (k + l) := by
  rw [Nat.pow_add]
  by_cases h : b = 0
  · rw [h, Nat.mul_zero]
    exact Nat.mul_pos (Nat.pow_pos (by decide)) (Nat.pow_pos (by decide))
  · exact Nat.lt_of_lt_of_le (Nat.mul_lt_mul_of_pos_right ha (Nat.pos_of_ne_zero h)) (Nat.mul_le_mul_left _ (Nat.le_of_lt hb))
theorem add_dv (p q : Rat) : Rat.divInt (p.num * q.den + q.num * p.den) ((p.den * q.den : Nat) : Int) = p + q := by rw [Rat.divInt_ofNat, ← Rat.add_def']
theorem sub_dv (p q : Rat) : Rat.divInt (p.num * q.den - q.num * p.den) ((p.den * q.den : Nat) : Int) = p - q := by rw [Rat.divInt_ofNat, ← Rat.sub_def']
theorem mul_dv (p q : Rat) : Rat.divInt (p.num * q.num) ((p.den * q.den : Nat) : Int) = p * q := by rw [Rat.divInt_ofNat, ← Rat.mul_def']
theorem Qs_mul {k l : Nat} {p q : Rat} (hp : Qs k p) (hq : Qs l q) : Qs (k + l) (p * q) := by
  rw [← mul_dv]
  refine Qs_div (Nat.mul_ne_zero p.den_nz q.den_nz) ?_ (mul_lt_pow hp.2 hq.2)
  rw [Int.natAbs_mul]
  exact mul_lt_pow hp.1 hq.1
theorem num_add_lt {k l : Nat} {p q : Rat} (hp : Qs k p) (hq : Qs l q) (s : Int) (hs : s.natAbs = 1) : (p.num * q.den + s * (q.num * p.den)).natAbs < 2 ^ (k + l + 1) := by
  have h1 : (p.num * (q.den : Int)).natAbs < 2 ^ (k + l) := by
    rw [Int.natAbs_mul]
    exact mul_lt_pow hp.1 (by simpa using hq.2)
  have h2 : (s * (q.num * (p.den : Int))).natAbs < 2 ^ (k + l) := by
    rw [Int.natAbs_mul, hs, Nat.one_mul, Int.natAbs_mul, Nat.add_comm k l]
    exact mul_lt_pow hq.1 (by simpa using hp.2)
  have h3 := Int.natAbs_add_le (p.num * (q.den : Int)) (s * (q.num * (p.den : Int)))
  rw [Nat.pow_succ]
  omega
theorem Qs_add {k l : Nat} {p q : Rat} (hp : Qs k p) (hq : Qs l q) : Qs (k + l + 1) (p + q) := by
  rw [← add_dv]
  refine Qs_div (Nat.mul_ne_zero p.den_nz q.den_nz) ?_ (Nat.lt_trans (mul_lt_pow hp.2 hq.2) (Nat.pow_lt_pow_right (by decide) (by omega)))
  have := num_add_lt hp hq 1 rfl
  rwa [Int.one_mul] at this
theorem Qs_sub {k l : Nat} {p q : Rat} (hp : Qs k p) (hq : Qs l q) : Qs (k + l + 1) (p - q) := by
  rw [← sub_dv]
  refine Qs_div (Nat.mul_ne_zero p.den_nz q.den_nz) ?_ (Nat.lt_trans (mul_lt_pow hp.2 hq.2) (Nat.pow_lt_pow_right (by decide) (by omega)))
  have := num_add_lt hp hq (-1) rfl
  rwa [Int.neg_one_mul, ← Int.sub_eq_add_neg] at this
def MadeOk (g : PF) : Prop := ∀ t b : Int, 0 < b → b.natAbs < 2 ^ 9000 → g [.int t, .int b] = .ok (qD (Rat.divInt t b))
theorem C_made_okF : MadeOk (runP 2 4 C_made) := fun t b hb hs => by
  have h := C_made_ok t b [] hb hs
  simp [runP, startE, h]
def C_plus (g : PF) : MS := (sRet (mCall g (aCons (mBin oAdd (mBin oMul (mBin oIx (mVar 0) (mC (.int 0))) (mBin oIx (mVar 1) (mC (.int 1)))) (mBin oMul (mBin oIx (mVar 1) (mC (.int 0))) (mBin oIx (mVar 0) (mC (.int 1))))) (aCons (mBin oMul (mBin oIx (mVar 0) (mC (.int 1))) (mBin oIx (mVar 1) (mC (.int 1)))) aNil))))
def C_less (g : PF) : MS := (sRet (mCall g (aCons (mBin oSub (mBin oMul (mBin oIx (mVar 0) (mC (.int 0))) (mBin oIx (mVar 1) (mC (.int 1)))) (mBin oMul (mBin oIx (mVar 1) (mC (.int 0))) (mBin oIx (mVar 0) (mC (.int 1))))) (aCons (mBin oMul (mBin oIx (mVar 0) (mC (.int 1))) (mBin oIx (mVar 1) (mC (.int 1)))) aNil))))
def C_times (g : PF) : MS := (sRet (mCall g (aCons (mBin oMul (mBin oIx (mVar 0) (mC (.int 0))) (mBin oIx (mVar 1) (mC (.int 0)))) (aCons (mBin oMul (mBin oIx (mVar 0) (mC (.int 1))) (mBin oIx (mVar 1) (mC (.int 1)))) aNil))))
def C_below : MS := (sRet (mBin oLt (mBin oMul (mBin oIx (mVar 0) (mC (.int 0))) (mBin oIx (mVar 1) (mC (.int 1)))) (mBin oMul (mBin oIx (mVar 1) (mC (.int 0))) (mBin oIx (mVar 0) (mC (.int 1))))))
@[simp] theorem at0 {α : Type} (x : α) (xs : List α) : atD (x :: xs) 0 = some x := by simp [atD, ixD]
@[simp] theorem at1 {α : Type} (x y : α) (xs : List α) : atD (x :: y :: xs) 1 = some y := by
  have h : (1 : Int) < (xs.length : Int) + 1 + 1 := by omega
  simp [atD, ixD, h]
theorem mulOk_q {k l : Nat} {p q : Rat} (hp : Qs k p) (hq : Qs l q) (h : k + l < 9000) : mulOk p.num q.den = true ∧ mulOk q.num p.den = true ∧ mulOk (p.den : Int) (q.den : Int) = true ∧ mulOk p.num q.num = true :=
  ⟨mulOk_of k l hp.1 (by simpa using hq.2) (by omega), mulOk_of l k hq.1 (by simpa using hp.2) (by omega), mulOk_of k l (by simpa using hp.2) (by simpa using hq.2) (by omega), mulOk_of k l hp.1 hq.1 (by omega)⟩
theorem den_ok {k l : Nat} {p q : Rat} (hp : Qs k p) (hq : Qs l q) (h : k + l < 9000) : 0 < (p.den : Int) * (q.den : Int) ∧ ((p.den : Int) * (q.den : Int)).natAbs < 2 ^ 9000 := by
  have h1 := p.den_pos
  have h2 := q.den_pos
  refine ⟨Int.mul_pos (by omega) (by omega), ?_⟩
  rw [Int.natAbs_mul]
  exact Nat.lt_of_lt_of_le (mul_lt_pow (k := k) (l := l) (by simpa using hp.2) (by simpa using hq.2)) (Nat.pow_le_pow_right (by decide) (by omega))
def PlusOk (f : PF) : Prop := ∀ (k l : Nat) (p q : Rat), Qs k p → Qs l q → k + l < 9000 → f [qD p, qD q] = .ok (qD (p + q))
def LessOk (f : PF) : Prop := ∀ (k l : Nat) (p q : Rat), Qs k p → Qs l q → k + l < 9000 → f [qD p, qD q] = .ok (qD (p - q))
def TimesOk (f : PF) : Prop := ∀ (k l : Nat) (p q : Rat), Qs k p → Qs l q → k + l < 9000 → f [qD p, qD q] = .ok (qD (p * q))
def BelowOk (f : PF) : Prop := ∀ (k l : Nat) (p q : Rat), Qs k p → Qs l q → k + l < 9000 → f [qD p, qD q] = .ok (.bool (decide (p < q)))
theorem C_plus_ok {g : PF} (hg : MadeOk g) : PlusOk (runP 2 2 (C_plus g)) := fun k l p q hp hq h => by
  obtain ⟨m1, m2, m3, m4⟩ := mulOk_q hp hq h
  obtain ⟨d1, d2⟩ := den_ok hp hq h
  have e := add_dv p q
  rw [Int.natCast_mul] at e
  simp [C_plus, qD, m1, m2, m3, hg _ _ d1 d2, e]
theorem C_less_ok {g : PF} (hg : MadeOk g) : LessOk (runP 2 2 (C_less g)) := fun k l p q hp hq h => by
  obtain ⟨m1, m2, m3, m4⟩ := mulOk_q hp hq h
  obtain ⟨d1, d2⟩ := den_ok hp hq h
  have e := sub_dv p q
  rw [Int.natCast_mul] at e
  simp [C_less, qD, m1, m2, m3, hg _ _ d1 d2, e]
theorem C_times_ok {g : PF} (hg : MadeOk g) : TimesOk (runP 2 2 (C_times g)) := fun k l p q hp hq h => by
  obtain ⟨m1, m2, m3, m4⟩ := mulOk_q hp hq h
  obtain ⟨d1, d2⟩ := den_ok hp hq h
  have e := mul_dv p q
  rw [Int.natCast_mul] at e
  simp [C_times, qD, m4, m3, hg _ _ d1 d2, e]
theorem C_below_ok : BelowOk (runP 2 2 C_below) := fun k l p q hp hq h => by
  obtain ⟨m1, m2, m3, m4⟩ := mulOk_q hp hq h
  simp [C_below, qD, m1, m2, Rat.lt_iff]
end BP

namespace BP
/-! ### numbers over a common bottom: q = t / n, t at most m times n -/
def In (n m : Nat) (q : Rat) : Prop := ∃ t : Int, q = Rat.divInt t n ∧ t.natAbs ≤ m * n
theorem In.qs {n m k : Nat} {q : Rat} (h : In n m q) (h0 : 0 < n) (h1 : n < 2 ^ k) (h2 : m * n < 2 ^ k) : Qs k q := by
  obtain ⟨t, rfl, ht⟩ := h
  exact Qs_div (by omega) (by omega) h1
theorem dv_eq (t : Int) {n : Nat} (h : 0 < n) : Rat.divInt t n = (t : Rat) / (n : Rat) := by
  rw [Rat.divInt_eq_div]
  rfl
theorem nz {n : Nat} (h : 0 < n) : (n : Rat) ≠ 0 := by
  intro z
  have : n = 0 := by exact_mod_cast z
  omega
theorem In.add {n m l : Nat} {p q : Rat} (h : In n m p) (k : In n l q) (h0 : 0 < n) : In n (m + l) (p + q) := by
  obtain ⟨t, rfl, ht⟩ := h
  obtain ⟨s, rfl, hs⟩ := k
  refine ⟨t + s, ?_, ?_⟩
  · rw [dv_eq _ h0, dv_eq _ h0, dv_eq _ h0]
    have := nz h0
    push_cast
    grind
  · rw [Nat.add_mul]
    omega
theorem In.neg {n m : Nat} {p : Rat} (h : In n m p) (h0 : 0 < n) : In n m (-p) := by
  obtain ⟨t, rfl, ht⟩ := h
  refine ⟨-t, ?_, by omega⟩
  rw [dv_eq _ h0, dv_eq _ h0]
  have := nz h0
  push_cast
  grind
theorem In.sub {n m l : Nat} {p q : Rat} (h : In n m p) (k : In n l q) (h0 : 0 < n) : In n (m + l) (p - q) := by
  rw [Rat.sub_eq_add_neg]
  exact h.add (k.neg h0) h0
theorem In.mul {n m n1 m1 : Nat} {p q : Rat} (h : In n m p) (k : In n1 m1 q) (h0 : 0 < n) (h1 : 0 < n1) : In (n * n1) (m * m1) (p * q) := by
  obtain ⟨t, rfl, ht⟩ := h
  obtain ⟨s, rfl, hs⟩ := k
  refine ⟨t * s, ?_, ?_⟩
  · rw [dv_eq _ h0, dv_eq _ h1, dv_eq _ (Nat.mul_pos h0 h1)]
    have := nz h0
    have := nz h1
    push_cast
    grind
  · rw [Int.natAbs_mul]
    refine Nat.le_trans (Nat.mul_le_mul ht hs) (Nat.le_of_eq ?_)
    simp [Nat.mul_left_comm, Nat.mul_comm, Nat.mul_assoc]
theorem In.mono {n m l : Nat} {q : Rat} (h : In n m q) (hm : m ≤ l) : In n l q := by
  obtain ⟨t, e, ht⟩ := h
  exact ⟨t, e, Nat.le_trans ht (Nat.mul_le_mul_right _ hm)⟩
theorem In.up {n m k : Nat} {q : Rat} (h : In n m q) (h0 : 0 < n) (hk : 0 < k) : In (n * k) m q := by
  obtain ⟨t, rfl, ht⟩ := h
  refine ⟨t * k, ?_, ?_⟩
  · rw [dv_eq _ h0, dv_eq _ (Nat.mul_pos h0 hk)]
    have := nz h0
    have := nz hk
    push_cast
    grind
  · rw [Int.natAbs_mul, Int.natAbs_natCast, ← Nat.mul_assoc]
    exact Nat.mul_le_mul_right _ ht
theorem In.dvd {n m k : Nat} {q : Rat} (h : In n m q) (h0 : 0 < k) (hk : n ∣ k) : In k m q := by
  obtain ⟨c, rfl⟩ := hk
  have := Nat.pos_of_mul_pos_right h0
  have := Nat.pos_of_mul_pos_left h0
  exact h.up (by omega) (by omega)
theorem In_int (n : Nat) (i : Int) (m : Nat) (h0 : 0 < n) (h : i.natAbs ≤ m) : In n m (i : Rat) := by
  refine ⟨i * n, ?_, ?_⟩
  · rw [dv_eq _ h0]
    have := nz h0
    push_cast
    grind
  · rw [Int.natAbs_mul, Int.natAbs_natCast]
    exact Nat.mul_le_mul_right _ h
theorem In_dv {n m : Nat} {t : Int} (h : t.natAbs ≤ m * n) : In n m (Rat.divInt t n) := ⟨t, rfl, h⟩
theorem In_zero (n m : Nat) (h0 : 0 < n) : In n m 0 := In_int n 0 m h0 (Nat.zero_le _)
/-- lists of such -/
def Inp (n m : Nat) (p : List Rat) : Prop := ∀ a ∈ p, In n m a
theorem Inp.mono {n m l : Nat} {p : List Rat} (h : Inp n m p) (hm : m ≤ l) : Inp n l p := fun a ha => (h a ha).mono hm
theorem Inp.strip {n m : Nat} {p : List Rat} (h : Inp n m p) : Inp n m (strip p) := fun a ha => h a (mem_strip ha)
theorem Inp.co {n m : Nat} {p : List Rat} (h : Inp n m p) (h0 : 0 < n) (k : Nat) : In n m (co p k) := by
  unfold BP.co
  by_cases hk : k < p.length
  · rw [List.getD_eq_getElem?_getD, List.getElem?_eq_getElem hk]
    exact h _ (List.getElem_mem hk)
  · rw [List.getD_eq_getElem?_getD, List.getElem?_eq_none (by omega)]
    exact In_zero n m h0
theorem Inp.padd {n m l : Nat} (h0 : 0 < n) : ∀ {p q : List Rat}, Inp n m p → Inp n l q → Inp n (m + l) (padd p q)
  | [], q, _, k => by
    simp
    exact k.mono (by omega)
  | a :: p, [], h, _ => by
    simp
    exact h.mono (by omega)
  | a :: p, b :: q, h, k => by
    intro z hz
    simp at hz
    rcases hz with rfl | hz
    · exact (h a (by simp)).add (k b (by simp)) h0
    · exact Inp.padd h0 (fun x hx => h x (List.mem_cons_of_mem _ hx)) (fun x hx => k x (List.mem_cons_of_mem _ hx)) z hz
theorem Inp.pmulc {n m n1 m1 : Nat} {p : List Rat} {c : Rat} (h : Inp n m p) (k : In n1 m1 c) (h0 : 0 < n) (h1 : 0 < n1) : Inp (n * n1) (m * m1) (pmulc c p) := by
  intro z hz
  unfold BP.pmulc at hz
  obtain ⟨a, ha, rfl⟩ := List.mem_map.mp hz
  exact (h a ha).mul k h0 h1
theorem Inp.addAt {n m l : Nat} (h0 : 0 < n) : ∀ {q r : List Rat} {i : Nat}, Inp n m r → Inp n l q → Inp n (m + q.length * l) (addAt r i q)
  | [], r, i, h, _ => by simpa [BP.addAt] using h
  | b :: q, r, i, h, k => by
    unfold BP.addAt
    have h2 : Inp n (m + l) (r.set i (BP.co r i + b)) := fun z hz => by
      rcases List.mem_or_eq_of_mem_set hz with hz | rfl
      · exact (h z hz).mono (by omega)
      · exact (h.co h0 i).add (k b (by simp)) h0
    have := Inp.addAt h0 (i := i + 1) h2 (fun x hx => k x (List.mem_cons_of_mem _ hx))
    refine this.mono ?_
    simp [Nat.add_mul]
    omega
theorem Inp.pmulRows {n m n1 m1 : Nat} (h0 : 0 < n) (h1 : 0 < n1) {q : List Rat} (hq : Inp n1 m1 q) : ∀ {p r : List Rat} {i l : Nat}, Inp n m p → Inp (n * n1) l r → Inp (n * n1) (l + p.length * (q.length * (m * m1))) (mulRows q r i p)
  | [], r, i, l, _, hr => by simpa [mulRows] using hr
  | a :: p, r, i, l, h, hr => by
    unfold mulRows
    have h2 : Inp (n * n1) (m * m1) (q.map (a * ·)) := fun z hz => by
      obtain ⟨b, hb, rfl⟩ := List.mem_map.mp hz
      exact (h a (by simp)).mul (hq b hb) h0 h1
    have h3 := Inp.addAt (Nat.mul_pos h0 h1) (i := i) hr h2
    rw [List.length_map] at h3
    have := Inp.pmulRows h0 h1 hq (i := i + 1) (fun x hx => h x (List.mem_cons_of_mem _ hx)) h3
    refine this.mono ?_
    simp [Nat.add_mul]
    omega
theorem Inp.pmul {n m n1 m1 : Nat} (h0 : 0 < n) (h1 : 0 < n1) {p q : List Rat} (hp : Inp n m p) (hq : Inp n1 m1 q) : Inp (n * n1) (p.length * (q.length * (m * m1))) (pmul p q) := by
  have hz : Inp (n * n1) 0 (zeros (p.length + q.length)) := fun z hz => by
    rw [List.eq_of_mem_replicate hz]
    exact In_zero _ _ (Nat.mul_pos h0 h1)
  have := Inp.pmulRows h0 h1 hq (i := 0) hp hz
  simpa [BP.pmul] using this
theorem Inp.ev {n m n1 m1 : Nat} (h0 : 0 < n) (h1 : 0 < n1) {x : Rat} (hx : In n1 m1 x) (hm : 1 ≤ m1) : ∀ {p : List Rat}, Inp n m p → In (n * n1 ^ p.length) (p.length * (m * m1 ^ p.length)) (BP.ev p x)
  | [], _ => by simpa using In_zero (n * 1) 0 (by omega)
  | a :: p, h => by
    have ih := Inp.ev h0 h1 hx hm fun x hx => h x (List.mem_cons_of_mem _ hx)
    have ha := h a (by simp)
    have hp := Nat.pow_pos (n := p.length) h1
    have i1 := hx.mul ih h1 (Nat.mul_pos h0 hp)
    have e1 : n1 * (n * n1 ^ p.length) = n * n1 ^ (p.length + 1) := by rw [Nat.pow_succ]; simp [Nat.mul_left_comm, Nat.mul_comm]
    rw [e1] at i1
    have i2 := ha.up h0 (Nat.pow_pos (n := p.length + 1) h1)
    have i3 := i2.add i1 (Nat.mul_pos h0 (Nat.pow_pos h1))
    simp only [List.length_cons, ev_cons]
    refine i3.mono ?_
    have e2 : m1 * (p.length * (m * m1 ^ p.length)) = p.length * (m * m1 ^ (p.length + 1)) := by rw [Nat.pow_succ]; simp [Nat.mul_left_comm, Nat.mul_comm]
    rw [e2, Nat.add_mul, Nat.one_mul, Nat.add_comm]
    have := Nat.pow_pos (n := p.length + 1) (a := m1) (by omega)
    have : m * 1 ≤ m * m1 ^ (p.length + 1) := Nat.mul_le_mul_left _ this
    omega
end BP

namespace BP
/-! ### lists -/
theorem lcL_map {p : Pat} {e : ME} {env : Env} {f : D → D} : ∀ {ds : List D} {st : Pt}, (∀ d ∈ ds, ∀ st, ∃ env1, p.set d env = .ok env1 ∧ e env1 st = .ok (.im (f d), st)) → lcL p (mC (.bool true)) e env ds st = .ok (ds.map f, st)
  | [], st, _ => by simp [lcL]
  | d :: ds, st, h => by
    obtain ⟨env1, e1, e2⟩ := h d List.mem_cons_self st
    have ih := lcL_map (st := st) (p := p) (e := e) (env := env) (f := f) fun x hx => h x (List.mem_cons_of_mem _ hx)
    simp [lcL, e1, e2, ih]
theorem boolsOf_map {α : Type} (g : α → Bool) : ∀ ds : List α, boolsOf (ds.map fun d => .bool (g d)) = some (ds.map g)
  | [] => by simp
  | d :: ds => by simp [boolsOf_map g ds]
theorem lc_bool {p : Pat} {vs : List Nat} {e : ME} {env : Env} {ds : List D} {st : Pt} (g : D → Bool) (hl : ds.length ≤ 1000000) (hv : (vs.any fun v => isLk (getE env v)) = false) (h : ∀ d ∈ ds, ∀ st, ∃ env1, p.set d (wipeE env vs) = .ok env1 ∧ e env1 st = .ok (.im (.bool (g d)), st)) {it : MI} (hit : it env st = .ok (ds, st)) :
    mLc it p vs (mC (.bool true)) e env st = .ok (.ow (ds.map fun d => .bool (g d)), st) := by
  have e1 := lcL_map (p := p) (e := e) (env := wipeE env vs) (f := fun d => .bool (g d)) (ds := ds) (st := st) h
  simp only [mLc, hit, R.bind, LIM, hl, hv, and_self, if_true, e1]
@[simp] theorem bAll_map (ds : List D) (g : D → Bool) : bAll [.list (ds.map fun d => .bool (g d))] = bl (ds.all g) := by
  rw [bAll_l, boolsOf_map]
  simp [List.all_map, Function.comp_def]
@[simp] theorem bAny_map (ds : List D) (g : D → Bool) : bAny [.list (ds.map fun d => .bool (g d))] = bl (ds.any g) := by
  rw [bAny_l, boolsOf_map]
  simp [List.any_map, Function.comp_def]
theorem cut1 {α : Type} (ds : List α) : cutD ds (some 1) none = ds.tail := by
  rw [← List.drop_one]
  unfold cutD
  cases ds with
  | nil => rfl
  | cons d r =>
    have e : sIxD (d :: r).length 0 (some 1) = 1 := by
      simp [sIxD]
    rw [e]
    show ((d :: r).drop 1).take ((d :: r).length - 1) = _
    exact List.take_of_length_le (by simp)
/-- the item, or None -/
def nth (ds : List D) (i : Nat) : D := ds.getD i .none
theorem zip_mem : ∀ {xs ys : List D} {d : D}, d ∈ zipL xs ys → ∃ x y, d = .tuple [x, y] ∧ x ∈ xs ∧ y ∈ ys
  | [], _, _, h => by simp at h
  | _ :: _, [], _, h => by simp at h
  | x :: xs, y :: ys, d, h => by
    rcases List.mem_cons.mp (by simpa using h) with h | h
    · exact ⟨x, y, h, List.mem_cons_self, List.mem_cons_self⟩
    · obtain ⟨a, b, e, h1, h2⟩ := zip_mem h
      exact ⟨a, b, e, List.mem_cons_of_mem _ h1, List.mem_cons_of_mem _ h2⟩
theorem zip_le : ∀ (xs ys : List D), (zipL xs ys).length ≤ xs.length
  | [], _ => by simp
  | _ :: _, [] => by simp
  | x :: xs, y :: ys => by
    have := zip_le xs ys
    simp
    omega
theorem at_ok (ds : List D) (i : Nat) (h : i < ds.length) : atD ds (i : Int) = some (nth ds i) := by
  unfold atD ixD nth
  rw [if_pos (Int.natCast_nonneg i), if_pos (by omega)]
  simp [h]
theorem cut_to {α : Type} (xs : List α) (k : Nat) : cutD xs none (some (k : Int)) = xs.take k := by
  have e : sIxD xs.length xs.length (some (k : Int)) = min k xs.length := by
    simp [sIxD]
    intro h
    omega
  have e0 : sIxD xs.length 0 none = 0 := rfl
  unfold cutD
  rw [e, e0, List.drop_zero, Nat.sub_zero]
  by_cases h : k ≤ xs.length
  · rw [Nat.min_eq_left h]
  · rw [Nat.min_eq_right (by omega), List.take_length, List.take_of_length_le (by omega)]
theorem cut_from {α : Type} (xs : List α) (k : Nat) : cutD xs (some (k : Int)) none = xs.drop k := by
  have e : sIxD xs.length 0 (some (k : Int)) = min k xs.length := by
    simp [sIxD]
    intro h
    omega
  have e0 : sIxD xs.length xs.length none = xs.length := rfl
  unfold cutD
  rw [e, e0]
  by_cases h : k ≤ xs.length
  · rw [Nat.min_eq_left h, List.take_of_length_le (by rw [List.length_drop]; omega)]
  · rw [Nat.min_eq_right (by omega), Nat.sub_self, List.take_zero, List.drop_of_length_le (by omega)]
end BP

namespace BP
open PySem (Str Stmt)
def m_is_list : MS := (sRet (mUn (oIsI .listtuple) (mVar 0)))
def F_is_list : PF := runP 1 1 m_is_list
def m_is_integer : MS := (sRet (mAnd (mUn (oIsI .int) (mVar 0)) (mUn oNot (mUn (oIsI .bool) (mVar 0)))))
def F_is_integer : PF := runP 1 1 m_is_integer
def fuel_divisor_1 : Env → Nat := fuelV 1
def b_divisor_1 : MS := (sPar2 0 1 false false (mVar 1) (mBin oMod (mB bInt (vCons (mVar 0) vNil)) (mVar 1)))
def m_divisor : MS := (sSeq (sWhile fuel_divisor_1 (mBin oGt (mVar 1) (mC (.int 0))) b_divisor_1)
  (sRet (mVar 0)))
def F_divisor : PF := runP 2 2 m_divisor
def m_is_fraction_of : MS := (sSeq (sIf (mOr (mUn oNot (mUn (oIsI .tuple) (mVar 0))) (mOr (mBin oNe (mB bLen (vCons (mVar 0) vNil)) (mC (.int 2))) (mOr (mUn oNot (mCall F_is_integer (aCons (mBin oIx (mVar 0) (mC (.int 0))) aNil))) (mUn oNot (mCall F_is_integer (aCons (mBin oIx (mVar 0) (mC (.int 1))) aNil)))))) (sRet (mC (.bool false))) sNil)
  (sRet (mAnd (mBin oGe (mBin oIx (mVar 0) (mC (.int 1))) (mC (.int 1))) (mBin oEq (mCall F_divisor (aCons (mB bAbs (vCons (mBin oIx (mVar 0) (mC (.int 0))) vNil)) (aCons (mBin oIx (mVar 0) (mC (.int 1))) aNil))) (mC (.int 1))))))
def F_is_fraction_of : PF := runP 1 1 m_is_fraction_of
def m_is_small : MS := (sRet (mAnd (mCall F_is_fraction_of (aCons (mVar 0) aNil)) (mAnd (mBin oLe (mB bAbs (vCons (mBin oIx (mVar 0) (mC (.int 0))) vNil)) (mC (.int 999))) (mBin oLe (mBin oIx (mVar 0) (mC (.int 1))) (mC (.int 99))))))
def F_is_small : PF := runP 1 1 m_is_small
def m_are_small : MS := (sRet (mAnd (mCall F_is_list (aCons (mVar 0) aNil)) (mB bAll (vCons (mLc (iSeq (mVar 0)) (.nm 1) [1] (mC (.bool true)) (mCall F_is_small (aCons (mVar 1) aNil))) vNil))))
def F_are_small : PF := runP 1 2 m_are_small
def m_check_poly : MS := (sIf (mOr (mUn oNot (mCall F_are_small (aCons (mVar 0) aNil))) (mBin oGt (mB bLen (vCons (mVar 0) vNil)) (mC (.int 5)))) sNever sNil)
def F_check_poly : PF := runP 1 1 m_check_poly
def fuel_told_of_1 : Env → Nat := fuelV 1
def b_told_of_1 : MS := (sPop 1)
def m_told_of : MS := (sSeq (sOwn 1 (mB bList (vCons (mVar 0) vNil)))
  (sSeq (sWhile fuel_told_of_1 (mAnd (mBin oNe (mVar 1) (mLst aNil)) (mBin oEq (mBin oIx (mVar 1) (mUn oNeg (mC (.int 1)))) (mC (.tuple [(.int 0), (.int 1)])))) b_told_of_1)
  (sFrz 1 (sRet (mVar 1)))))
def F_told_of : PF := runP 1 2 m_told_of
def m_told : MS := (sSeq (sExpr (mCall F_check_poly (aCons (mVar 0) aNil)))
  (sRet (mCall F_told_of (aCons (mVar 0) aNil))))
def F_told : PF := runP 1 1 m_told
def m_check_spot : MS := (sIf (mUn oNot (mCall F_is_small (aCons (mVar 0) aNil))) sNever sNil)
def F_check_spot : PF := runP 1 1 m_check_spot
def m_reduced : MS := (sSeq (sIf (mBin oLt (mVar 1) (mC (.int 0))) (sPar2 0 1 false false (mBin oSub (mC (.int 0)) (mVar 0)) (mBin oSub (mC (.int 0)) (mVar 1))) sNil)
  (sSeq (sSet 2 (mCall F_divisor (aCons (mB bAbs (vCons (mVar 0) vNil)) (aCons (mVar 1) aNil))))
  (sRet (mTup (aCons (mBin oDiv (mVar 0) (mVar 2)) (aCons (mBin oDiv (mVar 1) (mVar 2)) aNil))))))
def F_reduced : PF := runP 2 3 m_reduced
def m_add : MS := (sRet (mCall F_reduced (aCons (mBin oAdd (mBin oMul (mBin oIx (mVar 0) (mC (.int 0))) (mBin oIx (mVar 1) (mC (.int 1)))) (mBin oMul (mBin oIx (mVar 1) (mC (.int 0))) (mBin oIx (mVar 0) (mC (.int 1))))) (aCons (mBin oMul (mBin oIx (mVar 0) (mC (.int 1))) (mBin oIx (mVar 1) (mC (.int 1)))) aNil))))
def F_add : PF := runP 2 2 m_add
def m_multiply : MS := (sRet (mCall F_reduced (aCons (mBin oMul (mBin oIx (mVar 0) (mC (.int 0))) (mBin oIx (mVar 1) (mC (.int 0)))) (aCons (mBin oMul (mBin oIx (mVar 0) (mC (.int 1))) (mBin oIx (mVar 1) (mC (.int 1)))) aNil))))
def F_multiply : PF := runP 2 2 m_multiply
def b_value_of_1 : MS := (sSet 2 (mCall F_add (aCons (mCall F_multiply (aCons (mVar 2) (aCons (mVar 1) aNil))) (aCons (mVar 3) aNil))))
def m_value_of : MS := (sSeq (sSet 2 (mC (.tuple [(.int 0), (.int 1)])))
  (sSeq (sFor (iSeq (mUn revLO (mB bList (vCons (mVar 0) vNil)))) (.nm 3) b_value_of_1)
  (sRet (mVar 2))))
def F_value_of : PF := runP 2 4 m_value_of
def m_value_at : MS := (sSeq (sExpr (mCall F_check_poly (aCons (mVar 0) aNil)))
  (sSeq (sExpr (mCall F_check_spot (aCons (mVar 1) aNil)))
  (sRet (mCall F_value_of (aCons (mVar 0) (aCons (mVar 1) aNil))))))
def F_value_at : PF := runP 2 2 m_value_at
def m_check_polys : MS := (sSeq (sExpr (mCall F_check_poly (aCons (mVar 0) aNil)))
  (sExpr (mCall F_check_poly (aCons (mVar 1) aNil))))
def F_check_polys : PF := runP 2 2 m_check_polys
def m_plus_of : MS := (sSeq (sSet 2 (mB bMax (vCons (mB bLen (vCons (mVar 0) vNil)) (vCons (mB bLen (vCons (mVar 1) vNil)) vNil))))
  (sSeq (sPar2 3 4 false false (mBin oAdd (mB bList (vCons (mVar 0) vNil)) (mBin oMul (mLst (aCons (mC (.tuple [(.int 0), (.int 1)])) aNil)) (mBin oSub (mVar 2) (mB bLen (vCons (mVar 0) vNil))))) (mBin oAdd (mB bList (vCons (mVar 1) vNil)) (mBin oMul (mLst (aCons (mC (.tuple [(.int 0), (.int 1)])) aNil)) (mBin oSub (mVar 2) (mB bLen (vCons (mVar 1) vNil))))))
  (sRet (mCall F_told_of (aCons (mLc (iZipS (mVar 3) (mVar 4)) (.tp [(.nm 5), (.nm 6)]) [5, 6] (mC (.bool true)) (mCall F_add (aCons (mVar 5) (aCons (mVar 6) aNil)))) aNil)))))
def F_plus_of : PF := runP 2 7 m_plus_of
def m_plus : MS := (sSeq (sExpr (mCall F_check_polys (aCons (mVar 0) (aCons (mVar 1) aNil))))
  (sRet (mCall F_plus_of (aCons (mVar 0) (aCons (mVar 1) aNil)))))
def F_plus : PF := runP 2 2 m_plus
def m_is_within : MS := (sRet (mAnd (mCall F_is_integer (aCons (mVar 0) aNil)) (mChain oLe oLe (mVar 1) (mVar 0) (mVar 2))))
def F_is_within : PF := runP 3 3 m_is_within
def m_is_below : MS := (sRet (mBin oLt (mBin oMul (mBin oIx (mVar 0) (mC (.int 0))) (mBin oIx (mVar 1) (mC (.int 1)))) (mBin oMul (mBin oIx (mVar 1) (mC (.int 0))) (mBin oIx (mVar 0) (mC (.int 1))))))
def F_is_below : PF := runP 2 2 m_is_below
def m_is_stretch_of : MS := (sSeq (sIf (mOr (mUn oNot (mUn (oIsI .tuple) (mVar 0))) (mOr (mBin oNe (mB bLen (vCons (mVar 0) vNil)) (mC (.int 2))) (mUn oNot (mB bAll (vCons (mLc (iSeq (mVar 0)) (.nm 1) [1] (mC (.bool true)) (mCall F_is_small (aCons (mVar 1) aNil))) vNil))))) (sRet (mC (.bool false))) sNil)
  (sRet (mCall F_is_below (aCons (mBin oIx (mVar 0) (mC (.int 0))) (aCons (mBin oIx (mVar 0) (mC (.int 1))) aNil)))))
def F_is_stretch_of : PF := runP 1 2 m_is_stretch_of
def m_check_stretch : MS := (sIf (mUn oNot (mCall F_is_stretch_of (aCons (mVar 0) aNil))) sNever sNil)
def F_check_stretch : PF := runP 1 1 m_check_stretch
def m_check_sized : MS := (sSeq (sExpr (mCall F_check_poly (aCons (mVar 0) aNil)))
  (sSeq (sExpr (mCall F_check_stretch (aCons (mVar 1) aNil)))
  (sIf (mUn oNot (mCall F_is_within (aCons (mVar 2) (aCons (mC (.int 0)) (aCons (mC (.int 8)) aNil))))) sNever sNil)))
def F_check_sized : PF := runP 3 3 m_check_sized
def m_want_size : MS := (sIf (mBin oGt (mBin oSub (mB bLen (vCons (mCall F_told_of (aCons (mVar 0) aNil)) vNil)) (mC (.int 1))) (mVar 1)) sNever sNil)
def F_want_size : PF := runP 2 2 m_want_size
def m_take : MS := (sRet (mCall F_reduced (aCons (mBin oSub (mBin oMul (mBin oIx (mVar 0) (mC (.int 0))) (mBin oIx (mVar 1) (mC (.int 1)))) (mBin oMul (mBin oIx (mVar 1) (mC (.int 0))) (mBin oIx (mVar 0) (mC (.int 1))))) (aCons (mBin oMul (mBin oIx (mVar 0) (mC (.int 1))) (mBin oIx (mVar 1) (mC (.int 1)))) aNil))))
def F_take : PF := runP 2 2 m_take
def b_times_of_1 : MS := (sSetI 2 (mBin oAdd (mVar 3) (mVar 5)) (mCall F_add (aCons (mBin oIx (mVar 2) (mBin oAdd (mVar 3) (mVar 5))) (aCons (mCall F_multiply (aCons (mVar 4) (aCons (mVar 6) aNil))) aNil))))
def b_times_of_2 : MS := (sFor (iEnumL (mVar 1)) (.tp [(.nm 5), (.nm 6)]) b_times_of_1)
def m_times_of : MS := (sSeq (sOwn 2 (mBin oMul (mLst (aCons (mC (.tuple [(.int 0), (.int 1)])) aNil)) (mBin oAdd (mB bLen (vCons (mVar 0) vNil)) (mB bLen (vCons (mVar 1) vNil)))))
  (sSeq (sFor (iEnumL (mVar 0)) (.tp [(.nm 3), (.nm 4)]) b_times_of_2)
  (sFrz 2 (sRet (mCall F_told_of (aCons (mVar 2) aNil))))))
def F_times_of : PF := runP 2 7 m_times_of
def b_moved_of_1 : MS := (sSet 2 (mCall F_plus_of (aCons (mCall F_times_of (aCons (mVar 2) (aCons (mLst (aCons (mVar 1) (aCons (mTup (aCons (mC (.int 1)) (aCons (mC (.int 1)) aNil))) aNil))) aNil))) (aCons (mLst (aCons (mVar 3) aNil)) aNil))))
def m_moved_of : MS := (sSeq (sSet 2 (mLst aNil))
  (sSeq (sFor (iSeq (mUn revLO (mB bList (vCons (mVar 0) vNil)))) (.nm 3) b_moved_of_1)
  (sRet (mVar 2))))
def F_moved_of : PF := runP 2 4 m_moved_of
def b_stretched_of_1 : MS := (sSeq (sAppend 2 (mCall F_multiply (aCons (mVar 4) (aCons (mVar 3) aNil))))
  (sSet 3 (mCall F_multiply (aCons (mVar 3) (aCons (mVar 1) aNil)))))
def m_stretched_of : MS := (sSeq (sPar2 2 3 true false (mLst aNil) (mTup (aCons (mC (.int 1)) (aCons (mC (.int 1)) aNil))))
  (sSeq (sFor (iSeq (mVar 0)) (.nm 4) b_stretched_of_1)
  (sFrz 2 (sRet (mCall F_told_of (aCons (mVar 2) aNil))))))
def F_stretched_of : PF := runP 2 5 m_stretched_of
def b_picks_1 : MS := (sSet 2 (mBin oDiv (mBin oMul (mVar 2) (mBin oSub (mVar 0) (mVar 3))) (mBin oAdd (mVar 3) (mC (.int 1)))))
def m_picks : MS := (sSeq (sSet 2 (mC (.int 1)))
  (sSeq (sFor (iRange1 (mVar 1)) (.nm 3) b_picks_1)
  (sRet (mVar 2))))
def F_picks : PF := runP 2 4 m_picks
def b_corners_of_1 : MS := (sSet 7 (mCall F_add (aCons (mVar 7) (aCons (mCall F_multiply (aCons (mVar 9) (aCons (mCall F_reduced (aCons (mCall F_picks (aCons (mVar 6) (aCons (mVar 8) aNil))) (aCons (mCall F_picks (aCons (mVar 3) (aCons (mVar 8) aNil))) aNil))) aNil))) aNil))))
def b_corners_of_2 : MS := (sSeq (sSet 7 (mC (.tuple [(.int 0), (.int 1)])))
  (sSeq (sFor (iEnumL (mCut (mVar 4) oNone (oSome (mBin oAdd (mVar 6) (mC (.int 1)))))) (.tp [(.nm 8), (.nm 9)]) b_corners_of_1)
  (sAppend 5 (mVar 7))))
def m_corners_of : MS := (sSeq (sPar2 4 5 false true (mCall F_told_of (aCons (mCall F_stretched_of (aCons (mCall F_moved_of (aCons (mVar 0) (aCons (mVar 1) aNil))) (aCons (mCall F_take (aCons (mVar 2) (aCons (mVar 1) aNil))) aNil))) aNil)) (mLst aNil))
  (sSeq (sFor (iRange1 (mBin oAdd (mVar 3) (mC (.int 1)))) (.nm 6) b_corners_of_2)
  (sRetOwn 5)))
def F_corners_of : PFo := runPo 4 10 m_corners_of
def V_corners_of : PF := fun ds => (F_corners_of ds).bind fun es => .ok (.list es)
def m_corners : MS := (sSeq (sExpr (mCall F_check_sized (aCons (mVar 0) (aCons (mVar 1) (aCons (mVar 2) aNil)))))
  (sSeq (sExpr (mCall F_want_size (aCons (mVar 0) (aCons (mVar 2) aNil))))
  (sRetF (mCallO F_corners_of (aCons (mVar 0) (aCons (mBin oIx (mVar 1) (mC (.int 0))) (aCons (mBin oIx (mVar 1) (mC (.int 1))) (aCons (mVar 2) aNil))))))))
def F_corners : PFo := runPo 3 3 m_corners
def V_corners : PF := fun ds => (F_corners ds).bind fun es => .ok (.list es)
def m_check_row : MS := (sIf (mOr (mUn oNot (mCall F_is_list (aCons (mVar 0) aNil))) (mOr (mUn oNot (mChain oLe oLe (mC (.int 1)) (mB bLen (vCons (mVar 0) vNil)) (mBin oAdd (mC (.int 8)) (mC (.int 1))))) (mUn oNot (mCall F_are_small (aCons (mVar 0) aNil))))) sNever sNil)
def F_check_row : PF := runP 1 1 m_check_row
def m_divide : MS := (sRet (mCall F_reduced (aCons (mBin oMul (mBin oIx (mVar 0) (mC (.int 0))) (mBin oIx (mVar 1) (mC (.int 1)))) (aCons (mBin oMul (mBin oIx (mVar 0) (mC (.int 1))) (mBin oIx (mVar 1) (mC (.int 0)))) aNil))))
def F_divide : PF := runP 2 2 m_divide
def m_turned : MS := (sRet (mTup (aCons (mBin oSub (mC (.int 0)) (mBin oIx (mVar 0) (mC (.int 0)))) (aCons (mBin oIx (mVar 0) (mC (.int 1))) aNil))))
def F_turned : PF := runP 1 1 m_turned
def b_poly_by_1 : MS := (sSeq (sSet 8 (mCall F_multiply (aCons (mBin oIx (mVar 0) (mVar 7)) (aCons (mTup (aCons (mCall F_picks (aCons (mVar 5) (aCons (mVar 7) aNil))) (aCons (mC (.int 1)) aNil))) aNil))))
  (sSet 6 (mCall F_add (aCons (mVar 6) (aCons (mIf (mBin oEq (mBin oMul (mBin oDiv (mBin oSub (mVar 5) (mVar 7)) (mC (.int 2))) (mC (.int 2))) (mBin oSub (mVar 5) (mVar 7))) (mVar 8) (mCall F_turned (aCons (mVar 8) aNil))) aNil)))))
def b_poly_by_2 : MS := (sSeq (sSet 6 (mC (.tuple [(.int 0), (.int 1)])))
  (sSeq (sFor (iRange1 (mBin oAdd (mVar 5) (mC (.int 1)))) (.nm 7) b_poly_by_1)
  (sAppend 4 (mCall F_multiply (aCons (mVar 6) (aCons (mTup (aCons (mCall F_picks (aCons (mVar 3) (aCons (mVar 5) aNil))) (aCons (mC (.int 1)) aNil))) aNil))))))
def m_poly_by : MS := (sSeq (sPar2 3 4 false true (mBin oSub (mB bLen (vCons (mVar 0) vNil)) (mC (.int 1))) (mLst aNil))
  (sSeq (sFor (iRange1 (mBin oAdd (mVar 3) (mC (.int 1)))) (.nm 5) b_poly_by_2)
  (sFrz 4 (sRet (mCall F_told_of (aCons (mCall F_moved_of (aCons (mCall F_stretched_of (aCons (mCall F_told_of (aCons (mVar 4) aNil)) (aCons (mCall F_divide (aCons (mC (.tuple [(.int 1), (.int 1)])) (aCons (mCall F_take (aCons (mVar 2) (aCons (mVar 1) aNil))) aNil))) aNil))) (aCons (mCall F_turned (aCons (mVar 1) aNil)) aNil))) aNil))))))
def F_poly_by : PF := runP 3 9 m_poly_by
def m_poly_of : MS := (sSeq (sExpr (mCall F_check_row (aCons (mVar 0) aNil)))
  (sSeq (sExpr (mCall F_check_stretch (aCons (mVar 1) aNil)))
  (sRet (mCall F_poly_by (aCons (mVar 0) (aCons (mBin oIx (mVar 1) (mC (.int 0))) (aCons (mBin oIx (mVar 1) (mC (.int 1))) aNil)))))))
def F_poly_of : PF := runP 2 2 m_poly_of
def m_lesser : MS := (sRet (mIf (mCall F_is_below (aCons (mVar 1) (aCons (mVar 0) aNil))) (mVar 1) (mVar 0)))
def F_lesser : PF := runP 2 2 m_lesser
def b_least_of_1 : MS := (sSet 1 (mCall F_lesser (aCons (mVar 1) (aCons (mVar 2) aNil))))
def m_least_of : MS := (sSeq (sSet 1 (mBin oIx (mVar 0) (mC (.int 0))))
  (sSeq (sFor (iSeq (mCut (mVar 0) (oSome (mC (.int 1))) oNone)) (.nm 2) b_least_of_1)
  (sRet (mVar 1))))
def F_least_of : PF := runP 1 3 m_least_of
def m_greater : MS := (sRet (mIf (mCall F_is_below (aCons (mVar 0) (aCons (mVar 1) aNil))) (mVar 1) (mVar 0)))
def F_greater : PF := runP 2 2 m_greater
def b_greatest_of_1 : MS := (sSet 1 (mCall F_greater (aCons (mVar 1) (aCons (mVar 2) aNil))))
def m_greatest_of : MS := (sSeq (sSet 1 (mBin oIx (mVar 0) (mC (.int 0))))
  (sSeq (sFor (iSeq (mCut (mVar 0) (oSome (mC (.int 1))) oNone)) (.nm 2) b_greatest_of_1)
  (sRet (mVar 1))))
def F_greatest_of : PF := runP 1 3 m_greatest_of
def m_bounds_of : MS := (sSeq (sExpr (mCall F_check_row (aCons (mVar 0) aNil)))
  (sRet (mTup (aCons (mCall F_least_of (aCons (mVar 0) aNil)) (aCons (mCall F_greatest_of (aCons (mVar 0) aNil)) aNil)))))
def F_bounds_of : PF := runP 1 1 m_bounds_of
def fuel__law_divisor_1 : Env → Nat := fuelV 1
def b__law_divisor_1 : MS := (sPar2 0 1 false false (mVar 1) (mBin oSub (mVar 0) (mBin oMul (mBin oDiv (mVar 0) (mVar 1)) (mVar 1))))
def m__law_divisor : MS := (sSeq (sPar2 0 1 false false (mB bAbs (vCons (mVar 0) vNil)) (mB bAbs (vCons (mVar 1) vNil)))
  (sSeq (sWhile fuel__law_divisor_1 (mBin oNe (mVar 1) (mC (.int 0))) b__law_divisor_1)
  (sRet (mVar 0))))
def F__law_divisor : PF := runP 2 2 m__law_divisor
def m__law_fraction : MS := (sSeq (sSet 2 (mIf (mBin oGt (mVar 1) (mC (.int 0))) (mCall F__law_divisor (aCons (mVar 0) (aCons (mVar 1) aNil))) (mBin oSub (mC (.int 0)) (mCall F__law_divisor (aCons (mVar 0) (aCons (mVar 1) aNil))))))
  (sRet (mTup (aCons (mBin oDiv (mVar 0) (mVar 2)) (aCons (mBin oDiv (mVar 1) (mVar 2)) aNil)))))
def F__law_fraction : PF := runP 2 3 m__law_fraction
def m__law_plus : MS := (sRet (mCall F__law_fraction (aCons (mBin oAdd (mBin oMul (mBin oIx (mVar 0) (mC (.int 0))) (mBin oIx (mVar 1) (mC (.int 1)))) (mBin oMul (mBin oIx (mVar 1) (mC (.int 0))) (mBin oIx (mVar 0) (mC (.int 1))))) (aCons (mBin oMul (mBin oIx (mVar 0) (mC (.int 1))) (mBin oIx (mVar 1) (mC (.int 1)))) aNil))))
def F__law_plus : PF := runP 2 2 m__law_plus
def m__law_less : MS := (sRet (mCall F__law_fraction (aCons (mBin oSub (mBin oMul (mBin oIx (mVar 0) (mC (.int 0))) (mBin oIx (mVar 1) (mC (.int 1)))) (mBin oMul (mBin oIx (mVar 1) (mC (.int 0))) (mBin oIx (mVar 0) (mC (.int 1))))) (aCons (mBin oMul (mBin oIx (mVar 0) (mC (.int 1))) (mBin oIx (mVar 1) (mC (.int 1)))) aNil))))
def F__law_less : PF := runP 2 2 m__law_less
def m__law_times : MS := (sRet (mCall F__law_fraction (aCons (mBin oMul (mBin oIx (mVar 0) (mC (.int 0))) (mBin oIx (mVar 1) (mC (.int 0)))) (aCons (mBin oMul (mBin oIx (mVar 0) (mC (.int 1))) (mBin oIx (mVar 1) (mC (.int 1)))) aNil))))
def F__law_times : PF := runP 2 2 m__law_times
def m__law_below : MS := (sRet (mBin oLt (mBin oMul (mBin oIx (mVar 0) (mC (.int 0))) (mBin oIx (mVar 1) (mC (.int 1)))) (mBin oMul (mBin oIx (mVar 1) (mC (.int 0))) (mBin oIx (mVar 0) (mC (.int 1))))))
def F__law_below : PF := runP 2 2 m__law_below
def m__law_is_small : MS := (sRet (mAnd (mBin oLe (mB bAbs (vCons (mBin oIx (mVar 0) (mC (.int 0))) vNil)) (mC (.int 999))) (mBin oLe (mBin oIx (mVar 0) (mC (.int 1))) (mC (.int 99)))))
def F__law_is_small : PF := runP 1 1 m__law_is_small
def m__law_are_small : MS := (sRet (mB bAll (vCons (mLc (iSeq (mVar 0)) (.nm 1) [1] (mC (.bool true)) (mCall F__law_is_small (aCons (mVar 1) aNil))) vNil)))
def F__law_are_small : PF := runP 1 2 m__law_are_small
def fuel__law_told_1 : Env → Nat := fuelV 1
def b__law_told_1 : MS := (sPop 1)
def m__law_told : MS := (sSeq (sOwn 1 (mB bList (vCons (mVar 0) vNil)))
  (sSeq (sWhile fuel__law_told_1 (mAnd (mBin oNe (mVar 1) (mLst aNil)) (mBin oEq (mBin oIx (mVar 1) (mUn oNeg (mC (.int 1)))) (mTup (aCons (mC (.int 0)) (aCons (mC (.int 1)) aNil))))) b__law_told_1)
  (sFrz 1 (sRet (mVar 1)))))
def F__law_told : PF := runP 1 2 m__law_told
def b__law_value_1 : MS := (sSet 2 (mCall F__law_plus (aCons (mCall F__law_times (aCons (mVar 2) (aCons (mVar 1) aNil))) (aCons (mVar 3) aNil))))
def m__law_value : MS := (sSeq (sSet 2 (mTup (aCons (mC (.int 0)) (aCons (mC (.int 1)) aNil))))
  (sSeq (sFor (iSeq (mUn revLO (mVar 0))) (.nm 3) b__law_value_1)
  (sRet (mVar 2))))
def F__law_value : PF := runP 2 4 m__law_value
def m__law_add : MS := (sSeq (sSet 2 (mB bMax (vCons (mB bLen (vCons (mVar 0) vNil)) (vCons (mB bLen (vCons (mVar 1) vNil)) vNil))))
  (sSeq (sPar2 3 4 false false (mBin oAdd (mB bList (vCons (mVar 0) vNil)) (mBin oMul (mLst (aCons (mTup (aCons (mC (.int 0)) (aCons (mC (.int 1)) aNil))) aNil)) (mBin oSub (mVar 2) (mB bLen (vCons (mVar 0) vNil))))) (mBin oAdd (mB bList (vCons (mVar 1) vNil)) (mBin oMul (mLst (aCons (mTup (aCons (mC (.int 0)) (aCons (mC (.int 1)) aNil))) aNil)) (mBin oSub (mVar 2) (mB bLen (vCons (mVar 1) vNil))))))
  (sRet (mCall F__law_told (aCons (mLc (iZipS (mVar 3) (mVar 4)) (.tp [(.nm 5), (.nm 6)]) [5, 6] (mC (.bool true)) (mCall F__law_plus (aCons (mVar 5) (aCons (mVar 6) aNil)))) aNil)))))
def F__law_add : PF := runP 2 7 m__law_add
def m__law_over : MS := (sRet (mCall F__law_fraction (aCons (mBin oMul (mBin oIx (mVar 0) (mC (.int 0))) (mBin oIx (mVar 1) (mC (.int 1)))) (aCons (mBin oMul (mBin oIx (mVar 0) (mC (.int 1))) (mBin oIx (mVar 1) (mC (.int 0)))) aNil))))
def F__law_over : PF := runP 2 2 m__law_over
def m__law_scale : MS := (sRet (mCall F__law_told (aCons (mLc (iSeq (mVar 0)) (.nm 2) [2] (mC (.bool true)) (mCall F__law_times (aCons (mVar 2) (aCons (mVar 1) aNil)))) aNil)))
def F__law_scale : PF := runP 2 3 m__law_scale
def b__law_product_1 : MS := (sSetI 2 (mBin oAdd (mVar 3) (mVar 5)) (mCall F__law_plus (aCons (mBin oIx (mVar 2) (mBin oAdd (mVar 3) (mVar 5))) (aCons (mCall F__law_times (aCons (mVar 4) (aCons (mVar 6) aNil))) aNil))))
def b__law_product_2 : MS := (sFor (iEnumL (mVar 1)) (.tp [(.nm 5), (.nm 6)]) b__law_product_1)
def m__law_product : MS := (sSeq (sOwn 2 (mBin oMul (mLst (aCons (mTup (aCons (mC (.int 0)) (aCons (mC (.int 1)) aNil))) aNil)) (mBin oAdd (mB bLen (vCons (mVar 0) vNil)) (mB bLen (vCons (mVar 1) vNil)))))
  (sSeq (sFor (iEnumL (mVar 0)) (.tp [(.nm 3), (.nm 4)]) b__law_product_2)
  (sFrz 2 (sRet (mCall F__law_told (aCons (mVar 2) aNil))))))
def F__law_product : PF := runP 2 7 m__law_product
def b__law_choose_1 : MS := (sSet 2 (mBin oDiv (mBin oMul (mVar 2) (mBin oSub (mVar 0) (mVar 3))) (mBin oAdd (mVar 3) (mC (.int 1)))))
def m__law_choose : MS := (sSeq (sSet 2 (mC (.int 1)))
  (sSeq (sFor (iRange1 (mVar 1)) (.nm 3) b__law_choose_1)
  (sRet (mVar 2))))
def F__law_choose : PF := runP 2 4 m__law_choose
def b__law_poly_of_1 : MS := (sSeq (sSet 9 (mCall F__law_product (aCons (mVar 9) (aCons (mIf (mBin oLt (mVar 10) (mVar 7)) (mLst (aCons (mCall F__law_less (aCons (mTup (aCons (mC (.int 0)) (aCons (mC (.int 1)) aNil))) (aCons (mVar 2) aNil))) (aCons (mTup (aCons (mC (.int 1)) (aCons (mC (.int 1)) aNil))) aNil))) (mLst (aCons (mVar 3) (aCons (mTup (aCons (mUn oNeg (mC (.int 1))) (aCons (mC (.int 1)) aNil))) aNil)))) aNil))))
  (sSet 9 (mCall F__law_scale (aCons (mVar 9) (aCons (mCall F__law_over (aCons (mTup (aCons (mC (.int 1)) (aCons (mC (.int 1)) aNil))) (aCons (mVar 5) aNil))) aNil)))))
def b__law_poly_of_2 : MS := (sSeq (sSet 9 (mLst (aCons (mCall F__law_times (aCons (mVar 8) (aCons (mTup (aCons (mCall F__law_choose (aCons (mVar 4) (aCons (mVar 7) aNil))) (aCons (mC (.int 1)) aNil))) aNil))) aNil)))
  (sSeq (sFor (iRange1 (mVar 4)) (.nm 10) b__law_poly_of_1)
  (sSet 6 (mCall F__law_add (aCons (mVar 6) (aCons (mVar 9) aNil))))))
def m__law_poly_of : MS := (sSeq (sPat (.tp [(.nm 2), (.nm 3)]) (mVar 1))
  (sSeq (sPar3 4 5 6 false false false (mBin oSub (mB bLen (vCons (mVar 0) vNil)) (mC (.int 1))) (mCall F__law_less (aCons (mVar 3) (aCons (mVar 2) aNil))) (mLst aNil))
  (sSeq (sFor (iEnumL (mVar 0)) (.tp [(.nm 7), (.nm 8)]) b__law_poly_of_2)
  (sRet (mVar 6)))))
def F__law_poly_of : PF := runP 2 11 m__law_poly_of
def b__law_total_1 : MS := (sSet 1 (mCall F__law_plus (aCons (mVar 1) (aCons (mVar 2) aNil))))
def m__law_total : MS := (sSeq (sSet 1 (mTup (aCons (mC (.int 0)) (aCons (mC (.int 1)) aNil))))
  (sSeq (sFor (iSeq (mVar 0)) (.nm 2) b__law_total_1)
  (sRet (mVar 1))))
def F__law_total : PF := runP 1 3 m__law_total
def b__law_corners_1 : MS := (sSeq (sSet 7 (mCall F__law_add (aCons (mVar 7) (aCons (mCall F__law_scale (aCons (mVar 6) (aCons (mVar 8) aNil))) aNil))))
  (sSet 6 (mCall F__law_product (aCons (mVar 6) (aCons (mLst (aCons (mVar 3) (aCons (mVar 5) aNil))) aNil)))))
def b__law_corners_2 : MS := (sAppend 9 (mCall F__law_total (aCons (mLc (iRange1 (mBin oAdd (mVar 10) (mC (.int 1)))) (.nm 11) [11] (mC (.bool true)) (mCall F__law_times (aCons (mBin oIx (mVar 7) (mVar 11)) (aCons (mCall F__law_fraction (aCons (mCall F__law_choose (aCons (mVar 10) (aCons (mVar 11) aNil))) (aCons (mCall F__law_choose (aCons (mVar 2) (aCons (mVar 11) aNil))) aNil))) aNil)))) aNil)))
def k__law_corners_3 : MS := (sFrz 9 (sRet (mVar 9)))
def k__law_corners_4 : MS := (sSeq (sFor (iRange1 (mBin oAdd (mVar 2) (mC (.int 1)))) (.nm 10) b__law_corners_2)
  k__law_corners_3)
def k__law_corners_5 : MS := (sSeq (sOwn 9 (mLst aNil))
  k__law_corners_4)
def k__law_corners_6 : MS := (sSeq (sSet 7 (mBin oAdd (mVar 7) (mBin oMul (mLst (aCons (mTup (aCons (mC (.int 0)) (aCons (mC (.int 1)) aNil))) aNil)) (mBin oSub (mBin oAdd (mVar 2) (mC (.int 1))) (mB bLen (vCons (mVar 7) vNil))))))
  k__law_corners_5)
def k__law_corners_7 : MS := (sSeq (sFor (iSeq (mVar 0)) (.nm 8) b__law_corners_1)
  k__law_corners_6)
def k__law_corners_8 : MS := (sSeq (sPat (.tp [(.nm 5), (.nm 6), (.nm 7)]) (mTup (aCons (mCall F__law_less (aCons (mVar 4) (aCons (mVar 3) aNil))) (aCons (mLst (aCons (mTup (aCons (mC (.int 1)) (aCons (mC (.int 1)) aNil))) aNil)) (aCons (mLst aNil) aNil)))))
  k__law_corners_7)
def m__law_corners : MS := (sSeq (sPat (.tp [(.nm 3), (.nm 4)]) (mVar 1))
  k__law_corners_8)
def F__law_corners : PF := runP 3 12 m__law_corners
end BP

namespace BP
/-! ### numbers that fit, and what the program's and the law's own sums make of them -/
def Fit (q : Rat) : Prop := Qs 4000 q
def Cap (n m : Nat) : Prop := n < 2 ^ 4000 ∧ m * n < 2 ^ 4000
theorem In.fit {n m : Nat} {q : Rat} (h : In n m q) (h0 : 0 < n) (c : Cap n m) : Fit q := h.qs h0 c.1 c.2
theorem Cap.mono {n m l : Nat} (h : Cap n m) (hl : l ≤ m) : Cap n l := ⟨h.1, Nat.lt_of_le_of_lt (Nat.mul_le_mul_right _ hl) h.2⟩
def Fits (p : List Rat) : Prop := ∀ a ∈ p, Fit a
theorem Inp.fits {n m : Nat} {p : List Rat} (h : Inp n m p) (h0 : 0 < n) (c : Cap n m) : Fits p := fun a ha => (h a ha).fit h0 c
theorem Fits.strip {p : List Rat} (h : Fits p) : Fits (strip p) := fun a ha => h a (mem_strip ha)
theorem Fits.head {a : Rat} {p : List Rat} (h : Fits (a :: p)) : Fit a := h a List.mem_cons_self
theorem Fits.tail {a : Rat} {p : List Rat} (h : Fits (a :: p)) : Fits p := fun x hx => h x (List.mem_cons_of_mem _ hx)
def Op (f : PF) (g : Rat → Rat → Rat) : Prop := ∀ p q : Rat, Fit p → Fit q → f [qD p, qD q] = .ok (qD (g p q))
theorem PlusOk.op {f : PF} (h : PlusOk f) : Op f (· + ·) := fun p q hp hq => h 4000 4000 p q hp hq (by decide)
theorem LessOk.op {f : PF} (h : LessOk f) : Op f (· - ·) := fun p q hp hq => h 4000 4000 p q hp hq (by decide)
theorem TimesOk.op {f : PF} (h : TimesOk f) : Op f (· * ·) := fun p q hp hq => h 4000 4000 p q hp hq (by decide)
/-- lowest terms, of any bottom but 0 -/
def RedOk (g : PF) : Prop := ∀ t b : Int, b ≠ 0 → b.natAbs < 2 ^ 9000 → g [.int t, .int b] = .ok (qD (Rat.divInt t b))
theorem RedOk.made {g : PF} (h : RedOk g) : MadeOk g := fun t b hb hs => h t b (by omega) hs
theorem abs_if (a : Int) : (if a < 0 then -a else a) = (a.natAbs : Int) := by omega
/-! the program's -/
theorem gcd_loopP (st : Pt) : ∀ (n : Nat) (a b : Nat), b < n → whileL (mBin oGt (mVar 1) (mC (.int 0))) (sPar2 0 1 false false (mVar 1) (mBin oMod (mB bInt (vCons (mVar 0) vNil)) (mVar 1))) n [.im (.int a), .im (.int b)] st = .ok (.nx [.im (.int (a.gcd b : Nat)), .im (.int 0)] st)
  | 0, _, _, h => absurd h (Nat.not_lt_zero _)
  | n + 1, a, b, h => by
    by_cases hb : b = 0
    · subst hb
      simp [whileL]
    · have hb' : 0 < b := Nat.pos_of_ne_zero hb
      have e : ((a : Int).fmod (b : Int)) = (a : Int) % (b : Int) := Int.fmod_eq_emod_of_nonneg _ (Int.natCast_nonneg b)
      have ih := gcd_loopP st n b (a % b) (by have := Nat.mod_lt a hb'; omega)
      have g : b.gcd (a % b) = a.gcd b := by rw [Nat.gcd_comm, ← Nat.gcd_rec, Nat.gcd_comm]
      rw [g] at ih
      simp only [Int.natCast_emod] at ih
      simp [whileL, hb, hb', e, ih]
theorem divisor_ok (a b : Nat) : F_divisor [.int a, .int b] = .ok (.int (a.gcd b : Nat)) := by
  have L := gcd_loopP [] (b + 2) a b (by omega)
  simp [F_divisor, m_divisor, sWhile, fuel_divisor_1, b_divisor_1, L]
theorem red_pos (t b : Int) (hb : 0 < b) (hs : b.natAbs < 2 ^ 9000) : PySem.Builtin.divisionGoesByPylong t ((t.natAbs.gcd b.natAbs : Nat) : Int) = false ∧ PySem.Builtin.divisionGoesByPylong b ((t.natAbs.gcd b.natAbs : Nat) : Int) = false ∧ ((t.natAbs.gcd b.natAbs : Nat) : Int) ≠ 0 ∧ t.fdiv ((t.natAbs.gcd b.natAbs : Nat) : Int) = (Rat.divInt t b).num ∧ b.fdiv ((t.natAbs.gcd b.natAbs : Nat) : Int) = (Rat.divInt t b).den := by
  have hg : 0 < t.natAbs.gcd b.natAbs := Nat.gcd_pos_of_pos_right _ (by omega)
  have hle : t.natAbs.gcd b.natAbs ≤ b.natAbs := Nat.gcd_le_right _ (by omega)
  have d1 : ∀ x : Int, PySem.Builtin.divisionGoesByPylong x ((t.natAbs.gcd b.natAbs : Nat) : Int) = false := fun x => divOk_of (by
    show (t.natAbs.gcd b.natAbs) < 2 ^ 9000
    omega)
  have f1 : ∀ x : Int, x.fdiv ((t.natAbs.gcd b.natAbs : Nat) : Int) = x / ((t.natAbs.gcd b.natAbs : Nat) : Int) := fun x => Int.fdiv_eq_ediv_of_nonneg _ (by omega)
  obtain ⟨m1, m2⟩ := made_sgn t b hb
  have eg : b.gcd t = t.natAbs.gcd b.natAbs := by
    show b.natAbs.gcd t.natAbs = _
    exact Nat.gcd_comm _ _
  rw [eg] at m1 m2
  exact ⟨d1 _, d1 _, by omega, by rw [f1, m1], by rw [f1, m2]⟩
theorem red_ok : RedOk F_reduced := fun t b h0 hs => by
  by_cases hb : b < 0
  · obtain ⟨s, rfl⟩ : ∃ s : Int, t = -s := ⟨-t, by omega⟩
    obtain ⟨n, rfl⟩ : ∃ n : Nat, b = -(n : Int) := ⟨(-b).toNat, by omega⟩
    have e : Rat.divInt (-s) (-(n : Int)) = Rat.divInt s n := by
      rw [Rat.divInt_eq_div, Rat.divInt_eq_div]
      push_cast
      have := nz (n := n) (by omega)
      grind
    obtain ⟨d1, d2, d3, d4, d5⟩ := red_pos s n (by omega) (by omega)
    have G := divisor_ok s.natAbs n
    have ea := abs_if s
    simp only [Int.natAbs_natCast] at d1 d2 d3 d4 d5
    simp only [Int.natCast_eq_zero, ne_eq] at d3
    have hn : 0 < n := by omega
    rw [e]
    simp [F_reduced, m_reduced, hb, hn, ea, G, d1, d2, d3, d4, d5, qD]
  · obtain ⟨d1, d2, d3, d4, d5⟩ := red_pos t b (by omega) hs
    obtain ⟨n, rfl⟩ : ∃ n : Nat, b = (n : Int) := ⟨b.toNat, by omega⟩
    have G := divisor_ok t.natAbs n
    have ea := abs_if t
    simp only [Int.natAbs_natCast] at d1 d2 d3 d4 d5
    simp only [Int.natCast_eq_zero, ne_eq] at d3
    simp [F_reduced, m_reduced, hb, ea, G, d1, d2, d3, d4, d5, qD]
theorem add_ok : PlusOk F_add := C_plus_ok red_ok.made
theorem take_ok : LessOk F_take := C_less_ok red_ok.made
theorem mul_ok : TimesOk F_multiply := C_times_ok red_ok.made
theorem below_ok : BelowOk F_is_below := C_below_ok
/-! quotients -/
def C_over (g : PF) : MS := (sRet (mCall g (aCons (mBin oMul (mBin oIx (mVar 0) (mC (.int 0))) (mBin oIx (mVar 1) (mC (.int 1)))) (aCons (mBin oMul (mBin oIx (mVar 0) (mC (.int 1))) (mBin oIx (mVar 1) (mC (.int 0)))) aNil))))
theorem div_dv (p q : Rat) : Rat.divInt (p.num * q.den) (p.den * q.num) = p / q := by
  have hp := Rat.num_divInt_den p
  have hq := Rat.num_divInt_den q
  have e1 : (p : Rat) = (p.num : Rat) / (p.den : Rat) := by
    conv => lhs; rw [← hp, Rat.divInt_eq_div]
    rfl
  have e2 : (q : Rat) = (q.num : Rat) / (q.den : Rat) := by
    conv => lhs; rw [← hq, Rat.divInt_eq_div]
    rfl
  conv => rhs; rw [e1, e2]
  rw [Rat.divInt_eq_div]
  push_cast
  have := nz p.den_pos
  have := nz q.den_pos
  by_cases h : (q.num : Rat) = 0
  · rw [h]
    grind
  · grind
def OverOk (f : PF) : Prop := ∀ p q : Rat, Fit p → Fit q → q ≠ 0 → f [qD p, qD q] = .ok (qD (p / q))
theorem C_over_ok {g : PF} (hg : RedOk g) : OverOk (runP 2 2 (C_over g)) := fun p q hp hq h0 => by
  obtain ⟨m1, m2, m3, m4⟩ := mulOk_q hp hq (by decide)
  have m5 : mulOk (p.den : Int) q.num = true := mulOk_of 4000 4000 (by simpa using hp.2) hq.1 (by omega)
  have nq : q.num ≠ 0 := fun z => h0 (Rat.num_eq_zero.mp z)
  have np := p.den_nz
  have d1 : (p.den : Int) * q.num ≠ 0 := Int.mul_ne_zero (by omega) nq
  have d2 : ((p.den : Int) * q.num).natAbs < 2 ^ 9000 := by
    rw [Int.natAbs_mul]
    exact Nat.lt_of_lt_of_le (mul_lt_pow (k := 4000) (l := 4000) (by simpa using hp.2) hq.1) (Nat.pow_le_pow_right (by decide) (by omega))
  simp [C_over, qD, m1, m5, hg _ _ d1 d2, div_dv]
theorem divide_ok : OverOk F_divide := C_over_ok red_ok
theorem turned_ok (q : Rat) : F_turned [qD q] = .ok (qD (-q)) := by
  simp [F_turned, m_turned, qD]
/-! the law's -/
theorem fl_sub (a b : Nat) (hb : 0 < b) : (a : Int) - ((a : Int) / (b : Int)) * (b : Int) = ((a % b : Nat) : Int) := by
  have := Int.emod_def (a : Int) (b : Int)
  rw [Int.mul_comm] at this
  rw [← this]
  rfl
theorem gcd_loopL (st : Pt) : ∀ (n : Nat) (a b : Nat), b < n → a < 2 ^ 9000 → b < 2 ^ 9000 → whileL (mBin oNe (mVar 1) (mC (.int 0))) (sPar2 0 1 false false (mVar 1) (mBin oSub (mVar 0) (mBin oMul (mBin oDiv (mVar 0) (mVar 1)) (mVar 1)))) n [.im (.int a), .im (.int b)] st = .ok (.nx [.im (.int (a.gcd b : Nat)), .im (.int 0)] st)
  | 0, _, _, h, _, _ => absurd h (Nat.not_lt_zero _)
  | n + 1, a, b, h, ha, hs => by
    have sh : ∀ i : Int, PySem.SeqAt.shaped (.int i) = true := fun i => rfl
    have eqi : ∀ a b : Int, PySem.PyData.eqv (.int a) (.int b) = (a == b) := fun a b => by simp [PySem.PyData.eqv]
    by_cases hb : b = 0
    · subst hb
      simp [whileL, sh, eqi]
    · have hb' : 0 < b := Nat.pos_of_ne_zero hb
      have e : ((a : Int).fdiv (b : Int)) = (a : Int) / (b : Int) := Int.fdiv_eq_ediv_of_nonneg _ (Int.natCast_nonneg b)
      have hm := Nat.mod_lt a hb'
      have ih := gcd_loopL st n b (a % b) (by omega) hs (by omega)
      have g : b.gcd (a % b) = a.gcd b := by rw [Nat.gcd_comm, ← Nat.gcd_rec, Nat.gcd_comm]
      rw [g] at ih
      have d1 : PySem.Builtin.divisionGoesByPylong (a : Int) (b : Int) = false := divOk_of (by simpa using hs)
      have hd : ((a : Int) / (b : Int)).natAbs < 2 ^ 9000 := by
        have : (a : Int) / (b : Int) = ((a / b : Nat) : Int) := rfl
        rw [this, Int.natAbs_natCast]
        exact Nat.lt_of_le_of_lt (Nat.div_le_self _ _) ha
      have m1 : mulOk ((a : Int) / (b : Int)) (b : Int) = true := mulOk_of 9000 9000 hd (by simpa using hs) (by omega)
      have f := fl_sub a b hb'
      have hne : (((b : Int) == 0) = false) := by
        rw [beq_eq_false_iff_ne]
        omega
      simp [whileL, sh, eqi, hb, hne, e, d1, m1, f, -Int.natCast_emod, ih]
theorem l_divisor_ok (a b : Int) (ha : a.natAbs < 2 ^ 9000) (hb : b.natAbs < 2 ^ 9000) : F__law_divisor [.int a, .int b] = .ok (.int (a.natAbs.gcd b.natAbs : Nat)) := by
  have L := gcd_loopL [] (b.natAbs + 2) a.natAbs b.natAbs (by omega) ha hb
  simp [F__law_divisor, m__law_divisor, sWhile, fuel__law_divisor_1, b__law_divisor_1, abs_if, L]
/-- tops are no giants either -/
def RedOk2 (g : PF) : Prop := ∀ t b : Int, b ≠ 0 → t.natAbs < 2 ^ 8002 → b.natAbs < 2 ^ 8002 → g [.int t, .int b] = .ok (qD (Rat.divInt t b))
theorem RedOk.two {g : PF} (h : RedOk g) : RedOk2 g := fun t b h0 _ hb => h t b h0 (Nat.lt_of_lt_of_le hb (Nat.pow_le_pow_right (by decide) (by decide)))
theorem l_red_ok : RedOk2 F__law_fraction := fun t b h0 ht hb => by
  have p : (2 : Nat) ^ 8002 ≤ 2 ^ 9000 := Nat.pow_le_pow_right (by decide) (by decide)
  have G := l_divisor_ok t b (Nat.lt_of_lt_of_le ht p) (Nat.lt_of_lt_of_le hb p)
  by_cases h : 0 < b
  · obtain ⟨d1, d2, d3, d4, d5⟩ := red_pos t b h (Nat.lt_of_lt_of_le hb p)
    simp only [Int.natCast_eq_zero, ne_eq] at d3
    simp [F__law_fraction, m__law_fraction, h, G, d1, d2, d3, d4, d5, qD]
  · obtain ⟨s, rfl⟩ : ∃ s : Int, t = -s := ⟨-t, by omega⟩
    obtain ⟨n, rfl⟩ : ∃ n : Nat, b = -(n : Int) := ⟨(-b).toNat, by omega⟩
    have e : Rat.divInt (-s) (-(n : Int)) = Rat.divInt s n := by
      rw [Rat.divInt_eq_div, Rat.divInt_eq_div]
      push_cast
      have := nz (n := n) (by omega)
      grind
    have hn : 0 < n := by omega
    obtain ⟨d1, d2, d3, d4, d5⟩ := red_pos s n (by omega) (by omega)
    simp only [Int.natAbs_natCast, Int.natAbs_neg] at d1 d2 d3 d4 d5 G hb
    have d6 : ∀ x : Int, PySem.Builtin.divisionGoesByPylong x (-((s.natAbs.gcd n : Nat) : Int)) = false := fun x => divOk_of (by
      rw [Int.natAbs_neg, Int.natAbs_natCast]
      exact Nat.lt_of_le_of_lt (Nat.gcd_le_right _ hn) (Nat.lt_of_lt_of_le hb p))
    simp only [Int.natCast_eq_zero, ne_eq] at d3
    rw [e]
    have f : ∀ x : Int, (-x).fdiv (-((s.natAbs.gcd n : Nat) : Int)) = x.fdiv ((s.natAbs.gcd n : Nat) : Int) := fun x => Int.neg_fdiv_neg _ _
    have hn0 : ¬ ((n : Int) < 0) := by omega
    simp [F__law_fraction, m__law_fraction, h, hn, hn0, G, d6, d3, f, d4, d5, qD]
/-- by a reduction whose tops are bounded too -/
theorem ops2 {g : PF} (hg : RedOk2 g) {p q : Rat} (hp : Fit p) (hq : Fit q) : g [.int (p.num * q.den + q.num * p.den), .int ((p.den : Int) * q.den)] = .ok (qD (p + q)) ∧ g [.int (p.num * q.den - q.num * p.den), .int ((p.den : Int) * q.den)] = .ok (qD (p - q)) ∧ g [.int (p.num * q.num), .int ((p.den : Int) * q.den)] = .ok (qD (p * q)) := by
  have e1 := add_dv p q
  have e2 := sub_dv p q
  have e3 := mul_dv p q
  rw [Int.natCast_mul] at e1 e2 e3
  have h8 : (2 : Nat) ^ (4000 + 4000 + 1) ≤ 2 ^ 8002 := Nat.pow_le_pow_right (by decide) (by decide)
  have h9 : (2 : Nat) ^ (4000 + 4000) ≤ 2 ^ 8002 := Nat.pow_le_pow_right (by decide) (by decide)
  obtain ⟨d1, d2⟩ := den_ok hp hq (by decide)
  have b1 : ((p.den : Int) * q.den).natAbs < 2 ^ 8002 := by
    rw [Int.natAbs_mul]
    exact Nat.lt_of_lt_of_le (mul_lt_pow (k := 4000) (l := 4000) (by simpa using hp.2) (by simpa using hq.2)) h9
  have a1 := num_add_lt hp hq 1 rfl
  have a2 := num_add_lt hp hq (-1) rfl
  rw [Int.one_mul] at a1
  rw [Int.neg_one_mul, ← Int.sub_eq_add_neg] at a2
  have a3 : (p.num * q.num).natAbs < 2 ^ 8002 := by
    rw [Int.natAbs_mul]
    exact Nat.lt_of_lt_of_le (mul_lt_pow (k := 4000) (l := 4000) hp.1 hq.1) h9
  refine ⟨?_, ?_, ?_⟩
  · rw [hg _ _ (by omega) (Nat.lt_of_lt_of_le a1 h8) b1, e1]
  · rw [hg _ _ (by omega) (Nat.lt_of_lt_of_le a2 h8) b1, e2]
  · rw [hg _ _ (by omega) a3 b1, e3]
theorem C_plus_op {g : PF} (hg : RedOk2 g) : Op (runP 2 2 (C_plus g)) (· + ·) := fun p q hp hq => by
  obtain ⟨m1, m2, m3, m4⟩ := mulOk_q hp hq (by decide)
  obtain ⟨o1, o2, o3⟩ := ops2 hg hp hq
  unfold qD at o1 ⊢
  simp [C_plus, m1, m2, m3, o1]
theorem C_less_op {g : PF} (hg : RedOk2 g) : Op (runP 2 2 (C_less g)) (· - ·) := fun p q hp hq => by
  obtain ⟨m1, m2, m3, m4⟩ := mulOk_q hp hq (by decide)
  obtain ⟨o1, o2, o3⟩ := ops2 hg hp hq
  unfold qD at o2 ⊢
  simp [C_less, m1, m2, m3, o2]
theorem C_times_op {g : PF} (hg : RedOk2 g) : Op (runP 2 2 (C_times g)) (· * ·) := fun p q hp hq => by
  obtain ⟨m1, m2, m3, m4⟩ := mulOk_q hp hq (by decide)
  obtain ⟨o1, o2, o3⟩ := ops2 hg hp hq
  unfold qD at o3 ⊢
  simp [C_times, m3, m4, o3]
theorem C_over_op {g : PF} (hg : RedOk2 g) : OverOk (runP 2 2 (C_over g)) := fun p q hp hq h0 => by
  obtain ⟨m1, m2, m3, m4⟩ := mulOk_q hp hq (by decide)
  have m5 : mulOk (p.den : Int) q.num = true := mulOk_of 4000 4000 (by simpa using hp.2) hq.1 (by omega)
  have nq : q.num ≠ 0 := fun z => h0 (Rat.num_eq_zero.mp z)
  have np := p.den_nz
  have d1 : (p.den : Int) * q.num ≠ 0 := Int.mul_ne_zero (by omega) nq
  have h9 : (2 : Nat) ^ (4000 + 4000) ≤ 2 ^ 8002 := Nat.pow_le_pow_right (by decide) (by decide)
  have d2 : ((p.den : Int) * q.num).natAbs < 2 ^ 8002 := by
    rw [Int.natAbs_mul]
    exact Nat.lt_of_lt_of_le (mul_lt_pow (k := 4000) (l := 4000) (by simpa using hp.2) hq.1) h9
  have d3 : (p.num * q.den).natAbs < 2 ^ 8002 := by
    rw [Int.natAbs_mul]
    exact Nat.lt_of_lt_of_le (mul_lt_pow (k := 4000) (l := 4000) hp.1 (by simpa using hq.2)) h9
  simp [C_over, qD, m1, m5, hg _ _ d1 d3 d2, div_dv]
theorem l_plus_op : Op F__law_plus (· + ·) := C_plus_op l_red_ok
theorem l_less_op : Op F__law_less (· - ·) := C_less_op l_red_ok
theorem l_times_op : Op F__law_times (· * ·) := C_times_op l_red_ok
theorem l_over_op : OverOk F__law_over := C_over_op l_red_ok
theorem l_below_ok : BelowOk F__law_below := C_below_ok
theorem add_op : Op F_add (· + ·) := add_ok.op
theorem take_op : Op F_take (· - ·) := take_ok.op
theorem mul_op : Op F_multiply (· * ·) := mul_ok.op
end BP

namespace BP
/-! ### rows of numbers as trees -/
def pL (p : List Rat) : List D := p.map qD
def pD (p : List Rat) : D := .list (pL p)
/-- a list or a tuple of numbers -/
def Row (d : D) (p : List Rat) : Prop := d = .list (pL p) ∨ d = .tuple (pL p)
theorem Row.l (p : List Rat) : Row (pD p) p := .inl rfl
theorem Row.t (p : List Rat) : Row (.tuple (pL p)) p := .inr rfl
@[simp] theorem pL_len (p : List Rat) : (pL p).length = p.length := by simp [pL]
@[simp] theorem pL_nil : pL [] = [] := rfl
@[simp] theorem pL_cons (a : Rat) (p : List Rat) : pL (a :: p) = qD a :: pL p := rfl
theorem pL_app (p q : List Rat) : pL (p ++ q) = pL p ++ pL q := by simp [pL]
theorem pL_rev (p : List Rat) : (pL p).reverse = pL p.reverse := by simp [pL]
theorem pL_rep (n : Nat) (a : Rat) : pL (List.replicate n a) = List.replicate n (qD a) := by simp [pL]
theorem sh_q (q : Rat) : PySem.SeqAt.shaped (qD q) = true := by
  simp [qD, PySem.SeqAt.shaped, PySem.PyData.canLay0, PySem.PyData.canLayAll0, PySem.PyData.depth, PySem.PyData.depthAll]
theorem sh_i (i : Int) : PySem.SeqAt.shaped (.int i) = true := rfl
theorem sh_b (i : Bool) : PySem.SeqAt.shaped (.bool i) = true := rfl
theorem eqv_i (a b : Int) : PySem.PyData.eqv (.int a) (.int b) = (a == b) := by simp [PySem.PyData.eqv]
theorem lay_pL : ∀ p : List Rat, PySem.PyData.canLayAll0 (pL p) = true ∧ PySem.PyData.depthAll (pL p) ≤ 1
  | [] => ⟨rfl, Nat.zero_le _⟩
  | a :: p => by
    obtain ⟨h1, h2⟩ := lay_pL p
    constructor
    · simp [qD, PySem.PyData.canLayAll0, PySem.PyData.canLay0, h1]
    · simp [qD, PySem.PyData.depthAll, PySem.PyData.depth]
      omega
theorem sh_p (p : List Rat) : PySem.SeqAt.shaped (.list (pL p)) = true := by
  obtain ⟨h1, h2⟩ := lay_pL p
  simp [PySem.SeqAt.shaped, PySem.PyData.canLay0, PySem.PyData.depth, h1]
  omega
theorem sh_pt (p : List Rat) : PySem.SeqAt.shaped (.tuple (pL p)) = true := by
  obtain ⟨h1, h2⟩ := lay_pL p
  simp [PySem.SeqAt.shaped, PySem.PyData.canLay0, PySem.PyData.depth, h1]
  omega
theorem eqv_q (p q : Rat) : PySem.PyData.eqv (qD p) (qD q) = decide (p = q) := by
  rw [Bool.eq_iff_iff, decide_eq_true_iff]
  simp only [qD, PySem.PyData.eqv, PySem.PyData.eqvAll, Bool.and_true, Bool.and_eq_true, beq_iff_eq]
  constructor
  · rintro ⟨h1, h2⟩
    exact Rat.ext h1 (by omega)
  · rintro rfl
    exact ⟨rfl, rfl⟩
theorem eqvAll_p : ∀ p q : List Rat, PySem.PyData.eqvAll (pL p) (pL q) = decide (p = q)
  | [], [] => rfl
  | [], _ :: _ => rfl
  | _ :: _, [] => rfl
  | a :: p, b :: q => by
    simp only [pL_cons, PySem.PyData.eqvAll, eqv_q, eqvAll_p p q]
    by_cases h1 : a = b <;> by_cases h2 : p = q <;> simp [h1, h2]
theorem eqv_p (p q : List Rat) : PySem.PyData.eqv (.list (pL p)) (.list (pL q)) = decide (p = q) := by
  simp only [PySem.PyData.eqv, eqvAll_p]
theorem eqv_pt (p q : List Rat) : PySem.PyData.eqv (.tuple (pL p)) (.tuple (pL q)) = decide (p = q) := by
  simp only [PySem.PyData.eqv, eqvAll_p]
theorem eqv_pn (p : List Rat) : PySem.PyData.eqv (.list (pL p)) (.list []) = decide (p = []) := eqv_p p []
theorem q0 : PySem.PyData.tuple [.int 0, .int 1] = qD 0 := rfl
theorem q1 : PySem.PyData.tuple [.int 1, .int 1] = qD 1 := rfl
theorem qi (i : Int) : PySem.PyData.tuple [.int i, .int 1] = qD (i : Rat) := rfl
theorem at_last {α : Type} (xs : List α) (x : α) : atD (xs ++ [x]) (-1) = some x := by
  have h1 : ¬ (0 : Int) ≤ -1 := by omega
  have h2 : (-1 + ((xs ++ [x]).length : Int)).toNat = xs.length := by simp; omega
  have h3 : -((xs ++ [x]).length : Int) ≤ -1 := by simp; omega
  simp only [atD, ixD, if_neg h1, if_pos h3, h2]
  simp
theorem strip_snoc0 (p : List Rat) : strip (p ++ [0]) = strip p := strip_eq_of _ _ fun k => by
  unfold co
  rw [List.getD_eq_getElem?_getD, List.getD_eq_getElem?_getD]
  by_cases h : k < p.length
  · rw [List.getElem?_append_left h]
  · by_cases h2 : k = p.length
    · subst h2
      simp
    · rw [List.getElem?_eq_none (by simp; omega), List.getElem?_eq_none (by omega)]
theorem strip_snoc {a : Rat} (h : a ≠ 0) : ∀ p : List Rat, strip (p ++ [a]) = p ++ [a]
  | [] => by simp [strip, h]
  | b :: p => by
    have ih := strip_snoc h p
    rw [List.cons_append, strip, ih]
    simp
/-! told -/
def C_told (z : ME) : MS := (sSeq (sOwn 1 (mB bList (vCons (mVar 0) vNil)))
  (sSeq (sWhile (fuelV 1) (mAnd (mBin oNe (mVar 1) (mLst aNil)) (mBin oEq (mBin oIx (mVar 1) (mUn oNeg (mC (.int 1)))) z)) (sPop 1))
  (sFrz 1 (sRet (mVar 1)))))
theorem told_loop (z : ME) (hz : ∀ env st, z env st = .ok (.im (qD 0), st)) (x : EV) (st : Pt) : ∀ (n : Nat) (p : List Rat), p.length < n → whileL (mAnd (mBin oNe (mVar 1) (mLst aNil)) (mBin oEq (mBin oIx (mVar 1) (mUn oNeg (mC (.int 1)))) z)) (sPop 1) n [x, .ow (pL p)] st = .ok (.nx [x, .ow (pL (strip p))] st)
  | 0, _, h => absurd h (Nat.not_lt_zero _)
  | n + 1, p, h => by
    rcases List.eq_nil_or_concat p with rfl | ⟨q, a, rfl⟩
    · have := eqv_pn []
      have := sh_p []
      simp only [pL_nil] at *
      simp [whileL, *, strip]
    · rw [List.concat_eq_append] at h ⊢
      have h0 := eqv_pn (q ++ [a])
      have h1 := sh_p (q ++ [a])
      have h2 := sh_p []
      simp only [pL_nil, pL_app, pL_cons] at h0 h1 h2
      have h3 := at_last (pL q) (qD a)
      simp at h
      by_cases ha : a = 0
      · subst ha
        have ih := told_loop z hz x st n q (by omega)
        simp [whileL, h0, h1, h2, h3, hz, sh_q, eqv_q, pL_app, strip_snoc0, ih]
      · simp [whileL, h0, h1, h2, h3, hz, sh_q, eqv_q, pL_app, strip_snoc, ha]
def ToldOk (f : PF) : Prop := ∀ (d : D) (p : List Rat), Row d p → p.length < 900 → f [d] = .ok (pD (strip p))
theorem C_told_ok {z : ME} (hz : ∀ env st, z env st = .ok (.im (qD 0), st)) : ToldOk (runP 1 2 (C_told z)) := fun d p h hl => by
  have L := fun x => told_loop z hz x [] 1000 p (by omega)
  rcases h with rfl | rfl <;> simp [C_told, sWhile, L, pD]
theorem told_ok : ToldOk F_told_of := C_told_ok fun _ _ => rfl
theorem l_told_ok : ToldOk F__law_told := C_told_ok fun _ _ => by simp [q0]
/-! sums -/
def C_add (F T : PF) (z : ME) : MS := (sSeq (sSet 2 (mB bMax (vCons (mB bLen (vCons (mVar 0) vNil)) (vCons (mB bLen (vCons (mVar 1) vNil)) vNil))))
  (sSeq (sPar2 3 4 false false (mBin oAdd (mB bList (vCons (mVar 0) vNil)) (mBin oMul (mLst (aCons z aNil)) (mBin oSub (mVar 2) (mB bLen (vCons (mVar 0) vNil))))) (mBin oAdd (mB bList (vCons (mVar 1) vNil)) (mBin oMul (mLst (aCons z aNil)) (mBin oSub (mVar 2) (mB bLen (vCons (mVar 1) vNil))))))
  (sRet (mCall T (aCons (mLc (iZipS (mVar 3) (mVar 4)) (.tp [(.nm 5), (.nm 6)]) [5, 6] (mC (.bool true)) (mCall F (aCons (mVar 5) (aCons (mVar 6) aNil)))) aNil)))))
theorem flat_rep (n : Nat) (d : D) : (List.replicate n [d]).flatten = List.replicate n d := by
  induction n with
  | zero => rfl
  | succ n ih => simp [List.replicate_succ, ih]
theorem lc_zip (F : PF) (g : Rat → Rat → Rat) (hF : Op F g) (env : Env) (i j : Nat) (hs : ∀ x y : D, ∃ env1, (Pat.tp [.nm i, .nm j]).set (.tuple [x, y]) env = .ok env1 ∧ getE env1 i = .im x ∧ getE env1 j = .im y) : ∀ (p q : List Rat), Fits p → Fits q → ∀ st, lcL (.tp [.nm i, .nm j]) (mC (.bool true)) (mCall F (aCons (mVar i) (aCons (mVar j) aNil))) env (zipL (pL p) (pL q)) st = .ok (pL (List.zipWith g p q), st)
  | [], q, _, _, st => by simp [lcL]
  | a :: p, [], _, _, st => by simp [lcL]
  | a :: p, b :: q, hp, hq, st => by
    obtain ⟨env1, e1, e2, e3⟩ := hs (qD a) (qD b)
    have ih := lc_zip F g hF env i j hs p q hp.tail hq.tail st
    have := hF a b hp.head hq.head
    rw [pL_cons, pL_cons, zipL, lcL, e1]
    simp [e2, e3, this, ih]
theorem zip_pad : ∀ (p q : List Rat), List.zipWith (· + ·) (p ++ List.replicate (max p.length q.length - p.length) 0) (q ++ List.replicate (max p.length q.length - q.length) 0) = padd p q
  | [], [] => rfl
  | [], b :: q => by
    have ih := zip_pad [] q
    simp only [List.length_nil, Nat.zero_max, Nat.sub_zero, List.nil_append, nil_padd, List.length_cons] at ih ⊢
    simp [List.replicate_succ] at ih ⊢
    exact ⟨by grind, ih⟩
  | a :: p, [] => by
    have ih := zip_pad p []
    simp only [List.length_nil, Nat.max_zero, Nat.sub_zero, List.nil_append, padd_nil, List.length_cons] at ih ⊢
    simp [List.replicate_succ] at ih ⊢
    exact ⟨by grind, ih⟩
  | a :: p, b :: q => by
    have ih := zip_pad p q
    have e1 : max (p.length + 1) (q.length + 1) - (p.length + 1) = max p.length q.length - p.length := by omega
    have e2 : max (p.length + 1) (q.length + 1) - (q.length + 1) = max p.length q.length - q.length := by omega
    simp only [List.length_cons, e1, e2, List.cons_append, List.zipWith_cons_cons, ih, padd_cons]
def AddOk (f : PF) : Prop := ∀ (d e : D) (p q : List Rat), Row d p → Row e q → p.length < 800 → q.length < 800 → Fits p → Fits q → f [d, e] = .ok (pD (strip (padd p q)))
theorem fit0 : Fit 0 := ⟨by decide +kernel, by decide +kernel⟩
theorem fit1 : Fit 1 := ⟨by decide +kernel, by decide +kernel⟩
theorem C_add_ok {F T : PF} {z : ME} (hF : Op F (· + ·)) (hT : ToldOk T) (hz : ∀ env st, z env st = .ok (.im (qD 0), st)) : AddOk (runP 2 7 (C_add F T z)) := fun d e p q hd he hp hq fp fq => by
  obtain ⟨m, hm⟩ : ∃ m : Nat, m = max p.length q.length := ⟨_, rfl⟩
  have mx : bMax [.int (p.length : Int), .int (q.length : Int)] = .ok (.im (.int (m : Int))) := by
    rw [bMax_2]
    congr 3
    split <;> omega
  have fz : ∀ (r : List Rat) (k : Nat), Fits r → Fits (r ++ List.replicate k 0) := fun r k h a ha => by
    rcases List.mem_append.mp ha with h1 | h1
    · exact h a h1
    · rw [List.eq_of_mem_replicate h1]
      exact fit0
  have rp : ∀ k : Nat, k ≤ m → m < 800 → oMul (.list [qD 0]) (.int ((m : Int) - (k : Int))) = .ok (.ow (pL (List.replicate (m - k) 0))) := fun k hk hm => by
    have e : ((m : Int) - (k : Int)).toNat = m - k := by omega
    rw [oMul_l, e, if_pos (by simp; omega), flat_rep, pL_rep]
  have ap : ∀ (r : List Rat) (k : Nat), r.length < 800 → k < 900 → oAdd (.list (pL r)) (.list (pL (List.replicate k 0))) = .ok (.ow (pL (r ++ List.replicate k 0))) := fun r k hr hk => by
    rw [oAdd_l, if_pos (by simp; omega), pL_app]
  have r1 := rp p.length (by omega) (by omega)
  have r2 := rp q.length (by omega) (by omega)
  have a1 := ap p (m - p.length) (by omega) (by omega)
  have a2 := ap q (m - q.length) (by omega) (by omega)
  have Z := fun env hs st => lc_zip F (· + ·) hF env 5 6 hs _ _ (fz p (m - p.length) fp) (fz q (m - q.length) fq) st
  have zp := zip_pad p q
  rw [← hm] at zp
  simp only [zp] at Z
  have lz : (zipL (pL (p ++ List.replicate (m - p.length) 0)) (pL (q ++ List.replicate (m - q.length) 0))).length ≤ 1000000 := by
    have := zip_le (pL (p ++ List.replicate (m - p.length) 0)) (pL (q ++ List.replicate (m - q.length) 0))
    rw [pL_len, List.length_append, List.length_replicate] at this
    omega
  have T1 := hT (pD (padd p q)) (padd p q) (Row.l _) (by rw [padd_len]; omega)
  have key : ∀ x y : EV, mLc (iZipS (mVar 3) (mVar 4)) (.tp [(.nm 5), (.nm 6)]) [5, 6] (mC (.bool true)) (mCall F (aCons (mVar 5) (aCons (mVar 6) aNil))) [x, y, .im (.int (m : Int)), .im (.list (pL (p ++ List.replicate (m - p.length) 0))), .im (.list (pL (q ++ List.replicate (m - q.length) 0))), .no, .no] [] = .ok (.ow (pL (padd p q)), []) := fun x y => by
    have Z1 := Z [x, y, .im (.int (m : Int)), .im (.list (pL (p ++ List.replicate (m - p.length) 0))), .im (.list (pL (q ++ List.replicate (m - q.length) 0))), .no, .no] (fun a b => ⟨[x, y, .im (.int (m : Int)), .im (.list (pL (p ++ List.replicate (m - p.length) 0))), .im (.list (pL (q ++ List.replicate (m - q.length) 0))), .im a, .im b], by simp, rfl, rfl⟩) []
    simp [mLc, Z1, lz]
  unfold pD at T1
  rcases hd with rfl | rfl <;> rcases he with rfl | rfl <;> simp [C_add, -bMax_2, -oMul_l, -oAdd_l, mx, r1, r2, a1, a2, hz, key, T1, pD]
end BP

namespace BP
theorem plus_of_ok : AddOk F_plus_of := C_add_ok add_op told_ok fun _ _ => rfl
theorem l_add_ok : AddOk F__law_add := C_add_ok l_plus_op l_told_ok fun _ _ => by simp [q0]
/-! numbers led along a row -/
theorem lcL_pL {pt : Pat} {e : ME} {env : Env} {g : Rat → Rat} : ∀ {p : List Rat} {st : Pt}, (∀ a ∈ p, ∀ st, ∃ env1, pt.set (qD a) env = .ok env1 ∧ e env1 st = .ok (.im (qD (g a)), st)) → lcL pt (mC (.bool true)) e env (pL p) st = .ok (pL (p.map g), st)
  | [], st, _ => by simp [lcL]
  | a :: p, st, h => by
    obtain ⟨env1, e1, e2⟩ := h a List.mem_cons_self st
    have ih := lcL_pL (st := st) (pt := pt) (e := e) (env := env) (g := g) fun x hx => h x (List.mem_cons_of_mem _ hx)
    simp [lcL, e1, e2, ih]
def C_scale (F T : PF) : MS := (sRet (mCall T (aCons (mLc (iSeq (mVar 0)) (.nm 2) [2] (mC (.bool true)) (mCall F (aCons (mVar 2) (aCons (mVar 1) aNil)))) aNil)))
def ScaleOk (f : PF) : Prop := ∀ (d : D) (p : List Rat) (c : Rat), Row d p → p.length < 800 → Fits p → Fit c → f [d, qD c] = .ok (pD (strip (pmulc c p)))
theorem C_scale_ok {F T : PF} (hF : Op F (· * ·)) (hT : ToldOk T) : ScaleOk (runP 2 3 (C_scale F T)) := fun d p c hd hl fp fc => by
  have L := fun x => lcL_pL (pt := .nm 2) (e := mCall F (aCons (mVar 2) (aCons (mVar 1) aNil))) (env := [x, .im (qD c), .no]) (g := (· * c)) (p := p) (st := []) fun a ha st => ⟨[x, .im (qD c), .im (qD a)], by simp, by simp [hF a c (fp a ha) fc]⟩
  have T1 := hT (pD (pmulc c p)) (pmulc c p) (Row.l _) (by simp [pmulc]; omega)
  have hl2 : p.length ≤ 1000000 := by omega
  unfold pD pmulc at T1
  rcases hd with rfl | rfl <;> simp [C_scale, mLc, hl2, L, T1, pD, pmulc]
theorem l_scale_ok : ScaleOk F__law_scale := C_scale_ok l_times_op l_told_ok
/-! numbered rows -/
def enF : Nat → List Rat → List D
  | _, [] => []
  | k, a :: p => .tuple [.int (k : Int), qD a] :: enF (k + 1) p
theorem mapIdx_enF : ∀ (p : List Rat) (k : Nat), (pL p).mapIdx (fun i d => (PySem.PyData.tuple [.int ((i + k : Nat) : Int), d] : D)) = enF k p
  | [], k => rfl
  | a :: p, k => by
    have ih := mapIdx_enF p (k + 1)
    rw [pL_cons, List.mapIdx_cons, enF]
    have e : ∀ i : Nat, i + 1 + k = i + (k + 1) := fun i => by omega
    simp only [e, Nat.zero_add]
    rw [ih]
theorem enum_pL (p : List Rat) : enumL (pL p) = enF 0 p := mapIdx_enF p 0
theorem co_at (r : List Rat) (i : Nat) (h : i < r.length) : atD (pL r) (i : Int) = some (qD (co r i)) := by
  unfold atD ixD
  rw [if_pos (Int.natCast_nonneg i), if_pos (by simp; omega)]
  simp [pL, co, h]
theorem ix_at (r : List Rat) (i : Nat) (h : i < r.length) : ixD r.length (i : Int) = some i := by
  unfold ixD
  rw [if_pos (Int.natCast_nonneg i), if_pos (by omega)]
  simp
theorem pL_set (r : List Rat) (i : Nat) (a : Rat) : (pL r).set i (qD a) = pL (r.set i a) := by simp [pL]
/-! products -/
def C_mul1 (A M : PF) : MS := (sSetI 2 (mBin oAdd (mVar 3) (mVar 5)) (mCall A (aCons (mBin oIx (mVar 2) (mBin oAdd (mVar 3) (mVar 5))) (aCons (mCall M (aCons (mVar 4) (aCons (mVar 6) aNil))) aNil))))
def C_mul (A M T : PF) (z : ME) : MS := (sSeq (sOwn 2 (mBin oMul (mLst (aCons z aNil)) (mBin oAdd (mB bLen (vCons (mVar 0) vNil)) (mB bLen (vCons (mVar 1) vNil)))))
  (sSeq (sFor (iEnumL (mVar 0)) (.tp [(.nm 3), (.nm 4)]) (sFor (iEnumL (mVar 1)) (.tp [(.nm 5), (.nm 6)]) (C_mul1 A M)))
  (sFrz 2 (sRet (mCall T (aCons (mVar 2) aNil))))))
theorem mul_in {A M : PF} (hA : Op A (· + ·)) (hM : Op M (· * ·)) (x0 x1 : EV) (a : Rat) (fa : Fit a) (i n l : Nat) (h0 : 0 < n) (st : Pt) : ∀ (q r : List Rat) (j m : Nat) (u v : EV), isPt u = false → isPt v = false → Fits q → Inp n m r → Inp n l (q.map (a * ·)) → Cap n (m + q.length * l) → Cap n l → i + j + q.length ≤ r.length →
    ∃ u1 v1, forL (.tp [.nm 5, .nm 6]) (C_mul1 A M) (enF j q) [x0, x1, .ow (pL r), .im (.int (i : Int)), .im (qD a), u, v] st = .ok (.nx [x0, x1, .ow (pL (addAt r (i + j) (q.map (a * ·)))), .im (.int (i : Int)), .im (qD a), u1, v1] st) ∧ isPt u1 = false ∧ isPt v1 = false
  | [], r, j, m, u, v, hu, hv, _, _, _, _, _, _ => ⟨u, v, by simp [enF, forL, addAt], hu, hv⟩
  | b :: q, r, j, m, u, v, hu, hv, fq, hr, hq, hc, hl, hlen => by
    simp only [List.length_cons] at hlen hc
    have c1 := co_at r (i + j) (by omega)
    have c2 := ix_at r (i + j) (by omega)
    rw [Int.natCast_add] at c1 c2
    have i1 := hr.co h0 (i + j)
    have i2 := hq (a * b) (by simp)
    have m1 := hM a b fa fq.head
    have m2 := hA (co r (i + j)) (a * b) (i1.fit h0 (hc.mono (by omega))) (i2.fit h0 hl)
    have hr2 : Inp n (m + l) (r.set (i + j) (co r (i + j) + a * b)) := fun z hz => by
      rcases List.mem_or_eq_of_mem_set hz with hz | rfl
      · exact (hr z hz).mono (by omega)
      · exact i1.add i2 h0
    obtain ⟨u1, v1, e, hu1, hv1⟩ := mul_in hA hM x0 x1 a fa i n l h0 st q (r.set (i + j) (co r (i + j) + a * b)) (j + 1) (m + l) (.im (.int (j : Int))) (.im (qD b)) rfl rfl fq.tail hr2 (fun x hx => hq x (by simp at hx ⊢; exact .inr hx)) (hc.mono (by rw [Nat.add_mul]; omega)) hl (by simp; omega)
    refine ⟨u1, v1, ?_, hu1, hv1⟩
    rw [← Nat.add_assoc] at e
    simp [enF, forL, hu, hv, C_mul1, c1, c2, m1, m2, pL_set, addAt] at e ⊢
    exact e
theorem mul_out {A M : PF} (hA : Op A (· + ·)) (hM : Op M (· * ·)) (x0 : EV) (q : List Rat) (fq : Fits q) (n n1 m m1 : Nat) (h0 : 0 < n) (h1 : 0 < n1) (hq : Inp n1 m1 q) (st : Pt) : ∀ (p r : List Rat) (i l : Nat) (s t u v : EV), isPt s = false → isPt t = false → isPt u = false → isPt v = false → Fits p → Inp n m p → Inp (n * n1) l r → Cap (n * n1) (l + p.length * (q.length * (m * m1))) → Cap (n * n1) (m * m1) → i + p.length + q.length ≤ r.length →
    ∃ s1 t1 u1 v1, forL (.tp [.nm 3, .nm 4]) (sFor (iEnumL (mVar 1)) (.tp [(.nm 5), (.nm 6)]) (C_mul1 A M)) (enF i p) [x0, .im (pD q), .ow (pL r), s, t, u, v] st = .ok (.nx [x0, .im (pD q), .ow (pL (mulRows q r i p)), s1, t1, u1, v1] st)
  | [], r, i, l, s, t, u, v, _, _, _, _, _, _, _, _, _, _ => ⟨s, t, u, v, by simp [enF, forL, mulRows]⟩
  | a :: p, r, i, l, s, t, u, v, hs, ht, hu, hv, fp, hp, hr, hc, hl, hlen => by
    simp only [List.length_cons] at hlen hc
    have h2 : Inp (n * n1) (m * m1) (q.map (a * ·)) := fun z hz => by
      obtain ⟨b, hb, rfl⟩ := List.mem_map.mp hz
      exact (hp a (by simp)).mul (hq b hb) h0 h1
    have hc1 : Cap (n * n1) (l + q.length * (m * m1)) := hc.mono (by rw [Nat.add_mul]; omega)
    obtain ⟨u1, v1, e, hu1, hv1⟩ := mul_in hA hM x0 (.im (pD q)) a fp.head i (n * n1) (m * m1) (Nat.mul_pos h0 h1) st q r 0 l u v hu hv fq hr h2 hc1 hl (by omega)
    have h3 := Inp.addAt (Nat.mul_pos h0 h1) (i := i) hr h2
    rw [List.length_map] at h3
    obtain ⟨s2, t2, u2, v2, e2⟩ := mul_out hA hM x0 q fq n n1 m m1 h0 h1 hq st p (addAt r i (q.map (a * ·))) (i + 1) (l + q.length * (m * m1)) (.im (.int (i : Int))) (.im (qD a)) u1 v1 rfl rfl hu1 hv1 fp.tail (fun x hx => hp x (List.mem_cons_of_mem _ hx)) h3 (hc.mono (by rw [Nat.add_mul]; omega)) hl (by rw [addAt_len]; omega)
    refine ⟨s2, t2, u2, v2, ?_⟩
    rw [Nat.add_zero] at e
    unfold pD at e e2 ⊢
    simp [enF, forL, hs, ht, sFor, enum_pL, e, e2, mulRows]
def MulOk (f : PF) : Prop := ∀ (p q : List Rat) (n n1 m m1 : Nat), 0 < n → 0 < n1 → Inp n m p → Inp n1 m1 q → Fits p → Fits q → Cap (n * n1) (p.length * (q.length * (m * m1)) + m * m1) → p.length + q.length < 800 → f [pD p, pD q] = .ok (pD (strip (pmul p q)))
theorem C_mul_ok {A M T : PF} {z : ME} (hA : Op A (· + ·)) (hM : Op M (· * ·)) (hT : ToldOk T) (hz : ∀ env st, z env st = .ok (.im (qD 0), st)) : MulOk (runP 2 7 (C_mul A M T z)) := fun p q n n1 m m1 h0 h1 hp hq fp fq hc hlen => by
  have hr : Inp (n * n1) 0 (zeros (p.length + q.length)) := fun z hz => by
    rw [List.eq_of_mem_replicate hz]
    exact In_zero _ _ (Nat.mul_pos h0 h1)
  obtain ⟨s1, t1, u1, v1, e⟩ := mul_out hA hM (.im (pD p)) q fq n n1 m m1 h0 h1 hq [] p (zeros (p.length + q.length)) 0 0 .no .no .no .no rfl rfl rfl rfl fp hp hr (hc.mono (by omega)) (hc.mono (by omega)) (by simp [zeros])
  have T1 := hT (pD (pmul p q)) (pmul p q) (Row.l _) (by unfold pmul; rw [mulRows_len]; simp [zeros]; omega)
  have rp : oMul (.list [qD 0]) (.int ((p.length : Int) + (q.length : Int))) = .ok (.ow (pL (zeros (p.length + q.length)))) := by
    have e : ((p.length : Int) + (q.length : Int)).toNat = p.length + q.length := by omega
    rw [oMul_l, e, if_pos (by simp; omega), flat_rep, zeros, pL_rep]
  unfold pmul pD at T1
  unfold pD at e
  simp [C_mul, hz, -oMul_l, rp, sFor, enum_pL, pD, e, T1, pmul]
theorem times_of_ok : MulOk F_times_of := C_mul_ok add_op mul_op told_ok fun _ _ => rfl
theorem l_mul_ok : MulOk F__law_product := C_mul_ok l_plus_op l_times_op l_told_ok fun _ _ => by simp [q0]
/-! values -/
def C_val1 (A M : PF) : MS := (sSet 2 (mCall A (aCons (mCall M (aCons (mVar 2) (aCons (mVar 1) aNil))) (aCons (mVar 3) aNil))))
theorem val_loop {A M : PF} (hA : Op A (· + ·)) (hM : Op M (· * ·)) (x0 : EV) (x : Rat) (fx : Fit x) (st : Pt) : ∀ (q p : List Rat) (w : EV), isPt w = false → Fits q → (∀ k ≤ q.length, Fit (ev ((q.take k).reverse ++ p) x) ∧ Fit (ev ((q.take k).reverse ++ p) x * x)) →
    ∃ w1, forL (.nm 3) (C_val1 A M) (pL q) [x0, .im (qD x), .im (qD (ev p x)), w] st = .ok (.nx [x0, .im (qD x), .im (qD (ev (q.reverse ++ p) x)), w1] st)
  | [], p, w, _, _, _ => ⟨w, by simp [forL]⟩
  | a :: q, p, w, hw, fq, h => by
    have f0 := h 0 (by omega)
    have f1 := h 1 (by simp)
    simp at f0 f1
    have m1 : M [qD (ev p x), qD x] = .ok (qD (ev p x * x)) := hM _ _ f0.1 fx
    have m2 : A [qD (ev p x * x), qD a] = .ok (qD (ev p x * x + a)) := hA _ _ f0.2 fq.head
    have ee : ev p x * x + a = ev (a :: p) x := by
      rw [ev_cons]
      grind
    obtain ⟨w1, e⟩ := val_loop hA hM x0 x fx st q (a :: p) (.im (qD a)) rfl fq.tail fun k hk => by
      have := h (k + 1) (by simp; omega)
      simpa using this
    refine ⟨w1, ?_⟩
    rw [ee] at m2
    unfold C_val1 at e
    simp [forL, hw, C_val1, m1, m2, e, -ev_cons]
def ValOk (f : PF) : Prop := ∀ (d : D) (p : List Rat) (x : Rat) (n n1 m m1 : Nat), Row d p → p.length < 800 → 0 < n → 0 < n1 → 1 ≤ m1 → Inp n m p → In n1 m1 x → Fits p → Fit x → Cap (n * n1 ^ (p.length + 1)) (p.length * (m * m1 ^ (p.length + 1))) → f [d, qD x] = .ok (qD (ev p x))
theorem val_fit {n n1 m m1 : Nat} {x : Rat} (h0 : 0 < n) (h1 : 0 < n1) (hm : 1 ≤ m1) (hx : In n1 m1 x) {p : List Rat} {l : Nat} (hl : p.length ≤ l) (hp : Inp n m p) (hc : Cap (n * n1 ^ (l + 1)) (l * (m * m1 ^ (l + 1)))) : Fit (ev p x) ∧ Fit (ev p x * x) := by
  have h := Inp.ev h0 h1 hx hm hp
  have pp : ∀ k, 0 < n1 ^ k := fun k => Nat.pow_pos h1
  have h2 := h.mul hx (Nat.mul_pos h0 (pp _)) h1
  have big : 0 < n * n1 ^ (l + 1) := Nat.mul_pos h0 (pp _)
  have d1 : n * n1 ^ p.length ∣ n * n1 ^ (l + 1) := Nat.mul_dvd_mul_left _ (Nat.pow_dvd_pow _ (by omega))
  have d2 : n * n1 ^ p.length * n1 ∣ n * n1 ^ (l + 1) := by
    rw [Nat.mul_assoc, ← Nat.pow_succ]
    exact Nat.mul_dvd_mul_left _ (Nat.pow_dvd_pow _ (by omega))
  have k1 : p.length * (m * m1 ^ p.length) ≤ l * (m * m1 ^ (l + 1)) := Nat.mul_le_mul hl (Nat.mul_le_mul_left _ (Nat.pow_le_pow_right hm (by omega)))
  have k2 : p.length * (m * m1 ^ p.length) * m1 ≤ l * (m * m1 ^ (l + 1)) := by
    rw [Nat.mul_assoc, Nat.mul_assoc, ← Nat.pow_succ]
    exact Nat.mul_le_mul hl (Nat.mul_le_mul_left _ (Nat.pow_le_pow_right hm (by omega)))
  exact ⟨((h.dvd big d1).mono k1).fit big hc, ((h2.dvd big d2).mono k2).fit big hc⟩
def C_val (A M : PF) (z l : ME) : MS := (sSeq (sSet 2 z)
  (sSeq (sFor (iSeq (mUn revLO l)) (.nm 3) (C_val1 A M))
  (sRet (mVar 2))))
theorem C_val_ok {A M : PF} {z l : ME} (hA : Op A (· + ·)) (hM : Op M (· * ·)) (hz : ∀ env st, z env st = .ok (.im (qD 0), st)) (d : D) (p : List Rat) (x : Rat) (n n1 m m1 : Nat) (hd : ∀ a b c, ∃ e, l [.im d, a, b, c] [] = .ok (e, []) ∧ e.view = .ok (.list (pL p))) (h0 : 0 < n) (h1 : 0 < n1) (hm : 1 ≤ m1) (hp : Inp n m p) (hx : In n1 m1 x) (fp : Fits p) (fx : Fit x) (hc : Cap (n * n1 ^ (p.length + 1)) (p.length * (m * m1 ^ (p.length + 1)))) : runP 2 4 (C_val A M z l) [d, qD x] = .ok (qD (ev p x)) := by
  obtain ⟨w1, e⟩ := val_loop hA hM (.im d) x fx [] p.reverse [] .no rfl (fun a ha => fp a (by simpa using ha)) fun k hk => by
    refine val_fit h0 h1 hm hx (l := p.length) (by simp at hk ⊢; omega) (fun a ha => ?_) hc
    have : a ∈ p.reverse := List.mem_of_mem_take (by simpa using ha)
    exact hp a (by simpa using this)
  simp only [List.reverse_reverse, List.append_nil, ev_nil] at e
  obtain ⟨e1, hd2, hd3⟩ := hd (.im (qD x)) (.im (qD 0)) .no
  simp [C_val, hz, sFor, hd2, hd3, pL_rev, e]
theorem value_of_ok : ValOk F_value_of := fun d p x n n1 m m1 hd hl h0 h1 hm hp hx fp fx hc => C_val_ok (l := mB bList (vCons (mVar 0) vNil)) add_op mul_op (fun _ _ => rfl) d p x n n1 m m1 (fun a b c => by rcases hd with rfl | rfl <;> exact ⟨.ow (pL p), by simp, rfl⟩) h0 h1 hm hp hx fp fx hc
theorem l_value_ok (p : List Rat) (x : Rat) (n n1 m m1 : Nat) (h0 : 0 < n) (h1 : 0 < n1) (hm : 1 ≤ m1) (hp : Inp n m p) (hx : In n1 m1 x) (fp : Fits p) (fx : Fit x) (hc : Cap (n * n1 ^ (p.length + 1)) (p.length * (m * m1 ^ (p.length + 1)))) : F__law_value [pD p, qD x] = .ok (qD (ev p x)) := C_val_ok (l := mVar 0) l_plus_op l_times_op (fun _ _ => by simp [q0]) (pD p) p x n n1 m m1 (fun a b c => ⟨.im (pD p), by simp, rfl⟩) h0 h1 hm hp hx fp fx hc
end BP

namespace BP
/-! ### loops by what stays true -/
theorem forL_inv {p : Pat} {b : MS} {st : Pt} : ∀ {ds : List D} (I : Nat → Env → Prop), (∀ (i : Nat) (d : D), ds[i]? = some d → ∀ env, I i env → ∃ env1, p.set d env = .ok env1 ∧ ∃ env2, b env1 st = .ok (.nx env2 st) ∧ I (i + 1) env2) → ∀ {env : Env}, I 0 env → ∃ env2, forL p b ds env st = .ok (.nx env2 st) ∧ I ds.length env2
  | [], I, _, env, h => ⟨env, by simp [forL], h⟩
  | d :: ds, I, hs, env, h => by
    obtain ⟨env1, e1, env2, e2, h2⟩ := hs 0 d rfl env h
    obtain ⟨env3, e3, h3⟩ := forL_inv (ds := ds) (fun i => I (i + 1)) (fun i d' hd => hs (i + 1) d' (by simpa using hd)) h2
    exact ⟨env3, by simp [forL, e1, e2, e3], by simpa using h3⟩
theorem lcL_ix {p : Pat} {e : ME} {env : Env} {st : Pt} : ∀ {ds : List D} {es : List D}, ds.length = es.length → (∀ (i : Nat) (d x : D), ds[i]? = some d → es[i]? = some x → ∃ env1, p.set d env = .ok env1 ∧ e env1 st = .ok (.im x, st)) → lcL p (mC (.bool true)) e env ds st = .ok (es, st)
  | [], [], _, _ => by simp [lcL]
  | [], _ :: _, h, _ => by simp at h
  | _ :: _, [], h, _ => by simp at h
  | d :: ds, x :: es, hl, h => by
    obtain ⟨env1, e1, e2⟩ := h 0 d x rfl rfl
    have ih := lcL_ix (p := p) (e := e) (env := env) (st := st) (ds := ds) (es := es) (by simpa using hl) fun i d' x' h1 h2 => h (i + 1) d' x' (by simpa using h1) (by simpa using h2)
    simp [lcL, e1, e2, ih]
theorem pL_get {p : List Rat} {i : Nat} {d : D} (h : (pL p)[i]? = some d) : i < p.length ∧ d = qD (co p i) := by
  have hi : i < p.length := by
    have := (List.getElem?_eq_some_iff.mp h).1
    simpa using this
  refine ⟨hi, ?_⟩
  simp [pL, hi] at h
  simp [co, hi, h]
theorem range_get {n : Nat} {i : Nat} {d : D} (h : (rangeL 0 (n : Int))[i]? = some d) : i < n ∧ d = .int (i : Int) := by
  have hl : (rangeL 0 (n : Int)).length = n := by simp [rangeL]
  have hi : i < n := by
    have := (List.getElem?_eq_some_iff.mp h).1
    omega
  refine ⟨hi, ?_⟩
  simp [rangeL, hi] at h
  exact h.symm
theorem range_len (n : Nat) : (rangeL 0 (n : Int)).length = n := by simp [rangeL]
theorem enum_get {p : List Rat} {i : Nat} {d : D} (h : (enumL (pL p))[i]? = some d) : i < p.length ∧ d = .tuple [.int (i : Int), qD (co p i)] := by
  have hi : i < p.length := by
    have := (List.getElem?_eq_some_iff.mp h).1
    simpa [enumL] using this
  refine ⟨hi, ?_⟩
  simp [enumL, hi, pL] at h
  simp [co, hi, ← h]
theorem enum_len (p : List Rat) : (enumL (pL p)).length = p.length := by simp [enumL]
theorem getElem_pL {f : Nat → Rat} {n i : Nat} {d : D} (h : (pL ((List.range n).map f))[i]? = some d) : i < n ∧ d = qD (f i) := by
  obtain ⟨h1, h2⟩ := pL_get h
  simp at h1
  refine ⟨h1, h2.trans ?_⟩
  simp [co, h1]
theorem runPo_ro {a n : Nat} {s : MS} {ds es : List D} {st : Pt} (h : ds.length = a) (k : s (startE n ds) [] = .ok (.ro es st)) : runPo a n s ds = .ok es := by
  unfold runPo
  rw [if_pos h, k]
  rfl
theorem runP_rt {a n : Nat} {s : MS} {ds : List D} {x : D} {st : Pt} (h : ds.length = a) (k : s (startE n ds) [] = .ok (.rt x st)) : runP a n s ds = .ok x := by
  unfold runP
  rw [if_pos h, k]
  rfl
theorem seq_nx {a b : MS} {env env1 : Env} {st st1 : Pt} (h : a env st = .ok (.nx env1 st1)) : sSeq a b env st = b env1 st1 := by
  unfold sSeq
  rw [h]
  rfl
theorem runD_rt {a n : Nat} {s : MS} {ds : List D} {x : D} {st st1 : Pt} (h : ds.length + 1 = a) (k : s (.pt :: startE (n - 1) ds) st = .ok (.rt x st1)) : runD a n s ds st = .ok (x, st1) := by
  unfold runD
  rw [if_pos h, k]
  rfl
theorem mLc_ok {it : MI} {p : Pat} {vs : List Nat} {e : ME} {env : Env} {st st1 st2 : Pt} {ds es : List D} (hit : it env st = .ok (ds, st1)) (hl : ds.length ≤ LIM ∧ (vs.any fun v => isLk (getE env v)) = false) (h : lcL p (mC (.bool true)) e (wipeE env vs) ds st1 = .ok (es, st2)) : mLc it p vs (mC (.bool true)) e env st = .ok (.ow es, st2) := by
  unfold mLc
  rw [hit]
  show (if ds.length ≤ LIM ∧ (vs.any fun v => isLk (getE env v)) = false then _ else _) = _
  rw [if_pos hl, h]
  rfl
theorem mLc_ok' {it : MI} {p : Pat} {vs : List Nat} {c e : ME} {env : Env} {st st1 st2 : Pt} {ds es : List D} (hit : it env st = .ok (ds, st1)) (hl : ds.length ≤ LIM) (hv : (vs.any fun v => isLk (getE env v)) = false) (h : lcL p c e (wipeE env vs) ds st1 = .ok (es, st2)) : mLc it p vs c e env st = .ok (.ow es, st2) := by
  unfold mLc
  rw [hit]
  show (if ds.length ≤ LIM ∧ (vs.any fun v => isLk (getE env v)) = false then _ else _) = _
  rw [if_pos ⟨hl, hv⟩, h]
  rfl
theorem sSet_ok {i : Nat} {a : ME} {env env1 : Env} {st st1 : Pt} {x : EV} {u : D} (h : a env st = .ok (x, st1)) (hv : x.val = .ok u) (hp : putE env i (.im u) = .ok env1) : sSet i a env st = .ok (.nx env1 st1) := by
  unfold sSet
  rw [h]
  show (x.val.bind _) = _
  rw [hv]
  show ((putE env i (.im u)).bind _) = _
  rw [hp]
  rfl
theorem mCall_ok {F : PF} {as : MA} {env : Env} {st st1 : Pt} {ds : List D} {z : D} (h : as env st = .ok (ds, st1)) (hf : F ds = .ok z) : mCall F as env st = .ok (.im z, st1) := by
  unfold mCall
  rw [h]
  show ((F ds).bind _) = _
  rw [hf]
  rfl
theorem sIf_true {c : ME} {a b : MS} {env : Env} {st st1 : Pt} {r : R Out} (h : c env st = .ok (.im (.bool true), st1)) (k : a env st1 = r) : sIf c a b env st = r := by
  unfold sIf
  rw [h]
  exact k
theorem sIf_false {c : ME} {a b : MS} {env : Env} {st st1 : Pt} {r : R Out} (h : c env st = .ok (.im (.bool false), st1)) (k : b env st1 = r) : sIf c a b env st = r := by
  unfold sIf
  rw [h]
  exact k
theorem iR1N {m : ME} {env : Env} {st st' : Pt} {k : Nat} (h : m env st = .ok (.im (.int (k : Int)), st')) (h1 : k ≤ 1000) : iRange1 m env st = .ok (rangeL 0 (k : Int), st') := by
  unfold iRange1
  rw [h]
  exact if_pos ⟨by omega, by omega⟩
/-- a list of so many numbers -/
def tab (f : Nat → Rat) (n : Nat) : List Rat := (List.range n).map f
@[simp] theorem tab_len (f : Nat → Rat) (n : Nat) : (tab f n).length = n := by simp [tab]
theorem co_tab (f : Nat → Rat) (n k : Nat) : co (tab f n) k = if k < n then f k else 0 := by
  unfold co tab
  split
  · rename_i h
    simp [h]
  · rename_i h
    simp [h]
theorem tab_succ (f : Nat → Rat) (n : Nat) : tab f (n + 1) = tab f n ++ [f n] := by
  simp [tab, List.range_succ]
theorem tab_ext {p : List Rat} {f : Nat → Rat} {n : Nat} (hl : p.length = n) (h : ∀ k, k < n → co p k = f k) : p = tab f n := by
  refine List.ext_getElem (by simp [hl]) fun i h1 h2 => ?_
  have := h i (by omega)
  simp [co, h1] at this
  simp [tab, this]
theorem mem_tab {f : Nat → Rat} {n : Nat} {a : Rat} (h : a ∈ tab f n) : ∃ k, k < n ∧ a = f k := by
  unfold tab at h
  obtain ⟨k, hk, rfl⟩ := List.mem_map.mp h
  exact ⟨k, by simpa using hk, rfl⟩
/-! ### ways to pick -/
def isI' (r : R D) (c : Nat) : Bool := match r with
  | .ok (.int i) => i == (c : Int)
  | _ => false
theorem isI_of {r : R D} {c : Nat} (h : isI' r c = true) : r = .ok (.int (c : Int)) := by
  unfold isI' at h
  split at h
  · rw [beq_iff_eq] at h
    rw [h]
  · cases h
theorem picks_ok {n k : Nat} (hn : n ≤ 12) (hk : k ≤ 12) : F_picks [.int (n : Int), .int (k : Int)] = .ok (.int (ch n k : Int)) := by
  have : ∀ n, n < 13 → ∀ k, k < 13 → isI' (F_picks [.int ((n : Nat) : Int), .int ((k : Nat) : Int)]) (ch n k) = true := by decide +kernel
  exact isI_of (this n (by omega) k (by omega))
theorem choose_ok {n k : Nat} (hn : n ≤ 12) (hk : k ≤ 12) : F__law_choose [.int (n : Int), .int (k : Int)] = .ok (.int (ch n k : Int)) := by
  have : ∀ n, n < 13 → ∀ k, k < 13 → isI' (F__law_choose [.int ((n : Nat) : Int), .int ((k : Nat) : Int)]) (ch n k) = true := by decide +kernel
  exact isI_of (this n (by omega) k (by omega))
/-- told, of a known length, over a known bottom -/
structure Pol (n m l : Nat) (r : List Rat) : Prop where
  told : strip r = r
  inp : Inp n m r
  len : r.length ≤ l
theorem Cap.le {n m n1 m1 : Nat} (h : Cap n m) (hn : n1 ≤ n) (hm : m1 ≤ m) : Cap n1 m1 := ⟨Nat.lt_of_le_of_lt hn h.1, Nat.lt_of_le_of_lt (Nat.mul_le_mul hm hn) h.2⟩
/-! products by rows put together: how long they are -/
def pmulr : List Rat → List Rat → List Rat
  | [], _ => []
  | a :: p, q => padd (pmulc a q) (0 :: pmulr p q)
theorem ev_pmulr (x : Rat) (q : List Rat) : ∀ p : List Rat, ev (pmulr p q) x = ev p x * ev q x
  | [] => by simp [pmulr]
  | a :: p => by
    rw [pmulr, ev_padd, ev_pmulc, ev_cons, ev_pmulr x q p, ev_cons]
    grind
theorem pmulr_len (q : List Rat) (hq : 1 ≤ q.length) : ∀ p : List Rat, (pmulr p q).length ≤ p.length + q.length - 1
  | [] => by simp [pmulr]
  | a :: p => by
    have ih := pmulr_len q hq p
    rw [pmulr, padd_len]
    simp [pmulc]
    omega
theorem strip_pmul_len (p q : List Rat) (hq : 1 ≤ q.length) : (strip (pmul p q)).length ≤ p.length + q.length - 1 := by
  have e : strip (pmul p q) = strip (pmulr p q) := strip_ext fun n => by rw [ev_pmul, ev_pmulr]
  rw [e]
  exact Nat.le_trans (strip_le _) (pmulr_len q hq p)
theorem told_ext {p q : List Rat} (hp : strip p = p) (hq : strip q = q) (h : ∀ x : Rat, ev p x = ev q x) : p = q := by
  rw [← hp, ← hq]
  exact strip_ext fun n => h n
theorem In_one (n m : Nat) (h0 : 0 < n) (hm : 1 ≤ m) : In n m 1 := In_int n 1 m h0 hm
theorem Inp2 {n m : Nat} {a b : Rat} (ha : In n m a) (hb : In n m b) : Inp n m [a, b] := fun z hz => by
  rcases List.mem_cons.mp hz with rfl | hz
  · exact ha
  · rw [List.mem_singleton.mp hz]
    exact hb
theorem Inp1 {n m : Nat} {a : Rat} (ha : In n m a) : Inp n m [a] := fun z hz => by
  rw [List.mem_singleton.mp hz]
  exact ha
/-- one factor more: f times [u, v] -/
theorem step_mul {f : PF} (hf : MulOk f) {r : List Rat} {n m l ns ms : Nat} {u v : Rat} (h0 : 0 < n) (h1 : 0 < ns) (hr : Pol n m l r) (hu : In ns ms u) (hv : In ns ms v) (hl : l < 100) (hc : Cap (n * ns) (m * ((2 * l + 1) * ms))) (hc1 : Cap n m) (hc2 : Cap ns ms) :
    f [pD r, .list [qD u, qD v]] = .ok (pD (strip (pmul r [u, v]))) ∧ Pol (n * ns) (m * ((2 * l + 1) * ms)) (l + 1) (strip (pmul r [u, v])) := by
  have i2 := Inp2 hu hv
  have k1 : r.length * (2 * (m * ms)) + m * ms ≤ m * ((2 * l + 1) * ms) := by
    have := hr.len
    have e : m * ((2 * l + 1) * ms) = l * (2 * (m * ms)) + m * ms := by
      simp only [Nat.add_mul, Nat.mul_add, Nat.one_mul]
      rw [Nat.mul_assoc 2, ← Nat.mul_assoc m 2, Nat.mul_comm m 2, Nat.mul_assoc 2, Nat.mul_left_comm m l, Nat.mul_left_comm l 2]
    rw [e]
    exact Nat.add_le_add_right (Nat.mul_le_mul_right _ this) _
  refine ⟨hf r [u, v] n ns m ms h0 h1 hr.inp i2 (hr.inp.fits h0 hc1) (i2.fits h1 hc2) (hc.mono k1) (by have := hr.len; simp; omega), strip_strip _, ?_, ?_⟩
  · exact ((Inp.pmul h0 h1 hr.inp i2).mono (Nat.le_trans (Nat.le_add_right _ _) k1)).strip
  · refine Nat.le_trans (strip_pmul_len r [u, v] (by simp)) ?_
    have := hr.len
    simp
    omega
end BP

namespace BP
/-! ### moved, stretched -/
theorem In.dvd' {n m k : Nat} {q : Rat} (h : In n m q) (h0 : 0 < k) (hk : n ∣ k) : In k m q := h.dvd h0 hk
theorem Inp.dvd {n m k : Nat} {p : List Rat} (h : Inp n m p) (h0 : 0 < k) (hk : n ∣ k) : Inp k m p := fun a ha => (h a ha).dvd h0 hk
theorem co_mem {p : List Rat} {k : Nat} (h : k < p.length) : co p k ∈ p := by
  simp [co, h]
theorem drop_cons' (p : List Rat) (k : Nat) (h : k < p.length) : p.drop k = co p k :: p.drop (k + 1) := by
  have e : co p k = p[k] := by simp [co, h]
  rw [e]
  exact List.drop_eq_getElem_cons h
def MoveOk (f : PF) : Prop := ∀ (d : D) (p : List Rat) (s : Rat) (n m ns ms L : Nat), Row d p → p.length ≤ L → L < 90 → 0 < n → 0 < ns → 1 ≤ ms → Inp n m p → In ns ms s → Cap (n * ns ^ (L + 1)) (m * ((2 * L + 1) * ms + 1) ^ (L + 1)) → Cap ns ms →
  ∃ r, f [d, qD s] = .ok (pD r) ∧ Pol (n * ns ^ L) (m * ((2 * L + 1) * ms + 1) ^ L) p.length r ∧ ∀ t : Rat, ev r t = ev p (t + s)
theorem co_rev {p : List Rat} {i : Nat} (h : i < p.length) : co p.reverse i = co p (p.length - 1 - i) := by
  have h2 : p.length - 1 - i < p.length := by omega
  simp [co, h, h2, List.getElem_reverse]
def C_moved1 (fp fm : PF) : MS := (sSet 2 (mCall fp (aCons (mCall fm (aCons (mVar 2) (aCons (mLst (aCons (mVar 1) (aCons (mTup (aCons (mC (.int 1)) (aCons (mC (.int 1)) aNil))) aNil))) aNil))) (aCons (mLst (aCons (mVar 3) aNil)) aNil))))
def C_moved (fp fm : PF) : MS := (sSeq (sSet 2 (mLst aNil))
  (sSeq (sFor (iSeq (mUn revLO (mB bList (vCons (mVar 0) vNil)))) (.nm 3) (C_moved1 fp fm))
  (sRet (mVar 2))))
theorem C_moved_ok {gp gm : PF} (hfp : AddOk gp) (hfm : MulOk gm) : MoveOk (runP 2 4 (C_moved gp gm)) := fun d p s n m ns ms L hd hl hL h0 h1 hm hp hs hc hcs => by
  let X := (2 * L + 1) * ms + 1
  have hX : 1 ≤ X := Nat.le_add_left _ _
  have nsp : ∀ k, 0 < ns ^ k := fun k => Nat.pow_pos h1
  have Xp : ∀ k, 0 < X ^ k := fun k => Nat.pow_pos hX
  have hc' : ∀ k, k ≤ L + 1 → Cap (n * ns ^ k) (m * X ^ k) := fun k hk => hc.le (Nat.mul_le_mul_left _ (Nat.pow_le_pow_right h1 hk)) (Nat.mul_le_mul_left _ (Nat.pow_le_pow_right hX hk))
  have hin : In ns ms (1 : Rat) := In_one ns ms h1 hm
  have fp : Fits p := hp.fits h0 ((hc' 0 (by omega)).le (by simp) (by simp))
  let I : Nat → Env → Prop := fun i env => ∃ f w, env = [.im d, .im (qD s), .im (pD f), w] ∧ isPt w = false ∧ Pol (n * ns ^ i) (m * X ^ i) i f ∧ ∀ t : Rat, ev f t = ev (p.drop (p.length - i)) (t + s)
  have key := forL_inv (p := .nm 3) (b := (C_moved1 gp gm)) (st := []) (ds := pL p.reverse) I (fun i d1 hd1 env hI => by
    obtain ⟨f, w, rfl, hw, hf, he⟩ := hI
    obtain ⟨hi, rfl⟩ := pL_get hd1
    simp at hi
    rw [co_rev hi]
    have ha := co_mem (p := p) (k := p.length - 1 - i) (by omega)
    generalize hA : co p (p.length - 1 - i) = a at ha
    have bnd : m * X ^ i * ((2 * i + 1) * ms) ≤ m * X ^ i * ((2 * L + 1) * ms) := Nat.mul_le_mul_left _ (Nat.mul_le_mul_right _ (by omega))
    have eX : m * X ^ (i + 1) = m * X ^ i * ((2 * L + 1) * ms) + m * X ^ i := by
      rw [Nat.pow_succ, ← Nat.mul_assoc]
      show m * X ^ i * ((2 * L + 1) * ms + 1) = _
      rw [Nat.mul_add, Nat.mul_one]
    have m0 : m ≤ m * X ^ i := Nat.le_mul_of_pos_right _ (Xp i)
    have en : n * ns ^ i * ns = n * ns ^ (i + 1) := by rw [Nat.pow_succ, Nat.mul_assoc]
    obtain ⟨s1, s2⟩ := step_mul hfm (Nat.mul_pos h0 (nsp i)) h1 hf hs hin (by omega) ((hc' (i + 1) (by omega)).le (by rw [en]; exact Nat.le_refl _) (by rw [eX]; omega)) (hc' i (by omega)) hcs
    rw [en] at s2
    have ia : Inp (n * ns ^ (i + 1)) m [a] := Inp1 ((hp a ha).up h0 (nsp _))
    have hpos := Nat.mul_pos h0 (nsp (i + 1))
    have i3 := Inp.padd hpos s2.inp ia
    have ci1 := hc' (i + 1) (by omega)
    have A := hfp (pD (strip (pmul f [s, 1]))) (pD [a]) (strip (pmul f [s, 1])) [a] (Row.l _) (Row.l _) (by have := s2.len; omega) (by simp) (s2.inp.fits hpos (ci1.mono (by rw [eX]; omega))) (ia.fits hpos (ci1.mono (by rw [eX]; omega)))
    refine ⟨[.im d, .im (qD s), .im (pD f), .im (qD a)], by simp [hw], [.im d, .im (qD s), .im (pD (strip (padd (strip (pmul f [s, 1])) [a]))), .im (qD a)], ?_, ?_⟩
    · unfold pD at s1 A ⊢
      simp only [pL_cons, pL_nil] at A
      simp [C_moved1, q1, s1, A]
    · refine ⟨_, _, rfl, rfl, ⟨strip_strip _, ?_, ?_⟩, fun t => ?_⟩
      · exact (i3.mono (by rw [eX]; omega)).strip
      · refine Nat.le_trans (strip_le _) ?_
        rw [padd_len]
        have := s2.len
        simp
        omega
      · have e1 : p.length - (i + 1) = p.length - 1 - i := by omega
        have e2 : p.length - 1 - i + 1 = p.length - i := by omega
        have h5 := drop_cons' p (p.length - 1 - i) (by omega)
        rw [hA, e2] at h5
        rw [ev_strip, ev_padd, ev_strip, ev_pmul, he, e1, h5]
        simp
        grind) (env := [.im d, .im (qD s), .im (.list []), .no]) ⟨[], .no, rfl, rfl, ⟨rfl, fun a ha => by simp at ha, by simp⟩, fun t => by simp⟩
  obtain ⟨env2, e, f, w, rfl, hw, hf, he⟩ := key
  rw [pL_len, List.length_reverse] at hf he
  refine ⟨f, ?_, ⟨hf.told, ?_, hf.len⟩, fun t => by rw [he]; simp⟩
  · rcases hd with rfl | rfl <;> simp [C_moved, sFor, pL_rev, e]
  · exact (hf.inp.mono (Nat.mul_le_mul_left _ (Nat.pow_le_pow_right hX hl))).dvd (Nat.mul_pos h0 (nsp _)) (Nat.mul_dvd_mul_left _ (Nat.pow_dvd_pow _ hl))
theorem moved_of_ok : MoveOk F_moved_of := C_moved_ok plus_of_ok times_of_ok
/-- a row by powers of a number -/
def stp (w c : Rat) : List Rat → List Rat
  | [] => []
  | a :: p => a * w :: stp (w * c) c p
theorem ev_stp (c t : Rat) : ∀ (p : List Rat) (w : Rat), ev (stp w c p) t = w * ev p (c * t)
  | [], w => by simp [stp]
  | a :: p, w => by
    simp only [stp, ev_cons, ev_stp c t p]
    grind
theorem stp_len (c : Rat) : ∀ (p : List Rat) (w : Rat), (stp w c p).length = p.length
  | [], w => rfl
  | a :: p, w => by simp [stp, stp_len c p]
theorem stp_app (c : Rat) : ∀ (p : List Rat) (w a : Rat), stp w c (p ++ [a]) = stp w c p ++ [a * (w * c ^ p.length)]
  | [], w, a => by simp [stp]
  | b :: p, w, a => by
    simp only [List.cons_append, stp, stp_app c p, List.length_cons, Rat.pow_succ]
    congr 3
    grind
theorem In.pow {n m : Nat} {q : Rat} (h : In n m q) (h0 : 0 < n) : ∀ k, In (n ^ k) (m ^ k) (q ^ k)
  | 0 => by
    rw [Nat.pow_zero, Nat.pow_zero, Rat.pow_zero]
    exact In_one 1 1 (by omega) (by omega)
  | k + 1 => by
    rw [Nat.pow_succ, Nat.pow_succ, Rat.pow_succ]
    exact (In.pow h h0 k).mul h (Nat.pow_pos h0) h0
theorem Inp.stp {n m n1 m1 : Nat} {c : Rat} (h0 : 0 < n) (h1 : 0 < n1) (hm : 1 ≤ m1) (hc : In n1 m1 c) (L : Nat) : ∀ {p : List Rat} {i : Nat}, i + p.length ≤ L + 1 → Inp n m p → Inp (n * n1 ^ L) (m * m1 ^ L) (BP.stp (c ^ i) c p)
  | [], i, _, _ => fun a ha => by simp [BP.stp] at ha
  | a :: p, i, hl, hp => fun z hz => by
    simp only [BP.stp] at hz
    simp only [List.length_cons] at hl
    rcases List.mem_cons.mp hz with rfl | hz
    · have h := (hp a (by simp)).mul (hc.pow h1 i) h0 (Nat.pow_pos h1)
      exact (h.mono (Nat.mul_le_mul_left _ (Nat.pow_le_pow_right hm (by omega)))).dvd (Nat.mul_pos h0 (Nat.pow_pos h1)) (Nat.mul_dvd_mul_left _ (Nat.pow_dvd_pow _ (by omega)))
    · rw [← Rat.pow_succ] at hz
      exact Inp.stp h0 h1 hm hc L (i := i + 1) (by omega) (fun x hx => hp x (List.mem_cons_of_mem _ hx)) z hz
def StretchOk (f : PF) : Prop := ∀ (d : D) (p : List Rat) (c : Rat) (n m n1 m1 L : Nat), Row d p → p.length ≤ L → L < 90 → 0 < n → 0 < n1 → 1 ≤ m1 → 1 ≤ m → Inp n m p → In n1 m1 c → Cap (n * n1 ^ L) (m * m1 ^ L) → Cap n1 m1 →
  ∃ r, f [d, qD c] = .ok (pD r) ∧ Pol (n * n1 ^ L) (m * m1 ^ L) p.length r ∧ ∀ t : Rat, ev r t = ev p (c * t)
theorem take_co (p : List Rat) (i : Nat) (h : i < p.length) : p.take (i + 1) = p.take i ++ [co p i] := by
  have e : co p i = p[i] := by simp [co, h]
  rw [e, List.take_succ_eq_append_getElem h]
def C_stretched1 (fm : PF) : MS := (sSeq (sAppend 2 (mCall fm (aCons (mVar 4) (aCons (mVar 3) aNil))))
  (sSet 3 (mCall fm (aCons (mVar 3) (aCons (mVar 1) aNil)))))
def C_stretched (fm ft : PF) : MS := (sSeq (sPar2 2 3 true false (mLst aNil) (mTup (aCons (mC (.int 1)) (aCons (mC (.int 1)) aNil))))
  (sSeq (sFor (iSeq (mVar 0)) (.nm 4) (C_stretched1 fm))
  (sFrz 2 (sRet (mCall ft (aCons (mVar 2) aNil))))))
theorem C_stretched_ok {fm ft : PF} (hfm : Op fm (· * ·)) (hft : ToldOk ft) : StretchOk (runP 2 5 (C_stretched fm ft)) := fun d p c n m n1 m1 L hd hl hL h0 h1 hm hm0 hp hx hc hc1 => by
  have np : ∀ k, 0 < n1 ^ k := fun k => Nat.pow_pos h1
  have big := Nat.mul_pos h0 (np L)
  have fp : Fits p := hp.fits h0 (hc.le (Nat.le_mul_of_pos_right _ (np L)) (Nat.le_mul_of_pos_right _ (Nat.pow_pos hm)))
  have fc : Fit c := hx.fit h1 hc1
  have fw : ∀ i, i ≤ L → Fit (c ^ i) := fun i hi => (hx.pow h1 i).fit (np i) (hc.le (Nat.le_trans (Nat.pow_le_pow_right h1 hi) (Nat.le_mul_of_pos_left _ h0)) (Nat.le_trans (Nat.pow_le_pow_right hm hi) (Nat.le_mul_of_pos_left _ hm0)))
  let I : Nat → Env → Prop := fun i env => ∃ w, env = [.im d, .im (qD c), .ow (pL (stp 1 c (p.take i))), .im (qD (c ^ i)), w] ∧ isPt w = false
  have key := forL_inv (p := .nm 4) (b := (C_stretched1 fm)) (st := []) (ds := pL p) I (fun i d1 hd1 env hI => by
    obtain ⟨w, rfl, hw⟩ := hI
    obtain ⟨hi, rfl⟩ := pL_get hd1
    have ha := fp _ (co_mem hi)
    have e1 : fm [qD (co p i), qD (c ^ i)] = .ok (qD (co p i * c ^ i)) := hfm _ _ ha (fw i (by omega))
    have e2 : fm [qD (c ^ i), qD c] = .ok (qD (c ^ (i + 1))) := by
      rw [Rat.pow_succ]
      exact hfm _ _ (fw i (by omega)) fc
    have l1 : (stp 1 c (p.take i)).length < 1000000 := by
      rw [stp_len]
      simp
      omega
    have e3 : pL (stp 1 c (p.take i)) ++ [qD (co p i * c ^ i)] = pL (stp 1 c (p.take (i + 1))) := by
      rw [take_co p i hi, stp_app, pL_app]
      simp
      congr 1
      have : min i p.length = i := by omega
      rw [this]
    exact ⟨[.im d, .im (qD c), .ow (pL (stp 1 c (p.take i))), .im (qD (c ^ i)), .im (qD (co p i))], by simp [hw], [.im d, .im (qD c), .ow (pL (stp 1 c (p.take (i + 1)))), .im (qD (c ^ (i + 1))), .im (qD (co p i))], by simp [C_stretched1, e1, e2, l1, e3], _, rfl, rfl⟩) (env := [.im d, .im (qD c), .ow [], .im (qD 1), .no]) ⟨.no, by simp [stp], rfl⟩
  obtain ⟨env2, e, w, rfl, hw⟩ := key
  rw [pL_len, List.take_length] at e
  have T1 := hft (pD (stp 1 c p)) _ (Row.l _) (by rw [stp_len]; omega)
  unfold pD at T1
  refine ⟨strip (stp 1 c p), ?_, ⟨strip_strip _, ?_, ?_⟩, fun t => ?_⟩
  · rcases hd with rfl | rfl <;> simp [C_stretched, sFor, q1, e, T1, pD]
  · have := Inp.stp h0 h1 hm hx L (i := 0) (by omega) hp
    rw [Rat.pow_zero] at this
    exact this.strip
  · refine Nat.le_trans (strip_le _) ?_
    rw [stp_len]
    exact Nat.le_refl _
  · rw [ev_strip, ev_stp]
    grind
theorem stretched_of_ok : StretchOk F_stretched_of := C_stretched_ok mul_op told_ok
end BP

namespace BP
/-! ### corners -/
theorem ch_dvd {n k : Nat} (hn : n ≤ 8) (hk : k ≤ n) : ch n k ∣ 840 := by
  have : ∀ n, n < 9 → ∀ k, k < 9 → k ≤ n → ch n k ∣ 840 := by decide
  exact this n (by omega) k (by omega) hk
theorem ch_le {n i k : Nat} (hn : n ≤ 8) (hi : i ≤ n) (hk : k ≤ i) : ch i k ≤ ch n k := by
  have : ∀ n, n < 9 → ∀ i, i < 9 → i ≤ n → ∀ k, k < 9 → k ≤ i → ch i k ≤ ch n k := by decide
  exact this n (by omega) i (by omega) hi k (by omega) hk
theorem ch_70 {n k : Nat} (hn : n ≤ 8) (hk : k ≤ n) : ch n k ≤ 70 := by
  have : ∀ n, n < 9 → ∀ k, k < 9 → ch n k ≤ 70 := by decide
  exact this n (by omega) k (by omega)
def rat (n i k : Nat) : Rat := (ch i k : Rat) / (ch n k : Rat)
theorem rat_in {n i k : Nat} (hn : n ≤ 8) (hi : i ≤ n) (hk : k ≤ i) : In 840 1 (rat n i k) := by
  obtain ⟨c, hc⟩ := ch_dvd hn (k := k) (by omega)
  have hp := ch_pos (n := n) (by omega) (k := k) (by omega)
  have cp : 0 < c := Nat.pos_of_ne_zero fun z => by rw [z] at hc; omega
  refine ⟨((ch i k * c : Nat) : Int), ?_, ?_⟩
  · rw [dv_eq _ (by decide), rat, hc]
    have := nz hp
    have := nz cp
    push_cast
    grind
  · rw [Int.natAbs_natCast, Nat.one_mul, hc]
    exact Nat.mul_le_mul_right _ (ch_le hn hi hk)
theorem fit_nat (c : Nat) (h : c < 2 ^ 64) : Fit ((c : Nat) : Rat) := by
  have e : ((c : Nat) : Rat) = ((c : Int) : Rat) := rfl
  rw [e]
  refine (In_int 1 (c : Int) (2 ^ 64) (by decide) (by rw [Int.natAbs_natCast]; omega)).fit (by decide) ⟨by decide +kernel, by decide +kernel⟩
theorem dv_nat (a b : Nat) : Rat.divInt (a : Int) (b : Int) = (a : Rat) / (b : Rat) := by
  rw [Rat.divInt_eq_div]
  rfl
theorem red_rat {n i k : Nat} (hn : n ≤ 8) (hi : i ≤ n) (hk : k ≤ i) : F_reduced [.int (ch i k : Int), .int (ch n k : Int)] = .ok (qD (rat n i k)) := by
  have hp := ch_pos (n := n) (by omega) (k := k) (by omega)
  have h7 := ch_70 hn (k := k) (by omega)
  rw [red_ok _ _ (by omega) (by rw [Int.natAbs_natCast]; exact Nat.lt_of_le_of_lt h7 (by decide +kernel)), dv_nat, rat]
theorem l_red_rat {n i k : Nat} (hn : n ≤ 8) (hi : i ≤ n) (hk : k ≤ i) : F__law_fraction [.int (ch i k : Int), .int (ch n k : Int)] = .ok (qD (rat n i k)) := by
  have hp := ch_pos (n := n) (by omega) (k := k) (by omega)
  have h7 := ch_70 hn (k := k) (by omega)
  have h8 := ch_70 (n := i) (by omega) (k := k) (by omega)
  rw [l_red_ok _ _ (by omega) (by rw [Int.natAbs_natCast]; exact Nat.lt_of_le_of_lt h8 (by decide +kernel)) (by rw [Int.natAbs_natCast]; exact Nat.lt_of_le_of_lt h7 (by decide +kernel)), dv_nat, rat]
theorem In.su {n m : Nat} {f : Nat → Rat} (h0 : 0 < n) : ∀ {k : Nat}, (∀ i, i < k → In n m (f i)) → In n (k * m) (BP.su f k)
  | 0, _ => by simpa [BP.su] using In_zero n 0 h0
  | k + 1, h => by
    rw [BP.su, Nat.add_mul, Nat.one_mul]
    exact (In.su h0 fun i hi => h i (by omega)).add (h k (by omega)) h0
theorem crn_eq (c : Nat → Rat) (n i : Nat) : crn c n i = su (fun k => c k * rat n i k) (i + 1) := rfl
/-- one corner, and all sums on the way -/
theorem crn_in {U : List Rat} {N M : Nat} (h0 : 0 < N) (hU : Inp N M U) {n i : Nat} (hn : n ≤ 8) (hi : i ≤ n) {j : Nat} (hj : j ≤ i + 1) : In (N * 840) (j * M) (su (fun k => co U k * rat n i k) j) := by
  refine In.su (Nat.mul_pos h0 (by decide)) fun k hk => ?_
  have := (hU.co h0 k).mul (rat_in hn hi (k := k) (by omega)) h0 (by decide)
  rwa [Nat.mul_one] at this
def corn (U : List Rat) (n : Nat) : List Rat := tab (crn (co U) n) (n + 1)
theorem fit_rat {n i k : Nat} (hn : n ≤ 8) (hi : i ≤ n) (hk : k ≤ i) : Fit (rat n i k) := (rat_in hn hi hk).fit (by decide) ⟨by decide +kernel, by decide +kernel⟩
theorem co_take (p : List Rat) (n k : Nat) (h : k < n) : co (p.take n) k = co p k := by
  simp only [co, List.getD_eq_getElem?_getD, List.getElem?_take, h, if_true]
theorem co_big {p : List Rat} {k : Nat} (h : p.length ≤ k) : co p k = 0 := by
  simp only [co, List.getD_eq_getElem?_getD, List.getElem?_eq_none h, Option.getD_none]
theorem cast1 (i : Nat) : ((i : Int) + 1) = ((i + 1 : Nat) : Int) := rfl
/-- the loops of the corners: of told numbers U -/
theorem corners_loop (x0 x1 x2 : EV) (U : List Rat) (N M : Nat) (h0 : 0 < N) (hU : Inp N M U) (n : Nat) (hn : n ≤ 8) (hc : Cap (N * 840) (10 * M)) (hc2 : Cap N M) :
    ∃ env2, forL (.nm 6) b_corners_of_2 (rangeL 0 ((n + 1 : Nat) : Int)) [x0, x1, x2, .im (.int (n : Int)), .im (pD U), .ow [], .no, .no, .no, .no] [] = .ok (.nx env2 []) ∧ ∃ a b c d, env2 = [x0, x1, x2, .im (.int (n : Int)), .im (pD U), .ow (pL (corn U n)), a, b, c, d] := by
  have hN := Nat.mul_pos h0 (show 0 < 840 by decide)
  let I : Nat → Env → Prop := fun i env => ∃ a b c d, env = [x0, x1, x2, .im (.int (n : Int)), .im (pD U), .ow (pL (tab (crn (co U) n) i)), a, b, c, d] ∧ isPt a = false ∧ isPt b = false ∧ isPt c = false ∧ isPt d = false
  obtain ⟨env2, e, a, b, c, d, rfl, _⟩ := forL_inv (p := .nm 6) (b := b_corners_of_2) (st := []) (ds := rangeL 0 ((n + 1 : Nat) : Int)) I (fun i d1 hd1 env hI => by
    obtain ⟨a, b, c, d, rfl, ha, hb, hcc, hd⟩ := hI
    obtain ⟨hi, rfl⟩ := range_get hd1
    have hi' : i ≤ n := by omega
    let J : Nat → Env → Prop := fun j env => ∃ c d, env = [x0, x1, x2, .im (.int (n : Int)), .im (pD U), .ow (pL (tab (crn (co U) n) i)), .im (.int (i : Int)), .im (qD (su (fun k => co U k * rat n i k) j)), c, d] ∧ isPt c = false ∧ isPt d = false
    obtain ⟨env2, e, c2, d2, rfl, hc2', hd2'⟩ := forL_inv (p := .tp [.nm 8, .nm 9]) (b := b_corners_of_1) (st := []) (ds := enumL (pL (U.take (i + 1)))) J (fun j d1 hd1 env hJ => by
      obtain ⟨c, d, rfl, hc3, hd3⟩ := hJ
      obtain ⟨hj, rfl⟩ := enum_get hd1
      simp at hj
      have hj1 : j < i + 1 := by omega
      rw [co_take _ _ _ hj1]
      have p1 := picks_ok (n := i) (k := j) (by omega) (by omega)
      have p2 := picks_ok (n := n) (k := j) (by omega) (by omega)
      have r1 := red_rat hn hi' (k := j) (by omega)
      have f1 := (hU.co h0 j).fit h0 hc2
      have f2 := fit_rat hn hi' (k := j) (by omega)
      have m1 : F_multiply [qD (co U j), qD (rat n i j)] = .ok (qD (co U j * rat n i j)) := mul_op _ _ f1 f2
      have s1 := (crn_in h0 hU hn hi' (j := j) (by omega)).fit hN (hc.mono (Nat.mul_le_mul_right _ (by omega)))
      have m2 := (hU.co h0 j).mul (rat_in hn hi' (k := j) (by omega)) h0 (by decide)
      have m3 := m2.fit hN (hc.mono (by omega))
      have a1 : F_add [qD (su (fun k => co U k * rat n i k) j), qD (co U j * rat n i j)] = .ok (qD (su (fun k => co U k * rat n i k) (j + 1))) := add_op _ _ s1 m3
      exact ⟨_, by simp [hc3, hd3]; rfl, [x0, x1, x2, .im (.int (n : Int)), .im (pD U), .ow (pL (tab (crn (co U) n) i)), .im (.int (i : Int)), .im (qD (su (fun k => co U k * rat n i k) (j + 1))), .im (.int (j : Int)), .im (qD (co U j))], by simp [b_corners_of_1, p1, p2, r1, m1, a1], _, _, rfl, rfl, rfl⟩) (env := [x0, x1, x2, .im (.int (n : Int)), .im (pD U), .ow (pL (tab (crn (co U) n) i)), .im (.int (i : Int)), .im (qD 0), c, d]) ⟨_, _, rfl, hcc, hd⟩
    rw [enum_len] at e
    have es : su (fun k => co U k * rat n i k) (U.take (i + 1)).length = crn (co U) n i := by
      rw [crn_eq, List.length_take]
      by_cases h : i + 1 ≤ U.length
      · rw [Nat.min_eq_left h]
      · rw [Nat.min_eq_right (by omega)]
        obtain ⟨k, hk⟩ : ∃ k, i + 1 = U.length + k := ⟨i + 1 - U.length, by omega⟩
        rw [hk]
        refine (su_more (fun k hk => ?_) k).symm
        rw [co_big hk]
        grind
    rw [es] at e
    have l1 : i < 1000000 := by omega
    have ct : cutD (pL U) none (some ((i : Int) + 1)) = pL (U.take (i + 1)) := by
      rw [cast1, cut_to]
      simp [pL]
    refine ⟨_, by simp [ha]; rfl, [x0, x1, x2, .im (.int (n : Int)), .im (pD U), .ow (pL (tab (crn (co U) n) (i + 1))), .im (.int (i : Int)), .im (qD (crn (co U) n i)), c2, d2], ?_, _, _, _, _, rfl, rfl, rfl, hc2', hd2'⟩
    unfold pD at e ⊢
    rw [tab_succ, pL_app]
    simp [b_corners_of_2, hb, q0, sFor, ct, e, l1]) (env := [x0, x1, x2, .im (.int (n : Int)), .im (pD U), .ow [], .no, .no, .no, .no]) ⟨_, _, _, _, rfl, rfl, rfl, rfl, rfl⟩
  rw [range_len] at e
  exact ⟨_, e, _, _, _, _, rfl⟩
/-- the poly moved to low and stretched -/
structure Unit' (p : List Rat) (low wide : Rat) (U : List Rat) : Prop where
  told : strip U = U
  len : U.length ≤ p.length
  ev : ∀ t : Rat, BP.ev U t = BP.ev p (low + wide * t)
theorem Unit'.uniq {p : List Rat} {low wide : Rat} {U V : List Rat} (h : Unit' p low wide U) (k : Unit' p low wide V) : U = V := told_ext h.told k.told fun x => by rw [h.ev, k.ev]
theorem corners_of_ok (d : D) (p : List Rat) (low high : Rat) (n m ns ms nw mw L size : Nat) (hd : Row d p) (hl : p.length ≤ L) (hL : L < 30) (h0 : 0 < n) (hm0 : 1 ≤ m) (h1 : 0 < ns) (hm : 1 ≤ ms) (hw0 : 0 < nw) (hw1 : 1 ≤ mw) (hp : Inp n m p) (hs : In ns ms low) (fh : Fit high) (hw : In nw mw (high - low)) (hsz : size ≤ 8)
    (hc : Cap (n * ns ^ (L + 1)) (m * ((2 * L + 1) * ms + 1) ^ (L + 1))) (hcs : Cap ns ms) (hcw : Cap nw mw)
    (hc2 : Cap (n * ns ^ L * nw ^ L * 840) (10 * (m * ((2 * L + 1) * ms + 1) ^ L * mw ^ L))) :
    ∃ U, Unit' p low (high - low) U ∧ F_corners_of [d, qD low, qD high, .int (size : Int)] = .ok (pL (corn U size)) ∧ Inp (n * ns ^ L * nw ^ L) (m * ((2 * L + 1) * ms + 1) ^ L * mw ^ L) U := by
  obtain ⟨r, e1, hr, he⟩ := moved_of_ok d p low n m ns ms L hd hl (by omega) h0 h1 hm hp hs hc hcs
  have hX : 0 < ((2 * L + 1) * ms + 1) ^ L := Nat.pow_pos (Nat.succ_pos _)
  have hnn := Nat.mul_pos h0 (Nat.pow_pos (n := L) h1)
  have hmm : 1 ≤ m * ((2 * L + 1) * ms + 1) ^ L := Nat.mul_pos hm0 hX
  have c1 : Cap (n * ns ^ L * nw ^ L) (m * ((2 * L + 1) * ms + 1) ^ L * mw ^ L) := hc2.le (Nat.le_mul_of_pos_right _ (by decide)) (Nat.le_mul_of_pos_left _ (by decide))
  obtain ⟨U, e2, hU, he2⟩ := stretched_of_ok (pD r) r (high - low) (n * ns ^ L) (m * ((2 * L + 1) * ms + 1) ^ L) nw mw L (Row.l _) (Nat.le_trans hr.len hl) (by omega) hnn hw0 hw1 hmm hr.inp hw c1 hcw
  have t1 : F_take [qD high, qD low] = .ok (qD (high - low)) := take_op _ _ fh (hs.fit h1 hcs)
  have T := told_ok (pD U) U (Row.l _) (by have := hU.len; have := hr.len; omega)
  rw [hU.told] at T
  obtain ⟨env2, e3, a, b, c, d', rfl⟩ := corners_loop (.im d) (.im (qD low)) (.im (qD high)) U _ _ (Nat.mul_pos hnn (Nat.pow_pos hw0)) hU.inp size hsz hc2 c1
  refine ⟨U, ⟨hU.told, Nat.le_trans hU.len hr.len, fun t => by rw [he2, he]; congr 1; grind⟩, ?_, hU.inp⟩
  rw [← cast1] at e3
  have R := iR1N (m := mBin oAdd (mVar 3) (mC (.int 1))) (env := [.im d, .im (qD low), .im (qD high), .im (.int (size : Int)), .im (pD U), .ow [], .no, .no, .no, .no]) (st := []) (st' := []) (k := size + 1) rfl (by omega)
  have k1 : (sPar2 4 5 false true (mCall F_told_of (aCons (mCall F_stretched_of (aCons (mCall F_moved_of (aCons (mVar 0) (aCons (mVar 1) aNil))) (aCons (mCall F_take (aCons (mVar 2) (aCons (mVar 1) aNil))) aNil))) aNil)) (mLst aNil)) [.im d, .im (qD low), .im (qD high), .im (.int (size : Int)), .no, .no, .no, .no, .no, .no] [] = .ok (.nx [.im d, .im (qD low), .im (qD high), .im (.int (size : Int)), .im (pD U), .ow [], .no, .no, .no, .no] []) := by
    simp [e1, t1, e2, T]
  have k2 : (sFor (iRange1 (mBin oAdd (mVar 3) (mC (.int 1)))) (.nm 6) b_corners_of_2) [.im d, .im (qD low), .im (qD high), .im (.int (size : Int)), .im (pD U), .ow [], .no, .no, .no, .no] [] = .ok (.nx [.im d, .im (qD low), .im (qD high), .im (.int (size : Int)), .im (pD U), .ow (pL (corn U size)), a, b, c, d'] []) := by
    unfold sFor
    rw [R]
    exact e3
  have k : m_corners_of [.im d, .im (qD low), .im (qD high), .im (.int (size : Int)), .no, .no, .no, .no, .no, .no] [] = .ok (.ro (pL (corn U size)) []) := by
    unfold m_corners_of
    rw [seq_nx k1, seq_nx k2]
    rfl
  exact runPo_ro rfl k
end BP

namespace BP
theorem tab_take {f : Nat → Rat} {n i : Nat} {d : D} (h : (pL (tab f n))[i]? = some d) : i < n ∧ d = qD (f i) := by
  obtain ⟨h1, h2⟩ := pL_get h
  simp at h1
  rw [co_tab, if_pos h1] at h2
  exact ⟨h1, h2⟩
theorem l_total_ok (f : Nat → Rat) (k n m : Nat) (h0 : 0 < n) (hf : ∀ i, i < k → In n m (f i)) (hc : Cap n ((k + 1) * m)) : F__law_total [.list (pL (tab f k))] = .ok (qD (su f k)) := by
  let I : Nat → Env → Prop := fun i env => ∃ w, env = [.im (.list (pL (tab f k))), .im (qD (su f i)), w] ∧ isPt w = false
  obtain ⟨env2, e, w, rfl, _⟩ := forL_inv (p := .nm 2) (b := b__law_total_1) (st := []) (ds := pL (tab f k)) I (fun i d1 hd1 env hI => by
    obtain ⟨w, rfl, hw⟩ := hI
    obtain ⟨hi, rfl⟩ := tab_take hd1
    have f1 := (In.su h0 (k := i) fun j hj => hf j (by omega)).fit h0 (hc.mono (Nat.mul_le_mul_right _ (by omega)))
    have f2 := (hf i hi).fit h0 (hc.mono (by rw [Nat.add_mul]; omega))
    have a1 : F__law_plus [qD (su f i), qD (f i)] = .ok (qD (su f (i + 1))) := l_plus_op _ _ f1 f2
    exact ⟨_, by simp [hw]; rfl, _, by simp [b__law_total_1, a1]; rfl, _, rfl, rfl⟩) (env := [.im (.list (pL (tab f k))), .im (qD 0), .no]) ⟨_, rfl, rfl⟩
  simp only [pL_len, tab_len] at e
  have k2 : (sFor (iSeq (mVar 0)) (.nm 2) b__law_total_1) [.im (.list (pL (tab f k))), .im (qD 0), .no] [] = .ok (.nx [.im (.list (pL (tab f k))), .im (qD (su f k)), w] []) := by
    simp [sFor, e]
  have k1 : (sSet 1 (mTup (aCons (mC (.int 0)) (aCons (mC (.int 1)) aNil)))) [.im (.list (pL (tab f k))), .no, .no] [] = .ok (.nx [.im (.list (pL (tab f k))), .im (qD 0), .no] []) := by
    simp [q0]
  refine runP_rt (st := []) rfl ?_
  show m__law_total [.im (.list (pL (tab f k))), .no, .no] [] = _
  unfold m__law_total
  rw [seq_nx k1, seq_nx k2]
  rfl
theorem l_corners_ok (p : List Rat) (low high : Rat) (n m ns ms L size : Nat) (hl : p.length ≤ L) (hL : L < 30) (h0 : 0 < n) (hm0 : 1 ≤ m) (h1 : 0 < ns) (hm : 1 ≤ ms) (hp : Inp n m p) (hs : In ns ms low) (fh : Fit high) (hw : In ns ms (high - low)) (hsz : size ≤ 8) (hsp : p.length ≤ size + 1)
    (hc : Cap (n * ns ^ (L + 1) * 840) (10 * ((L + 1) * (m * ((2 * (L + 1) + 1) * ms) ^ (L + 1))))) :
    ∃ U, Unit' p low (high - low) U ∧ F__law_corners [pD p, .tuple [qD low, qD high], .int (size : Int)] = .ok (pD (corn U size)) := by
  obtain ⟨Y, hY⟩ : ∃ Y, Y = (2 * (L + 1) + 1) * ms := ⟨_, rfl⟩
  rw [← hY] at hc
  have Y1 : 1 ≤ Y := by
    rw [hY]
    exact Nat.mul_pos (by omega) hm
  have nsp : ∀ k, 0 < ns ^ k := fun k => Nat.pow_pos h1
  have Yp : ∀ k, 0 < Y ^ k := fun k => Nat.pow_pos Y1
  have hN := Nat.mul_pos h0 (nsp (L + 1))
  have hc0 : Cap (n * ns ^ (L + 1)) ((L + 1) * (m * Y ^ (L + 1))) := hc.le (Nat.le_mul_of_pos_right _ (by decide)) (Nat.le_mul_of_pos_left _ (by decide))
  have cp : ∀ i, i ≤ L + 1 → Cap (ns ^ i) (Y ^ i) := fun i hi => hc0.le (Nat.le_trans (Nat.pow_le_pow_right h1 hi) (Nat.le_mul_of_pos_left _ h0)) (Nat.le_trans (Nat.pow_le_pow_right Y1 hi) (Nat.le_trans (Nat.le_mul_of_pos_left _ hm0) (Nat.le_mul_of_pos_left _ (by omega))))
  have cm : Cap n m := hc0.le (Nat.le_mul_of_pos_right _ (nsp _)) (Nat.le_trans (Nat.le_mul_of_pos_right _ (Yp _)) (Nat.le_mul_of_pos_left _ (by omega)))
  have cs : Cap ns ms := by
    have := cp 1 (by omega)
    rw [Nat.pow_one, Nat.pow_one] at this
    exact this.le (Nat.le_refl _) (by rw [hY]; exact Nat.le_mul_of_pos_left _ (by omega))
  have fp := hp.fits h0 cm
  have t1 : F__law_less [qD high, qD low] = .ok (qD (high - low)) := l_less_op _ _ fh (hs.fit h1 cs)
  -- the poly led along
  let I : Nat → Env → Prop := fun i env => ∃ P V w, env = [.im (pD p), .im (.tuple [qD low, qD high]), .im (.int (size : Int)), .im (qD low), .im (qD high), .im (qD (high - low)), .im (pD P), .im (pD V), w, .no, .no, .no] ∧ isPt w = false ∧ Pol (ns ^ i) (Y ^ i) (i + 1) P ∧ (∀ t : Rat, ev P t = (low + (high - low) * t) ^ i) ∧ Pol (n * ns ^ (L + 1)) (i * (m * Y ^ (L + 1))) i V ∧ (∀ t : Rat, ev V t = ev (p.take i) (low + (high - low) * t))
  obtain ⟨env2, e1, P, U, w, rfl, hw1, _, _, hU, hUe⟩ := forL_inv (p := .nm 8) (b := b__law_corners_1) (st := []) (ds := pL p) I (fun i d1 hd1 env hI => by
    obtain ⟨P, V, w, rfl, hw2, hP, hPe, hV, hVe⟩ := hI
    obtain ⟨hi, rfl⟩ := pL_get hd1
    have ha := hp _ (co_mem hi)
    obtain ⟨a, hA⟩ : ∃ a, a = co p i := ⟨_, rfl⟩
    rw [← hA] at ha ⊢
    have fa := ha.fit h0 cm
    have S := l_scale_ok (pD P) P a (Row.l _) (by have := hP.len; omega) (hP.inp.fits (nsp i) (cp i (by omega))) fa
    have iS := Inp.pmulc hP.inp ha (nsp i) h0
    have iS2 : Inp (n * ns ^ (L + 1)) (m * Y ^ (L + 1)) (strip (pmulc a P)) := by
      refine Inp.dvd (Inp.mono iS.strip ?_) hN ?_
      · rw [Nat.mul_comm]
        exact Nat.mul_le_mul_left _ (Nat.pow_le_pow_right Y1 (by omega))
      · rw [Nat.mul_comm]
        exact Nat.mul_dvd_mul_left _ (Nat.pow_dvd_pow _ (by omega))
    have iA := Inp.padd hN hV.inp iS2
    have b1 : i * (m * Y ^ (L + 1)) ≤ (L + 1) * (m * Y ^ (L + 1)) := Nat.mul_le_mul_right _ (by omega)
    have b2 : m * Y ^ (L + 1) ≤ (L + 1) * (m * Y ^ (L + 1)) := Nat.le_mul_of_pos_left _ (by omega)
    have lS : (strip (pmulc a P)).length ≤ i + 1 := Nat.le_trans (strip_le _) (by have := hP.len; simp [pmulc]; omega)
    have A := l_add_ok (pD V) (pD (strip (pmulc a P))) V _ (Row.l _) (Row.l _) (by have := hV.len; omega) (by omega) (hV.inp.fits hN (hc0.mono b1)) (iS2.fits hN (hc0.mono b2))
    obtain ⟨M1, M2⟩ := step_mul l_mul_ok (nsp i) h1 hP hs hw (by omega) ((cp (i + 1) (by omega)).le (by rw [Nat.pow_succ]; exact Nat.le_refl _) (by rw [Nat.pow_succ, hY]; exact Nat.mul_le_mul_left _ (Nat.mul_le_mul_right _ (by omega)))) (cp i (by omega)) cs
    refine ⟨_, by simp [hw2]; rfl, [.im (pD p), .im (.tuple [qD low, qD high]), .im (.int (size : Int)), .im (qD low), .im (qD high), .im (qD (high - low)), .im (pD (strip (pmul P [low, high - low]))), .im (pD (strip (padd V (strip (pmulc a P))))), .im (qD a), .no, .no, .no], ?_, _, _, _, rfl, rfl, ⟨strip_strip _, ?_, M2.len⟩, fun t => ?_, ⟨strip_strip _, ?_, ?_⟩, fun t => ?_⟩
    · simp [b__law_corners_1, S, A, M1]
    · rw [Nat.pow_succ, Nat.pow_succ]
      exact M2.inp.mono (Nat.mul_le_mul_left _ (by rw [hY]; exact Nat.mul_le_mul_right _ (by omega)))
    · rw [ev_strip, ev_pmul, hPe, Rat.pow_succ]
      simp
      grind
    · exact (iA.mono (by rw [Nat.add_mul]; omega)).strip
    · refine Nat.le_trans (strip_le _) ?_
      rw [padd_len]
      have := hV.len
      omega
    · rw [ev_strip, ev_padd, ev_strip, ev_pmulc, hVe, hPe, take_co p i hi, ev_append, ← hA]
      have : min i p.length = i := by omega
      simp [this]
      grind) (env := [.im (pD p), .im (.tuple [qD low, qD high]), .im (.int (size : Int)), .im (qD low), .im (qD high), .im (qD (high - low)), .im (pD [1]), .im (pD []), .no, .no, .no, .no]) ⟨[1], [], .no, rfl, rfl, ⟨by simp [strip], Inp1 (In_one 1 1 (by omega) (by omega)), by simp⟩, fun t => by simp; grind, ⟨rfl, fun a ha => by simp at ha, by simp⟩, fun t => by simp⟩
  simp only [pL_len, List.take_length] at e1 hU hUe
  have hlU : U.length ≤ size + 1 := by have := hU.len; omega
  refine ⟨U, ⟨hU.told, hU.len, hUe⟩, ?_⟩
  -- noughts behind
  obtain ⟨W, hWe⟩ : ∃ W, W = U ++ List.replicate (size + 1 - U.length) (0 : Rat) := ⟨_, rfl⟩
  have lW : W.length = size + 1 := by rw [hWe]; simp; omega
  have cW : ∀ k, co W k = co U k := fun k => by
    rw [hWe]
    by_cases h : k < U.length
    · simp only [co, List.getD_eq_getElem?_getD]
      rw [List.getElem?_append_left h]
    · rw [co_big (p := U) (by omega)]
      simp only [co, List.getD_eq_getElem?_getD]
      rw [List.getElem?_append_right (by omega)]
      by_cases h2 : k - U.length < size + 1 - U.length
      · simp [h2]
      · simp [h2]
  have pad : oMul (.list [qD 0]) (.int ((size : Int) + 1 - (U.length : Int))) = .ok (.ow (pL (List.replicate (size + 1 - U.length) 0))) := by
    have e : ((size : Int) + 1 - (U.length : Int)).toNat = size + 1 - U.length := by omega
    rw [oMul_l, e, if_pos (by simp; omega), flat_rep, pL_rep]
  have pad2 : oAdd (.list (pL U)) (.list (pL (List.replicate (size + 1 - U.length) 0))) = .ok (.ow (pL W)) := by
    rw [oAdd_l, if_pos (by simp; omega), hWe, pL_app]
  have hUN : Inp (n * ns ^ (L + 1)) ((L + 1) * (m * Y ^ (L + 1))) U := hU.inp.mono (Nat.mul_le_mul_right _ (by omega))
  have hN2 := Nat.mul_pos hN (show 0 < 840 by decide)
  -- the corners
  let J : Nat → Env → Prop := fun i env => ∃ a, env = [.im (pD p), .im (.tuple [qD low, qD high]), .im (.int (size : Int)), .im (qD low), .im (qD high), .im (qD (high - low)), .im (pD P), .im (pD W), w, .ow (pL (tab (crn (co U) size) i)), a, .no] ∧ isPt a = false
  obtain ⟨env3, e2, a, rfl, _⟩ := forL_inv (p := .nm 10) (b := b__law_corners_2) (st := []) (ds := rangeL 0 ((size + 1 : Nat) : Int)) J (fun i d1 hd1 env hJ => by
    obtain ⟨a, rfl, ha⟩ := hJ
    obtain ⟨hi, rfl⟩ := range_get hd1
    have R := fun env : Env => iR1N (m := mBin oAdd (mVar 10) (mC (.int 1))) (env := [.im (pD p), .im (.tuple [qD low, qD high]), .im (.int (size : Int)), .im (qD low), .im (qD high), .im (qD (high - low)), .im (pD P), .im (pD W), w, .ow (pL (tab (crn (co U) size) i)), .im (.int (i : Int)), .no]) (st := []) (st' := []) (k := i + 1) rfl (by omega)
    have LC := lcL_ix (p := .nm 11) (e := mCall F__law_times (aCons (mBin oIx (mVar 7) (mVar 11)) (aCons (mCall F__law_fraction (aCons (mCall F__law_choose (aCons (mVar 10) (aCons (mVar 11) aNil))) (aCons (mCall F__law_choose (aCons (mVar 2) (aCons (mVar 11) aNil))) aNil))) aNil))) (env := [.im (pD p), .im (.tuple [qD low, qD high]), .im (.int (size : Int)), .im (qD low), .im (qD high), .im (qD (high - low)), .im (pD P), .im (pD W), w, .ow (pL (tab (crn (co U) size) i)), .im (.int (i : Int)), .no]) (st := []) (ds := rangeL 0 ((i + 1 : Nat) : Int)) (es := pL (tab (fun k => co U k * rat size i k) (i + 1))) (by rw [range_len]; simp) fun k d x hd hx => by
      obtain ⟨hk, rfl⟩ := range_get hd
      obtain ⟨_, rfl⟩ := tab_take hx
      have c1 := co_at W k (by omega)
      rw [cW] at c1
      have p1 := choose_ok (n := i) (k := k) (by omega) (by omega)
      have p2 := choose_ok (n := size) (k := k) (by omega) (by omega)
      have r1 := l_red_rat hsz (i := i) (by omega) (k := k) (by omega)
      have m1 : F__law_times [qD (co U k), qD (rat size i k)] = .ok (qD (co U k * rat size i k)) := l_times_op _ _ ((hUN.co hN k).fit hN hc0) (fit_rat hsz (by omega) (by omega))
      exact ⟨[.im (pD p), .im (.tuple [qD low, qD high]), .im (.int (size : Int)), .im (qD low), .im (qD high), .im (qD (high - low)), .im (pD P), .im (pD W), w, .ow (pL (tab (crn (co U) size) i)), .im (.int (i : Int)), .im (.int (k : Int))], by simp, by simp [pD, c1, p1, p2, r1, m1]⟩
    have T := l_total_ok (fun k => co U k * rat size i k) (i + 1) (n * ns ^ (L + 1) * 840) ((L + 1) * (m * Y ^ (L + 1))) hN2 (fun k hk => by
      have := (hUN.co hN k).mul (rat_in hsz (i := i) (by omega) (k := k) (by omega)) hN (by decide)
      rwa [Nat.mul_one] at this) (hc.mono (Nat.mul_le_mul_right _ (by omega)))
    rw [← crn_eq] at T
    have l1 : i < 1000000 := by omega
    have l2 : (rangeL 0 ((i + 1 : Nat) : Int)).length ≤ LIM := by
      rw [range_len]
      simp
      omega
    have ML : mLc (iRange1 (mBin oAdd (mVar 10) (mC (.int 1)))) (.nm 11) [11] (mC (.bool true)) (mCall F__law_times (aCons (mBin oIx (mVar 7) (mVar 11)) (aCons (mCall F__law_fraction (aCons (mCall F__law_choose (aCons (mVar 10) (aCons (mVar 11) aNil))) (aCons (mCall F__law_choose (aCons (mVar 2) (aCons (mVar 11) aNil))) aNil))) aNil))) [.im (pD p), .im (.tuple [qD low, qD high]), .im (.int (size : Int)), .im (qD low), .im (qD high), .im (qD (high - low)), .im (pD P), .im (pD W), w, .ow (pL (tab (crn (co U) size) i)), .im (.int (i : Int)), .no] [] = .ok (.ow (pL (tab (fun k => co U k * rat size i k) (i + 1))), []) := by
      unfold mLc
      rw [R []]
      show (if _ then _ else _) = _
      rw [if_pos ⟨l2, rfl⟩]
      show (lcL _ _ _ [.im (pD p), .im (.tuple [qD low, qD high]), .im (.int (size : Int)), .im (qD low), .im (qD high), .im (qD (high - low)), .im (pD P), .im (pD W), w, .ow (pL (tab (crn (co U) size) i)), .im (.int (i : Int)), .no] _ _).bind _ = _
      rw [LC]
      rfl
    refine ⟨[.im (pD p), .im (.tuple [qD low, qD high]), .im (.int (size : Int)), .im (qD low), .im (qD high), .im (qD (high - low)), .im (pD P), .im (pD W), w, .ow (pL (tab (crn (co U) size) i)), .im (.int (i : Int)), .no], by simp [ha], [.im (pD p), .im (.tuple [qD low, qD high]), .im (.int (size : Int)), .im (qD low), .im (qD high), .im (qD (high - low)), .im (pD P), .im (pD W), w, .ow (pL (tab (crn (co U) size) (i + 1))), .im (.int (i : Int)), .no], ?_, _, rfl, rfl⟩
    rw [tab_succ, pL_app]
    simp [b__law_corners_2, ML, T, l1]) (env := [.im (pD p), .im (.tuple [qD low, qD high]), .im (.int (size : Int)), .im (qD low), .im (qD high), .im (qD (high - low)), .im (pD P), .im (pD W), w, .ow [], .no, .no]) ⟨.no, rfl, rfl⟩
  rw [range_len] at e2
  have R := iR1N (m := mBin oAdd (mVar 2) (mC (.int 1))) (env := [.im (pD p), .im (.tuple [qD low, qD high]), .im (.int (size : Int)), .im (qD low), .im (qD high), .im (qD (high - low)), .im (pD P), .im (pD W), w, .ow [], .no, .no]) (st := []) (st' := []) (k := size + 1) rfl (by omega)
  have k8 : (sPat (.tp [(.nm 3), (.nm 4)]) (mVar 1)) [.im (pD p), .im (.tuple [qD low, qD high]), .im (.int (size : Int)), .no, .no, .no, .no, .no, .no, .no, .no, .no] [] = .ok (.nx [.im (pD p), .im (.tuple [qD low, qD high]), .im (.int (size : Int)), .im (qD low), .im (qD high), .no, .no, .no, .no, .no, .no, .no] []) := by simp
  have k7 : (sPat (.tp [(.nm 5), (.nm 6), (.nm 7)]) (mTup (aCons (mCall F__law_less (aCons (mVar 4) (aCons (mVar 3) aNil))) (aCons (mLst (aCons (mTup (aCons (mC (.int 1)) (aCons (mC (.int 1)) aNil))) aNil)) (aCons (mLst aNil) aNil))))) [.im (pD p), .im (.tuple [qD low, qD high]), .im (.int (size : Int)), .im (qD low), .im (qD high), .no, .no, .no, .no, .no, .no, .no] [] = .ok (.nx [.im (pD p), .im (.tuple [qD low, qD high]), .im (.int (size : Int)), .im (qD low), .im (qD high), .im (qD (high - low)), .im (pD [1]), .im (pD []), .no, .no, .no, .no] []) := by simp [t1, pD, q1]
  have k6 : (sFor (iSeq (mVar 0)) (.nm 8) b__law_corners_1) [.im (pD p), .im (.tuple [qD low, qD high]), .im (.int (size : Int)), .im (qD low), .im (qD high), .im (qD (high - low)), .im (pD [1]), .im (pD []), .no, .no, .no, .no] [] = .ok (.nx [.im (pD p), .im (.tuple [qD low, qD high]), .im (.int (size : Int)), .im (qD low), .im (qD high), .im (qD (high - low)), .im (pD P), .im (pD U), w, .no, .no, .no] []) := by
    unfold pD at e1 ⊢
    simp only [pL_cons, pL_nil] at e1
    simp [sFor, e1]
  have k5 : (sSet 7 (mBin oAdd (mVar 7) (mBin oMul (mLst (aCons (mTup (aCons (mC (.int 0)) (aCons (mC (.int 1)) aNil))) aNil)) (mBin oSub (mBin oAdd (mVar 2) (mC (.int 1))) (mB bLen (vCons (mVar 7) vNil)))))) [.im (pD p), .im (.tuple [qD low, qD high]), .im (.int (size : Int)), .im (qD low), .im (qD high), .im (qD (high - low)), .im (pD P), .im (pD U), w, .no, .no, .no] [] = .ok (.nx [.im (pD p), .im (.tuple [qD low, qD high]), .im (.int (size : Int)), .im (qD low), .im (qD high), .im (qD (high - low)), .im (pD P), .im (pD W), w, .no, .no, .no] []) := by
    simp [pD, q0, -oMul_l, -oAdd_l, pad, pad2]
  have k4 : (sFor (iRange1 (mBin oAdd (mVar 2) (mC (.int 1)))) (.nm 10) b__law_corners_2) [.im (pD p), .im (.tuple [qD low, qD high]), .im (.int (size : Int)), .im (qD low), .im (qD high), .im (qD (high - low)), .im (pD P), .im (pD W), w, .ow [], .no, .no] [] = .ok (.nx [.im (pD p), .im (.tuple [qD low, qD high]), .im (.int (size : Int)), .im (qD low), .im (qD high), .im (qD (high - low)), .im (pD P), .im (pD W), w, .ow (pL (tab (crn (co U) size) (size + 1))), a, .no] []) := by
    unfold sFor
    rw [R]
    exact e2
  have k45 : (sOwn 9 (mLst aNil)) [.im (pD p), .im (.tuple [qD low, qD high]), .im (.int (size : Int)), .im (qD low), .im (qD high), .im (qD (high - low)), .im (pD P), .im (pD W), w, .no, .no, .no] [] = .ok (.nx [.im (pD p), .im (.tuple [qD low, qD high]), .im (.int (size : Int)), .im (qD low), .im (qD high), .im (qD (high - low)), .im (pD P), .im (pD W), w, .ow [], .no, .no] []) := by simp
  refine runP_rt (st := []) rfl ?_
  show m__law_corners [.im (pD p), .im (.tuple [qD low, qD high]), .im (.int (size : Int)), .no, .no, .no, .no, .no, .no, .no, .no, .no] [] = _
  unfold m__law_corners
  rw [seq_nx k8]
  unfold k__law_corners_8
  rw [seq_nx k7]
  unfold k__law_corners_7
  rw [seq_nx k6]
  unfold k__law_corners_6
  rw [seq_nx k5]
  unfold k__law_corners_5
  rw [seq_nx k45]
  unfold k__law_corners_4
  rw [seq_nx k4]
  rfl
end BP

namespace BP
/-! ### the poly of a row -/
theorem par_ok {d : Nat} (h : d ≤ 8) : PySem.Builtin.divisionGoesByPylong (d : Int) 2 = false ∧ mulOk ((d : Int).fdiv 2) 2 = true ∧ ((d : Int).fdiv 2 * 2 == (d : Int)) = (d % 2 == 0) := by
  have : ∀ d : Nat, d < 9 → PySem.Builtin.divisionGoesByPylong (d : Int) 2 = false ∧ mulOk ((d : Int).fdiv 2) 2 = true ∧ ((d : Int).fdiv 2 * 2 == (d : Int)) = (d % 2 == 0) := by decide +kernel
  exact this d (by omega)
theorem In.ch {n m : Nat} {q : Rat} (h0 : 0 < n) (h : In n m q) {a b : Nat} (ha : a ≤ 8) (hb : b ≤ a) : In n (m * 70) (q * (BP.ch a b : Rat)) := by
  have := h.mul (In_int 1 (BP.ch a b : Int) 70 (by decide) (by rw [Int.natAbs_natCast]; exact ch_70 ha hb)) h0 (by decide)
  rw [Nat.mul_one] at this
  exact this
theorem sgn_in {n m : Nat} {q : Rat} (h0 : 0 < n) (h : In n m q) (c : Prop) [Decidable c] : In n m ((if c then 1 else -1) * q) := by
  split
  · rw [Rat.one_mul]
    exact h
  · have : (-1 : Rat) * q = -q := by grind
    rw [this]
    exact h.neg h0
theorem uni_part {n m : Nat} {r : List Rat} (h0 : 0 < n) (hr : Inp n m r) {p : Nat} (hp : p ≤ 8) {k : Nat} (hk : k ≤ p + 1) : In n (k * (m * 70)) (su (fun i => (if (p - i) % 2 = 0 then 1 else -1) * (co r i * (ch p i : Rat))) k) :=
  In.su h0 fun i hi => sgn_in h0 (In.ch h0 (hr.co h0 i) hp (by omega)) _
theorem uni_in {n m : Nat} {r : List Rat} (h0 : 0 < n) (hr : Inp n m r) {a p : Nat} (ha : a ≤ 8) (hp : p ≤ a) : In n (m * 44100) (uni (co r) a p) := by
  have := In.ch h0 (uni_part h0 hr (p := p) (by omega) (k := p + 1) (Nat.le_refl _)) ha hp
  refine this.mono ?_
  have : (p + 1) * (m * 70) ≤ 9 * (m * 70) := Nat.mul_le_mul_right _ (by omega)
  omega
theorem poly_by_ok (d : D) (row : List Rat) (low high : Rat) (n m ns ms nw mw : Nat) (hd : Row d row) (hl1 : 1 ≤ row.length) (hl : row.length ≤ 9) (h0 : 0 < n) (hm0 : 1 ≤ m) (h1 : 0 < ns) (hm : 1 ≤ ms) (hw0 : 0 < nw) (hw1 : 1 ≤ mw) (hp : Inp n m row) (hs : In ns ms low) (fh : Fit high) (fw : Fit (high - low)) (hne : high - low ≠ 0) (hw : In nw mw (1 / (high - low)))
    (hcs : Cap ns ms) (hcw : Cap nw mw) (hc : Cap (n * nw ^ 9 * ns ^ 10) (m * 44100 * mw ^ 9 * (19 * ms + 1) ^ 10)) :
    ∃ r, F_poly_by [d, qD low, qD high] = .ok (pD r) ∧ strip r = r ∧ r.length ≤ row.length ∧ ∀ t : Rat, ev r t = bern (co row) (row.length - 1) ((t - low) / (high - low)) := by
  obtain ⟨a, hA⟩ : ∃ a, row.length = a + 1 := ⟨row.length - 1, by omega⟩
  have ha : a ≤ 8 := by omega
  have nwp : 0 < nw ^ 9 := Nat.pow_pos hw0
  have nsp : 0 < ns ^ 10 := Nat.pow_pos h1
  have mwp : 0 < mw ^ 9 := Nat.pow_pos hw1
  have msp : 0 < (19 * ms + 1) ^ 10 := Nat.pow_pos (Nat.succ_pos _)
  have c1 : Cap (n * nw ^ 9) (m * 44100 * mw ^ 9) := hc.le (Nat.le_mul_of_pos_right _ nsp) (Nat.le_mul_of_pos_right _ msp)
  have c0 : Cap n (m * 44100) := c1.le (Nat.le_mul_of_pos_right _ nwp) (Nat.le_mul_of_pos_right _ mwp)
  have lg : ∀ k, k ≤ 9 → k * (m * 70) ≤ m * 44100 := fun k hk => by
    have : k * (m * 70) ≤ 9 * (m * 70) := Nat.mul_le_mul_right _ hk
    omega
  have ix := fun i (hi : i < row.length) => co_at row i hi
  let I : Nat → Env → Prop := fun p env => ∃ x y z w, env = [.im d, .im (qD low), .im (qD high), .im (.int (a : Int)), .ow (pL (tab (uni (co row) a) p)), x, y, z, w] ∧ isPt x = false ∧ isPt y = false ∧ isPt z = false ∧ isPt w = false
  obtain ⟨env2, e1, x, y, z, w, rfl, _⟩ := forL_inv (p := .nm 5) (b := b_poly_by_2) (st := []) (ds := rangeL 0 ((a + 1 : Nat) : Int)) I (fun p d1 hd1 env hI => by
    obtain ⟨x, y, z, w, rfl, hx, hy, hz, hw⟩ := hI
    obtain ⟨hi, rfl⟩ := range_get hd1
    let F : Nat → Rat := fun i => (if (p - i) % 2 = 0 then 1 else -1) * (co row i * (ch p i : Rat))
    let J : Nat → Env → Prop := fun j env => ∃ z w, env = [.im d, .im (qD low), .im (qD high), .im (.int (a : Int)), .ow (pL (tab (uni (co row) a) p)), .im (.int (p : Int)), .im (qD (su F j)), z, w] ∧ isPt z = false ∧ isPt w = false
    obtain ⟨env2, e, z2, w2, rfl, hz2, hw2⟩ := forL_inv (p := .nm 7) (b := b_poly_by_1) (st := []) (ds := rangeL 0 ((p + 1 : Nat) : Int)) J (fun j d1 hd1 env hJ => by
      obtain ⟨z, w, rfl, hz, hw⟩ := hJ
      obtain ⟨hj, rfl⟩ := range_get hd1
      have p1 := picks_ok (n := p) (k := j) (by omega) (by omega)
      have f1 := (hp.co h0 j).fit h0 (c0.mono (by omega))
      have m0 : F_multiply [qD (co row j), qD ((ch p j : Nat) : Rat)] = .ok (qD (co row j * (ch p j : Rat))) := mul_op _ _ f1 (fit_nat _ (Nat.lt_of_le_of_lt (ch_70 (n := p) (by omega) (k := j) (by omega)) (by decide)))
      have mI := In.ch h0 (hp.co h0 j) (a := p) (by omega) (b := j) (by omega)
      have s1 := (uni_part h0 hp (p := p) (by omega) (k := j) (by omega)).fit h0 (c0.mono (lg j (by omega)))
      have s2 := (sgn_in h0 mI ((p - j) % 2 = 0)).fit h0 (c0.mono (by omega))
      have a1 : F_add [qD (su F j), qD (F j)] = .ok (qD (su F (j + 1))) := add_op _ _ s1 s2
      have q : (.tuple [.int (ch p j : Int), .int 1] : D) = qD ((ch p j : Nat) : Rat) := qi _
      obtain ⟨g1, g2, g3⟩ := par_ok (d := p - j) (by omega)
      have ed : (p : Int) - (j : Int) = ((p - j : Nat) : Int) := by omega
      have T := turned_ok (co row j * (ch p j : Rat))
      have ixj := ix j (by omega)
      refine ⟨[.im d, .im (qD low), .im (qD high), .im (.int (a : Int)), .ow (pL (tab (uni (co row) a) p)), .im (.int (p : Int)), .im (qD (su F j)), .im (.int (j : Int)), w], by simp [hz], [.im d, .im (qD low), .im (qD high), .im (.int (a : Int)), .ow (pL (tab (uni (co row) a) p)), .im (.int (p : Int)), .im (qD (su F (j + 1))), .im (.int (j : Int)), .im (qD (co row j * (ch p j : Rat)))], ?_, _, _, rfl, rfl, rfl⟩
      by_cases hpar : (p - j) % 2 = 0
      · have eF : F j = co row j * (ch p j : Rat) := by
          show (if _ then _ else _) * _ = _
          rw [if_pos hpar, Rat.one_mul]
        rw [eF] at a1
        rw [hpar] at g3
        rcases hd with rfl | rfl <;> simp [b_poly_by_1, -Int.natCast_sub, hw, ixj, p1, q, m0, ed, g1, g2, g3, sh_i, eqv_i, a1]
      · have eF : F j = -(co row j * (ch p j : Rat)) := by
          show (if _ then _ else _) * _ = _
          rw [if_neg hpar]
          grind
        rw [eF] at a1
        have g4 : ((p - j) % 2 == 0) = false := by simpa using hpar
        rw [g4] at g3
        rcases hd with rfl | rfl <;> simp [b_poly_by_1, -Int.natCast_sub, hw, ixj, p1, q, m0, ed, g1, g2, g3, sh_i, eqv_i, T, a1]) (env := [.im d, .im (qD low), .im (qD high), .im (.int (a : Int)), .ow (pL (tab (uni (co row) a) p)), .im (.int (p : Int)), .im (qD 0), z, w]) ⟨_, _, rfl, hz, hw⟩
    rw [range_len] at e
    have R := iR1N (m := mBin oAdd (mVar 5) (mC (.int 1))) (env := [.im d, .im (qD low), .im (qD high), .im (.int (a : Int)), .ow (pL (tab (uni (co row) a) p)), .im (.int (p : Int)), .im (qD 0), z, w]) (st := []) (st' := []) (k := p + 1) rfl (by omega)
    have p2 := picks_ok (n := a) (k := p) (by omega) (by omega)
    have s1 := (uni_part h0 hp (p := p) (by omega) (k := p + 1) (Nat.le_refl _)).fit h0 (c0.mono (lg (p + 1) (by omega)))
    have m0 : F_multiply [qD (su F (p + 1)), qD ((ch a p : Nat) : Rat)] = .ok (qD (uni (co row) a p)) := mul_op _ _ s1 (fit_nat _ (Nat.lt_of_le_of_lt (ch_70 (n := a) (by omega) (k := p) (by omega)) (by decide)))
    have q : (.tuple [.int (ch a p : Int), .int 1] : D) = qD ((ch a p : Nat) : Rat) := qi _
    have l1 : p < 1000000 := by omega
    refine ⟨[.im d, .im (qD low), .im (qD high), .im (.int (a : Int)), .ow (pL (tab (uni (co row) a) p)), .im (.int (p : Int)), y, z, w], by simp [hx], [.im d, .im (qD low), .im (qD high), .im (.int (a : Int)), .ow (pL (tab (uni (co row) a) (p + 1))), .im (.int (p : Int)), .im (qD (su F (p + 1))), z2, w2], ?_, _, _, _, _, rfl, rfl, rfl, hz2, hw2⟩
    have k1 : (sSet 6 (mC (.tuple [(.int 0), (.int 1)]))) [.im d, .im (qD low), .im (qD high), .im (.int (a : Int)), .ow (pL (tab (uni (co row) a) p)), .im (.int (p : Int)), y, z, w] [] = .ok (.nx [.im d, .im (qD low), .im (qD high), .im (.int (a : Int)), .ow (pL (tab (uni (co row) a) p)), .im (.int (p : Int)), .im (qD 0), z, w] []) := by simp [hy, q0]
    have k2 : (sFor (iRange1 (mBin oAdd (mVar 5) (mC (.int 1)))) (.nm 7) b_poly_by_1) [.im d, .im (qD low), .im (qD high), .im (.int (a : Int)), .ow (pL (tab (uni (co row) a) p)), .im (.int (p : Int)), .im (qD 0), z, w] [] = .ok (.nx [.im d, .im (qD low), .im (qD high), .im (.int (a : Int)), .ow (pL (tab (uni (co row) a) p)), .im (.int (p : Int)), .im (qD (su F (p + 1))), z2, w2] []) := by
      unfold sFor
      rw [R]
      exact e
    unfold b_poly_by_2
    rw [seq_nx k1, seq_nx k2, tab_succ, pL_app]
    simp [p2, q, m0, l1]) (env := [.im d, .im (qD low), .im (qD high), .im (.int (a : Int)), .ow [], .no, .no, .no, .no]) ⟨_, _, _, _, rfl, rfl, rfl, rfl, rfl⟩
  rw [range_len] at e1
  obtain ⟨un, hun⟩ : ∃ un, un = tab (uni (co row) a) (a + 1) := ⟨_, rfl⟩
  rw [← hun] at e1
  have lun : un.length = a + 1 := by rw [hun]; simp
  have iun : Inp n (m * 44100) un := fun b hb => by
    rw [hun] at hb
    obtain ⟨k, hk, rfl⟩ := mem_tab hb
    exact uni_in h0 hp ha (by omega)
  have T1 := told_ok (pD un) un (Row.l _) (by omega)
  have lst : (strip un).length ≤ a + 1 := Nat.le_trans (strip_le _) (by omega)
  have t1 : F_take [qD high, qD low] = .ok (qD (high - low)) := take_op _ _ fh (hs.fit h1 hcs)
  have d1 : F_divide [qD 1, qD (high - low)] = .ok (qD (1 / (high - low))) := divide_ok _ _ fit1 fw hne
  have n1 := turned_ok low
  obtain ⟨r, e2, hr, he⟩ := stretched_of_ok (pD (strip un)) (strip un) (1 / (high - low)) n (m * 44100) nw mw 9 (Row.l _) (by omega) (by omega) h0 hw0 hw1 (by omega) iun.strip hw c1 hcw
  obtain ⟨s, e3, hs', he'⟩ := moved_of_ok (pD r) r (-low) (n * nw ^ 9) (m * 44100 * mw ^ 9) ns ms 9 (Row.l _) (by have := hr.len; omega) (by omega) (Nat.mul_pos h0 nwp) h1 hm hr.inp (hs.neg h1) hc hcs
  have T2 := told_ok (pD s) s (Row.l _) (by have := hs'.len; have := hr.len; omega)
  rw [hs'.told] at T2
  refine ⟨s, ?_, hs'.told, by have := hs'.len; have := hr.len; omega, fun t => ?_⟩
  · have k0 : (sPar2 3 4 false true (mBin oSub (mB bLen (vCons (mVar 0) vNil)) (mC (.int 1))) (mLst aNil)) [.im d, .im (qD low), .im (qD high), .no, .no, .no, .no, .no, .no] [] = .ok (.nx [.im d, .im (qD low), .im (qD high), .im (.int (a : Int)), .ow [], .no, .no, .no, .no] []) := by
      have ee : (row.length : Int) - 1 = (a : Int) := by omega
      rcases hd with rfl | rfl <;> simp [ee]
    have R := iR1N (m := mBin oAdd (mVar 3) (mC (.int 1))) (env := [.im d, .im (qD low), .im (qD high), .im (.int (a : Int)), .ow [], .no, .no, .no, .no]) (st := []) (st' := []) (k := a + 1) rfl (by omega)
    have k1 : (sFor (iRange1 (mBin oAdd (mVar 3) (mC (.int 1)))) (.nm 5) b_poly_by_2) [.im d, .im (qD low), .im (qD high), .im (.int (a : Int)), .ow [], .no, .no, .no, .no] [] = .ok (.nx [.im d, .im (qD low), .im (qD high), .im (.int (a : Int)), .ow (pL un), x, y, z, w] []) := by
      unfold sFor
      rw [R]
      exact e1
    refine runP_rt (st := []) rfl ?_
    show m_poly_by [.im d, .im (qD low), .im (qD high), .no, .no, .no, .no, .no, .no] [] = _
    unfold m_poly_by
    rw [seq_nx k0, seq_nx k1]
    unfold pD at T1 T2 e2 e3 ⊢
    simp [T1, q1, t1, d1, e2, n1, e3, T2]
  · rw [he', he, ev_strip, hA, Nat.add_sub_cancel, ← bern_uni _ _ _ ha]
    have ex : 1 / (high - low) * (t + -low) = (t - low) / (high - low) := by grind
    rw [ex, ev_co _ un (a + 1) (by omega)]
    refine su_congr fun k hk => ?_
    rw [hun, co_tab, if_pos hk]
end BP

namespace BP
/-! ### the law's own poly of a row -/
theorem min_succ_lt {j a : Nat} (h : j < a) : min (j + 1) a = min j a + 1 ∧ j + 1 - (min j a + 1) = j - min j a := by omega
theorem min_succ_ge {j a : Nat} (h : ¬ j < a) : min (j + 1) a = min j a ∧ j + 1 - min j a = j - min j a + 1 := by omega
theorem l_poly_of_ok (row : List Rat) (low high : Rat) (n m ns ms nw mw : Nat) (hl1 : 1 ≤ row.length) (hl : row.length ≤ 9) (h0 : 0 < n) (hm0 : 1 ≤ m) (h1 : 0 < ns) (hm : 1 ≤ ms) (hw0 : 0 < nw) (hw1 : 1 ≤ mw) (hp : Inp n m row) (hs : In ns ms low) (hh : In ns ms high) (fw : Fit (high - low)) (hne : high - low ≠ 0) (hwi : In nw mw (1 / (high - low)))
    (hcs : Cap ns ms) (hcw : Cap nw mw) (hc : Cap (n * (ns * nw) ^ 9) (10 * (m * 70 * (21 * ms * mw) ^ 9))) :
    ∃ r, F__law_poly_of [pD row, .tuple [qD low, qD high]] = .ok (pD r) ∧ strip r = r ∧ r.length ≤ row.length ∧ Inp (n * (ns * nw) ^ 9) (9 * (m * 70 * (21 * ms * mw) ^ 9)) r ∧ ∀ t : Rat, ev r t = bern (co row) (row.length - 1) ((t - low) / (high - low)) := by
  obtain ⟨a, hA⟩ : ∃ a, row.length = a + 1 := ⟨row.length - 1, by omega⟩
  have ha : a ≤ 8 := by omega
  obtain ⟨Z, hZ⟩ : ∃ Z, Z = ns * nw := ⟨_, rfl⟩
  obtain ⟨Y, hY⟩ : ∃ Y, Y = 21 * ms * mw := ⟨_, rfl⟩
  rw [← hZ, ← hY] at hc
  have Z1 : 0 < Z := by
    rw [hZ]
    exact Nat.mul_pos h1 hw0
  have Y1 : 1 ≤ Y := by
    rw [hY]
    exact Nat.mul_pos (Nat.mul_pos (by decide) hm) hw1
  have Zp : ∀ k, 0 < Z ^ k := fun k => Nat.pow_pos Z1
  have Yp : ∀ k, 0 < Y ^ k := fun k => Nat.pow_pos Y1
  have cap : ∀ i k, i ≤ 9 → k ≤ 10 → Cap (n * Z ^ i) (k * (m * 70 * Y ^ i)) := fun i k hi hk => hc.le (Nat.mul_le_mul_left _ (Nat.pow_le_pow_right Z1 hi)) (Nat.mul_le_mul hk (Nat.mul_le_mul_left _ (Nat.pow_le_pow_right Y1 hi)))
  have cap1 : ∀ i, i ≤ 9 → Cap (n * Z ^ i) (m * 70 * Y ^ i) := fun i hi => (cap i 1 hi (by omega)).mono (by omega)
  have c0 : Cap n (m * 70) := (cap1 0 (by omega)).le (by simp) (by simp)
  have fp : Fits row := hp.fits h0 (c0.mono (by omega))
  have i1 : In ns ms (1 : Rat) := In_one ns ms h1 hm
  have im1 : In ns ms (-1 : Rat) := i1.neg h1
  have tl : F__law_less [qD high, qD low] = .ok (qD (high - low)) := l_less_op _ _ (hh.fit h1 hcs) (hs.fit h1 hcs)
  have tn : F__law_less [qD 0, qD low] = .ok (qD (-low)) := by
    have := l_less_op 0 low fit0 (hs.fit h1 hcs)
    rw [this]
    congr 2
    grind
  have td : F__law_over [qD 1, qD (high - low)] = .ok (qD (1 / (high - low))) := l_over_op _ _ fit1 fw hne
  have qm : (.tuple [.int (-1), .int 1] : D) = qD (-1) := rfl
  obtain ⟨u, hu⟩ : ∃ u : Rat → Rat, u = fun t => (t - low) / (high - low) := ⟨_, rfl⟩
  let G : Nat → Rat → Rat := fun i t => co row i * (ch a i : Rat) * (u t ^ i * (1 - u t) ^ (a - i))
  let I : Nat → Env → Prop := fun i env => ∃ V x y z w, env = [.im (pD row), .im (.tuple [qD low, qD high]), .im (qD low), .im (qD high), .im (.int (a : Int)), .im (qD (high - low)), .im (pD V), x, y, z, w] ∧ isPt x = false ∧ isPt y = false ∧ isPt z = false ∧ isPt w = false ∧ Pol (n * Z ^ 9) (i * (m * 70 * Y ^ 9)) (a + 1) V ∧ ∀ t : Rat, ev V t = su (fun i => G i t) i
  obtain ⟨env2, e1, V, x, y, z, w, rfl, _, _, _, _, hV, hVe⟩ := forL_inv (p := .tp [.nm 7, .nm 8]) (b := b__law_poly_of_2) (st := []) (ds := enumL (pL row)) I (fun i d1 hd1 env hI => by
    obtain ⟨V, x, y, z, w, rfl, hx, hy, hz, hw', hV, hVe⟩ := hI
    obtain ⟨hi, rfl⟩ := enum_get hd1
    have hi8 : i ≤ a := by omega
    have p1 := choose_ok (n := a) (k := i) (by omega) (by omega)
    have q : (.tuple [.int (ch a i : Int), .int 1] : D) = qD ((ch a i : Nat) : Rat) := qi _
    have fi := (hp.co h0 i).fit h0 (c0.mono (by omega))
    have m0 : F__law_times [qD (co row i), qD ((ch a i : Nat) : Rat)] = .ok (qD (co row i * (ch a i : Rat))) := l_times_op _ _ fi (fit_nat _ (Nat.lt_of_le_of_lt (ch_70 ha hi8) (by decide)))
    have iC := In.ch h0 (hp.co h0 i) ha hi8
    obtain ⟨C, hC⟩ : ∃ C, C = co row i * (ch a i : Rat) := ⟨_, rfl⟩
    rw [← hC] at m0 iC
    -- factor by factor
    let J : Nat → Env → Prop := fun j env => ∃ P w, env = [.im (pD row), .im (.tuple [qD low, qD high]), .im (qD low), .im (qD high), .im (.int (a : Int)), .im (qD (high - low)), .im (pD V), .im (.int (i : Int)), .im (qD (co row i)), .im (pD P), w] ∧ isPt w = false ∧ (∃ P', P = P' ∧ (strip P' = P' ∨ j = 0) ∧ Inp (n * Z ^ j) (m * 70 * Y ^ j) P' ∧ P'.length ≤ j + 1) ∧ ∀ t : Rat, ev P t = C * (u t ^ (min j i) * (1 - u t) ^ (j - min j i))
    obtain ⟨env2, e, P, w2, rfl, hw2, ⟨_, rfl, _, iP, lP⟩, hPe⟩ := forL_inv (p := .nm 10) (b := b__law_poly_of_1) (st := []) (ds := rangeL 0 ((a : Nat) : Int)) J (fun j d1 hd1 env hJ => by
      obtain ⟨P, w, rfl, hw, ⟨_, rfl, _, iP, lP⟩, hPe⟩ := hJ
      obtain ⟨hj, rfl⟩ := range_get hd1
      have hnz := Nat.mul_pos h0 (Zp j)
      -- one product and one multiple
      have step : ∀ (f : PF) (v s : Rat), In ns ms v → In ns ms s → ∃ Q, F__law_product [pD P, .list [qD v, qD s]] = .ok (pD Q) ∧ F__law_scale [pD Q, qD (1 / (high - low))] = .ok (pD (strip (pmulc (1 / (high - low)) Q))) ∧ Inp (n * Z ^ (j + 1)) (m * 70 * Y ^ (j + 1)) (strip (pmulc (1 / (high - low)) Q)) ∧ (strip (pmulc (1 / (high - low)) Q)).length ≤ j + 2 ∧ ∀ t, ev (strip (pmulc (1 / (high - low)) Q)) t = ev P t * ((v + s * t) / (high - low)) := fun f v s hv hs2 => by
        have iv := Inp2 hv hs2
        have k1 : P.length * (2 * (m * 70 * Y ^ j * ms)) + m * 70 * Y ^ j * ms ≤ m * 70 * Y ^ j * (21 * ms) := by
          have : P.length * (2 * (m * 70 * Y ^ j * ms)) ≤ 9 * (2 * (m * 70 * Y ^ j * ms)) := Nat.mul_le_mul_right _ (by omega)
          have e : m * 70 * Y ^ j * (21 * ms) = 21 * (m * 70 * Y ^ j * ms) := Nat.mul_left_comm _ _ _
          omega
        have k2 : m * 70 * Y ^ j * (21 * ms) ≤ m * 70 * Y ^ (j + 1) := by
          have h21 : 21 * ms ≤ Y := by
            rw [hY]
            exact Nat.le_mul_of_pos_right _ hw1
          have e : m * 70 * Y ^ (j + 1) = m * 70 * Y ^ j * Y := by rw [Nat.pow_succ, ← Nat.mul_assoc]
          rw [e]
          exact Nat.mul_le_mul_left _ h21
        have n2 : n * Z ^ j * ns ≤ n * Z ^ (j + 1) := by
          rw [Nat.pow_succ, ← Nat.mul_assoc]
          refine Nat.mul_le_mul_left _ ?_
          rw [hZ]
          exact Nat.le_mul_of_pos_right _ hw0
        have cj := cap1 (j + 1) (by omega)
        have M := l_mul_ok P [v, s] (n * Z ^ j) ns (m * 70 * Y ^ j) ms hnz h1 iP iv (iP.fits hnz (cap1 j (by omega))) (iv.fits h1 hcs) (cj.le n2 (Nat.le_trans k1 k2)) (by simp; omega)
        have iM : Inp (n * Z ^ j * ns) (m * 70 * Y ^ j * (21 * ms)) (strip (pmul P [v, s])) := ((Inp.pmul hnz h1 iP iv).mono (Nat.le_trans (Nat.le_add_right _ _) k1)).strip
        have lM : (strip (pmul P [v, s])).length ≤ j + 2 := Nat.le_trans (strip_pmul_len P [v, s] (by simp)) (by simp; omega)
        have S := l_scale_ok (pD (strip (pmul P [v, s]))) _ (1 / (high - low)) (Row.l _) (by omega) (iM.fits (Nat.mul_pos hnz h1) (cj.le n2 k2)) (hwi.fit hw0 hcw)
        have iS := Inp.pmulc iM hwi (Nat.mul_pos hnz h1) hw0
        refine ⟨_, M, S, ?_, Nat.le_trans (strip_le _) (by simp [pmulc]; omega), fun t => ?_⟩
        · have e1 : n * Z ^ j * ns * nw = n * Z ^ (j + 1) := by rw [Nat.mul_assoc (n * Z ^ j), ← hZ, Nat.pow_succ, ← Nat.mul_assoc]
          have e2 : m * 70 * Y ^ j * (21 * ms) * mw = m * 70 * Y ^ (j + 1) := by
            rw [Nat.mul_assoc (m * 70 * Y ^ j), ← hY, Nat.pow_succ, ← Nat.mul_assoc]
          rw [e1, e2] at iS
          exact iS.strip
        · rw [ev_strip, ev_pmulc, ev_strip, ev_pmul]
          simp
          grind
      by_cases hji : j < i
      · obtain ⟨Q, s1, s2, s3, s4, s5⟩ := step F__law_product (-low) 1 (hs.neg h1) i1
        have c : decide ((j : Int) < (i : Int)) = true := by simpa using hji
        refine ⟨[.im (pD row), .im (.tuple [qD low, qD high]), .im (qD low), .im (qD high), .im (.int (a : Int)), .im (qD (high - low)), .im (pD V), .im (.int (i : Int)), .im (qD (co row i)), .im (pD P), .im (.int (j : Int))], by simp [hw], [.im (pD row), .im (.tuple [qD low, qD high]), .im (qD low), .im (qD high), .im (.int (a : Int)), .im (qD (high - low)), .im (pD V), .im (.int (i : Int)), .im (qD (co row i)), .im (pD (strip (pmulc (1 / (high - low)) Q))), .im (.int (j : Int))], ?_, _, _, rfl, rfl, ⟨_, rfl, .inl (strip_strip _), s3, s4⟩, fun t => ?_⟩
        · simp [b__law_poly_of_1, hji, q0, q1, tn, s1, td, s2]
        · obtain ⟨g1, g2⟩ := min_succ_lt hji
          rw [s5, hPe, g1, g2, Rat.pow_succ, hu]
          grind
      · obtain ⟨Q, s1, s2, s3, s4, s5⟩ := step F__law_product high (-1) hh im1
        refine ⟨[.im (pD row), .im (.tuple [qD low, qD high]), .im (qD low), .im (qD high), .im (.int (a : Int)), .im (qD (high - low)), .im (pD V), .im (.int (i : Int)), .im (qD (co row i)), .im (pD P), .im (.int (j : Int))], by simp [hw], [.im (pD row), .im (.tuple [qD low, qD high]), .im (qD low), .im (qD high), .im (.int (a : Int)), .im (qD (high - low)), .im (pD V), .im (.int (i : Int)), .im (qD (co row i)), .im (pD (strip (pmulc (1 / (high - low)) Q))), .im (.int (j : Int))], ?_, _, _, rfl, rfl, ⟨_, rfl, .inl (strip_strip _), s3, s4⟩, fun t => ?_⟩
        · simp [b__law_poly_of_1, hji, qm, q1, s1, td, s2]
        · obtain ⟨g1, g2⟩ := min_succ_ge hji
          have hv : 1 - u t = (high + -1 * t) / (high - low) := by
            rw [hu]
            grind
          rw [s5, hPe, g1, g2, Rat.pow_succ, ← hv]
          grind) (env := [.im (pD row), .im (.tuple [qD low, qD high]), .im (qD low), .im (qD high), .im (.int (a : Int)), .im (qD (high - low)), .im (pD V), .im (.int (i : Int)), .im (qD (co row i)), .im (pD [C]), w]) ⟨_, _, rfl, hw', ⟨_, rfl, .inr rfl, by simpa using Inp1 iC, by simp⟩, fun t => by simp; grind⟩
    rw [range_len] at iP lP hPe
    have R := iR1N (m := mVar 4) (env := [.im (pD row), .im (.tuple [qD low, qD high]), .im (qD low), .im (qD high), .im (.int (a : Int)), .im (qD (high - low)), .im (pD V), .im (.int (i : Int)), .im (qD (co row i)), .im (pD [C]), w]) (st := []) (st' := []) (k := a) rfl (by omega)
    have hN := Nat.mul_pos h0 (Zp 9)
    have iP2 : Inp (n * Z ^ 9) (m * 70 * Y ^ 9) P := (iP.mono (Nat.mul_le_mul_left _ (Nat.pow_le_pow_right Y1 (by omega)))).dvd hN (Nat.mul_dvd_mul_left _ (Nat.pow_dvd_pow _ (by omega)))
    have A := l_add_ok (pD V) (pD P) V P (Row.l _) (Row.l _) (by have := hV.len; omega) (by omega) (hV.inp.fits hN (cap 9 i (by omega) (by omega))) (iP2.fits hN (cap1 9 (by omega)))
    have k1 : (sSet 9 (mLst (aCons (mCall F__law_times (aCons (mVar 8) (aCons (mTup (aCons (mCall F__law_choose (aCons (mVar 4) (aCons (mVar 7) aNil))) (aCons (mC (.int 1)) aNil))) aNil))) aNil))) [.im (pD row), .im (.tuple [qD low, qD high]), .im (qD low), .im (qD high), .im (.int (a : Int)), .im (qD (high - low)), .im (pD V), .im (.int (i : Int)), .im (qD (co row i)), z, w] [] = .ok (.nx [.im (pD row), .im (.tuple [qD low, qD high]), .im (qD low), .im (qD high), .im (.int (a : Int)), .im (qD (high - low)), .im (pD V), .im (.int (i : Int)), .im (qD (co row i)), .im (pD [C]), w] []) := by simp [hz, p1, q, m0, pD]
    have k2 : (sFor (iRange1 (mVar 4)) (.nm 10) b__law_poly_of_1) [.im (pD row), .im (.tuple [qD low, qD high]), .im (qD low), .im (qD high), .im (.int (a : Int)), .im (qD (high - low)), .im (pD V), .im (.int (i : Int)), .im (qD (co row i)), .im (pD [C]), w] [] = .ok (.nx [.im (pD row), .im (.tuple [qD low, qD high]), .im (qD low), .im (qD high), .im (.int (a : Int)), .im (qD (high - low)), .im (pD V), .im (.int (i : Int)), .im (qD (co row i)), .im (pD P), w2] []) := by
      unfold sFor
      rw [R]
      exact e
    refine ⟨[.im (pD row), .im (.tuple [qD low, qD high]), .im (qD low), .im (qD high), .im (.int (a : Int)), .im (qD (high - low)), .im (pD V), .im (.int (i : Int)), .im (qD (co row i)), z, w], by simp [hx, hy], [.im (pD row), .im (.tuple [qD low, qD high]), .im (qD low), .im (qD high), .im (.int (a : Int)), .im (qD (high - low)), .im (pD (strip (padd V P))), .im (.int (i : Int)), .im (qD (co row i)), .im (pD P), w2], ?_, _, _, _, _, _, rfl, rfl, rfl, rfl, hw2, ⟨strip_strip _, ?_, ?_⟩, fun t => ?_⟩
    · unfold b__law_poly_of_2
      rw [seq_nx k1, seq_nx k2]
      simp [A]
    · exact ((Inp.padd hN hV.inp iP2).mono (by rw [Nat.add_mul]; omega)).strip
    · refine Nat.le_trans (strip_le _) ?_
      rw [padd_len]
      have := hV.len
      omega
    · have hmin : min a i = i := by omega
      rw [ev_strip, ev_padd, hVe, hPe, hmin, hC]
      rfl) (env := [.im (pD row), .im (.tuple [qD low, qD high]), .im (qD low), .im (qD high), .im (.int (a : Int)), .im (qD (high - low)), .im (pD []), .no, .no, .no, .no]) ⟨_, _, _, _, _, rfl, rfl, rfl, rfl, rfl, ⟨rfl, fun a ha => by simp at ha, by simp⟩, fun t => rfl⟩
  rw [enum_len] at hVe hV
  refine ⟨V, ?_, hV.told, by have := hV.len; omega, ?_, fun t => ?_⟩
  · have k8 : (sPat (.tp [(.nm 2), (.nm 3)]) (mVar 1)) [.im (pD row), .im (.tuple [qD low, qD high]), .no, .no, .no, .no, .no, .no, .no, .no, .no] [] = .ok (.nx [.im (pD row), .im (.tuple [qD low, qD high]), .im (qD low), .im (qD high), .no, .no, .no, .no, .no, .no, .no] []) := by simp
    have ee : (row.length : Int) - 1 = (a : Int) := by omega
    have k7 : (sPar3 4 5 6 false false false (mBin oSub (mB bLen (vCons (mVar 0) vNil)) (mC (.int 1))) (mCall F__law_less (aCons (mVar 3) (aCons (mVar 2) aNil))) (mLst aNil)) [.im (pD row), .im (.tuple [qD low, qD high]), .im (qD low), .im (qD high), .no, .no, .no, .no, .no, .no, .no] [] = .ok (.nx [.im (pD row), .im (.tuple [qD low, qD high]), .im (qD low), .im (qD high), .im (.int (a : Int)), .im (qD (high - low)), .im (pD []), .no, .no, .no, .no] []) := by simp [tl, pD, ee]
    have k6 : (sFor (iEnumL (mVar 0)) (.tp [(.nm 7), (.nm 8)]) b__law_poly_of_2) [.im (pD row), .im (.tuple [qD low, qD high]), .im (qD low), .im (qD high), .im (.int (a : Int)), .im (qD (high - low)), .im (pD []), .no, .no, .no, .no] [] = .ok (.nx [.im (pD row), .im (.tuple [qD low, qD high]), .im (qD low), .im (qD high), .im (.int (a : Int)), .im (qD (high - low)), .im (pD V), x, y, z, w] []) := by
      unfold pD at e1 ⊢
      simp only [pL_nil] at e1
      simp [sFor, e1]
    refine runP_rt (st := []) rfl ?_
    show m__law_poly_of [.im (pD row), .im (.tuple [qD low, qD high]), .no, .no, .no, .no, .no, .no, .no, .no, .no] [] = _
    unfold m__law_poly_of
    rw [seq_nx k8, seq_nx k7, seq_nx k6]
    rfl
  · rw [← hZ, ← hY]
    exact hV.inp.mono (Nat.mul_le_mul_right _ hl)
  · rw [hVe, hA]
    show _ = su (fun i => co row i * (ch a i : Rat) * (((t - low) / (high - low)) ^ i * (1 - (t - low) / (high - low)) ^ (a - i))) (a + 1)
    refine su_congr fun k hk => ?_
    show co row k * (ch a k : Rat) * (u t ^ k * (1 - u t) ^ (a - k)) = _
    rw [hu]
end BP

namespace BP
open L2 (V Hp HO St TE TT TA TS TG TI It Ends Cx PE PT PW PA PS PSs PG PI Inv upd upd_same upd_ne)
abbrev Addr := PySem.Addr
/-- a written tuple -/
def KTup (K : PySem.W.Frag) (a : Addr) (xs : List V) : Prop :=
  ∃ (o : PySem.Obj) (its : Array PySem.Value) (n : Nat), K.lookup a = some o ∧ o.cls = .type "tuple" ∧ o.data = .seq its n ∧ its.size ≤ PySem.sizeLine ∧ L2.Vals xs its.toList
def keyD : L2.Key → D
  | .inl i => .int i
  | .inr x => .str x
mutual
/-- at the value v stands d, off the addresses A -/
inductive Dr (K : PySem.W.Frag) (H : Hp) (A : Addr → Prop) : V → D → Prop
  | non : Dr K H A .non .none
  | bl (b : Bool) : Dr K H A (.bl b) (.bool b)
  | int (i : Int) : Dr K H A (.int i) (.int i)
  | str (x : PySem.Str) : Dr K H A (.str x) (.str x)
  | lst {a : Addr} {xs : List V} {ds : List D} : ¬ A a → H a = some (.lst xs) → DrAll K H A xs ds → Dr K H A (.ref a) (.list ds)
  | tup {a : Addr} {xs : List V} {ds : List D} : (¬ A a ∧ H a = some (.tup xs)) ∨ KTup K a xs → DrAll K H A xs ds → Dr K H A (.ref a) (.tuple ds)
  | dic {a : Addr} {kvs : List (L2.Key × V)} {ds : List D} : ¬ A a → H a = some (.dK kvs) → DrAll K H A (kvs.map (·.2)) ds → Dr K H A (.ref a) (.dict ((kvs.map fun p => keyD p.1).zip ds))
inductive DrAll (K : PySem.W.Frag) (H : Hp) (A : Addr → Prop) : List V → List D → Prop
  | nil : DrAll K H A [] []
  | cons {v : V} {vs : List V} {d : D} {ds : List D} : Dr K H A v d → DrAll K H A vs ds → DrAll K H A (v :: vs) (d :: ds)
end
section
variable {K : PySem.W.Frag} {H H' : Hp} {A A' : Addr → Prop}
mutual
theorem Dr.to (k : ∀ b o, H b = some o → ¬ A b → H' b = some o ∧ ¬ A' b) : ∀ {v : V} {d : D}, Dr K H A v d → Dr K H' A' v d
  | _, _, .non => .non
  | _, _, .bl b => .bl b
  | _, _, .int i => .int i
  | _, _, .str x => .str x
  | _, _, .lst h1 h2 h3 => .lst (k _ _ h2 h1).2 (k _ _ h2 h1).1 (DrAll.to k h3)
  | _, _, .tup (.inl h) h3 => .tup (.inl ⟨(k _ _ h.2 h.1).2, (k _ _ h.2 h.1).1⟩) (DrAll.to k h3)
  | _, _, .tup (.inr h) h3 => .tup (.inr h) (DrAll.to k h3)
  | _, _, .dic h1 h2 h3 => .dic (k _ _ h2 h1).2 (k _ _ h2 h1).1 (DrAll.to k h3)
theorem DrAll.to (k : ∀ b o, H b = some o → ¬ A b → H' b = some o ∧ ¬ A' b) : ∀ {vs : List V} {ds : List D}, DrAll K H A vs ds → DrAll K H' A' vs ds
  | _, _, .nil => .nil
  | _, _, .cons h t => .cons (Dr.to k h) (DrAll.to k t)
end
theorem DrAll.length : ∀ {vs : List V} {ds : List D}, DrAll K H A vs ds → vs.length = ds.length
  | _, _, .nil => rfl
  | _, _, .cons _ t => congrArg Nat.succ (DrAll.length t)
theorem DrAll.get : ∀ {vs : List V} {ds : List D}, DrAll K H A vs ds → ∀ (i : Nat), (∀ x, vs[i]? = some x → ∃ d, ds[i]? = some d ∧ Dr K H A x d) ∧ (∀ d, ds[i]? = some d → ∃ x, vs[i]? = some x ∧ Dr K H A x d)
  | _, _, .nil, i => ⟨fun x h => by simp at h, fun x h => by simp at h⟩
  | _, _, .cons h t, 0 => ⟨fun x e => ⟨_, rfl, by cases e; exact h⟩, fun d e => ⟨_, rfl, by cases e; exact h⟩⟩
  | _, _, .cons h t, i + 1 => DrAll.get t i
theorem DrAll.append : ∀ {vs us : List V} {ds es : List D}, DrAll K H A vs ds → DrAll K H A us es → DrAll K H A (vs ++ us) (ds ++ es)
  | _, _, _, _, .nil, s => s
  | _, _, _, _, .cons h t, s => .cons h (DrAll.append t s)
theorem DrAll.take : ∀ {vs : List V} {ds : List D} (n : Nat), DrAll K H A vs ds → DrAll K H A (vs.take n) (ds.take n)
  | _, _, 0, _ => .nil
  | _, _, _ + 1, .nil => .nil
  | _, _, n + 1, .cons h t => .cons h (DrAll.take n t)
theorem DrAll.drop : ∀ {vs : List V} {ds : List D} (n : Nat), DrAll K H A vs ds → DrAll K H A (vs.drop n) (ds.drop n)
  | _, _, 0, h => h
  | _, _, _ + 1, .nil => .nil
  | _, _, n + 1, .cons _ t => DrAll.drop n t
theorem DrAll.reverse : ∀ {vs : List V} {ds : List D}, DrAll K H A vs ds → DrAll K H A vs.reverse ds.reverse
  | _, _, .nil => .nil
  | _, _, .cons h t => by
    rw [List.reverse_cons, List.reverse_cons]
    exact DrAll.append (DrAll.reverse t) (.cons h .nil)
theorem DrAll.set {v : V} {d : D} (h : Dr K H A v d) : ∀ {vs : List V} {ds : List D} (i : Nat), DrAll K H A vs ds → DrAll K H A (vs.set i v) (ds.set i d)
  | _, _, _, .nil => .nil
  | _, _, 0, .cons _ t => .cons h t
  | _, _, i + 1, .cons h' t => .cons h' (DrAll.set h i t)
theorem DrAll.dropLast : ∀ {vs : List V} {ds : List D}, DrAll K H A vs ds → DrAll K H A vs.dropLast ds.dropLast
  | _, _, .nil => .nil
  | _, _, .cons _ .nil => .nil
  | _, _, .cons h (.cons h2 t) => .cons h (DrAll.dropLast (.cons h2 t))
theorem DrAll.rep {vs : List V} {ds : List D} (h : DrAll K H A vs ds) : ∀ n : Nat, DrAll K H A (List.replicate n vs).flatten (List.replicate n ds).flatten
  | 0 => .nil
  | n + 1 => by
    rw [List.replicate_succ, List.replicate_succ, List.flatten_cons, List.flatten_cons]
    exact h.append (DrAll.rep h n)
theorem Dr.sqt {a : Addr} {ds : List D} (h : Dr K H A (.ref a) (.tuple ds)) : ∃ xs, L2.SqT K H a xs ∧ DrAll K H A xs ds := by
  cases h with
  | tup h1 h2 =>
    rcases h1 with h1 | h1
    · exact ⟨_, .inl (.inl h1.2), h2⟩
    · exact ⟨_, .inr h1, h2⟩
end
/-- the pot's object alone may change -/
def Keep (pot : Option Addr) (H H' : Hp) : Prop := ∀ b o, H b = some o → pot ≠ some b → H' b = some o
theorem Keep.refl {pot : Option Addr} {H : Hp} : Keep pot H H := fun _ _ h _ => h
theorem Keep.trans {pot : Option Addr} {H H1 H2 : Hp} (a : Keep pot H H1) (b : Keep pot H1 H2) : Keep pot H H2 := fun c o h n => b c o (a c o h n) n
theorem Keep.new {pot : Option Addr} {H H1 : Hp} {p : Addr} {o : HO} (a : Keep pot H H1) (n : H p = none) : Keep pot H (upd H1 p o) := fun c u h z => by
  rw [upd_ne (L2.ne_of_none h n)]
  exact a c u h z
/-- the addresses that no value touches: the callers' own lists, the frame's own lists -/
def av (B : Addr → Prop) (os : List (Option Addr)) : Addr → Prop := fun a => B a ∨ some a ∈ os
def plus (B : Addr → Prop) (p : Addr) : Addr → Prop := fun a => B a ∨ a = p
/-- a list that nobody changes -/
def FzL (K : PySem.W.Frag) (H : Hp) (a : Addr) (xs : List V) : Prop := (∃ o, H a = some (.frz o (.lst xs))) ∨
  ∃ (o : PySem.Obj) (its : Array PySem.Value) (n : Nat), K.lookup a = some o ∧ o.cls = .type "list" ∧ o.dict = none ∧ o.data = .seq its n ∧ its.size ≤ PySem.sizeLine ∧ L2.Vals xs its.toList
theorem FzL.to {K : PySem.W.Frag} {H H' : Hp} {a : Addr} {xs : List V} (h : FzL K H a xs) (k : ∀ o, H a = some (.frz o (.lst xs)) → H' a = some (.frz o (.lst xs))) : FzL K H' a xs := by
  rcases h with ⟨o, h⟩ | h
  · exact .inl ⟨o, k o h⟩
  · exact .inr h
theorem FzL.sq {K : PySem.W.Frag} {H : Hp} {a : Addr} {xs : List V} (h : FzL K H a xs) : L2.SqL K H a xs := by
  rcases h with h | h
  · exact .inl (.inr h)
  · exact .inr h
structure ERep (K : PySem.W.Frag) (B : Addr → Prop) (pot : Option Addr) (os : List (Option Addr)) (H : Hp) (σ : St) (env : Env) (st : Pt) : Prop where
  bt : ∀ b, B b → ∃ o, H b = some o
  l1 : σ.length = env.length
  l2 : os.length = env.length
  slot : ∀ (i : Nat) (d : D), getE env i = .im d → ∃ x, σ[i]? = some (some x) ∧ Dr K H (av B os) x d
  own : ∀ (i : Nat) (ds : List D), getE env i = .ow ds → ∃ a vs, os[i]? = some (some a) ∧ σ[i]? = some (some (.ref a)) ∧ H a = some (.lst vs) ∧ DrAll K H (av B os) vs ds
  nb : ∀ (i : Nat) (ds : List D), getE env i ≠ .bo ds
  fz : ∀ (i : Nat) (ns : List Int), getE env i = .fz ns → ∃ a, σ[i]? = some (some (.ref a)) ∧ FzL K H a (ns.map V.int)
  ad : ∀ (i : Nat) (a : Addr), os[i]? = some (some a) → ¬ B a ∧ ∃ ds, getE env i = .ow ds
  inj : ∀ (i j : Nat) (a : Addr), os[i]? = some (some a) → os[j]? = some (some a) → i = j
  pt : ∀ i, getE env i = .pt → ∃ p, pot = some p ∧ σ[i]? = some (some (.ref p))
  pot : ∀ p, pot = some p → B p ∧ H p = some (.lst (st.map V.int))
section
variable {K : PySem.W.Frag} {B : Addr → Prop} {pot : Option Addr} {os : List (Option Addr)} {H H1 H2 : Hp} {σ : St} {env : Env} {st st' : Pt}
theorem ERep.own_at (E : ERep K B pot os H σ env st) {a : Addr} (h : some a ∈ os) : ∃ vs, H a = some (.lst vs) := by
  obtain ⟨i, hi, e⟩ := List.getElem_of_mem h
  have e1 : os[i]? = some (some a) := by rw [List.getElem?_eq_getElem hi, e]
  obtain ⟨_, ds, e2⟩ := E.ad i a e1
  obtain ⟨b, vs, e3, _, e4, _⟩ := E.own i ds e2
  rw [e1] at e3
  cases e3
  exact ⟨vs, e4⟩
theorem ERep.off (E : ERep K B pot os H σ env st) {p : Addr} (n : H p = none) : ¬ av B os p := fun h => by
  rcases h with h | h
  · obtain ⟨o, e⟩ := E.bt p h
    rw [n] at e
    cases e
  · obtain ⟨vs, e⟩ := E.own_at h
    rw [n] at e
    cases e
theorem ERep.own_pot (E : ERep K B pot os H σ env st) {a : Addr} (h : some a ∈ os) : pot ≠ some a := fun z => by
  obtain ⟨i, hi, e⟩ := List.getElem_of_mem h
  have e1 : os[i]? = some (some a) := by rw [List.getElem?_eq_getElem hi, e]
  exact (E.ad i a e1).1 (E.pot a z).1
/-- what is kept -/
theorem ERep.keep (E : ERep K B pot os H σ env st) (k : ∀ b o, H b = some o → pot ≠ some b → H1 b = some o) (kp : ∀ p, pot = some p → H1 p = some (.lst (st'.map V.int))) : ERep K B pot os H1 σ env st' := by
  have kk : ∀ b o, H b = some o → ¬ av B os b → H1 b = some o ∧ ¬ av B os b := fun b o h n => ⟨k b o h fun z => n (.inl (E.pot b z).1), n⟩
  refine ⟨fun b hb => ?_, E.l1, E.l2, fun i d e => ?_, fun i ds e => ?_, E.nb, fun i ns e => ?_, E.ad, E.inj, E.pt, fun p e => ?_⟩
  case refine_4 =>
    obtain ⟨a, e1, e2⟩ := E.fz i ns e
    refine ⟨a, e1, e2.to fun o q => k a _ q fun z => ?_⟩
    have := (E.pot a z).2
    rw [q] at this
    cases this
  · by_cases z : pot = some b
    · exact ⟨_, kp b z⟩
    · obtain ⟨o, e⟩ := E.bt b hb
      exact ⟨o, k b o e z⟩
  · obtain ⟨x, e1, e2⟩ := E.slot i d e
    exact ⟨x, e1, e2.to kk⟩
  · obtain ⟨a, vs, e1, e2, e3, e4⟩ := E.own i ds e
    exact ⟨a, vs, e1, e2, k a _ e3 (E.own_pot (List.mem_of_getElem? e1)), e4.to kk⟩
  · exact ⟨(E.pot p e).1, kp p e⟩
theorem ERep.ext (E : ERep K B pot os H σ env st) (k : ∀ b o, H b = some o → H1 b = some o) : ERep K B pot os H1 σ env st :=
  E.keep (fun b o h _ => k b o h) fun p e => k _ _ (E.pot p e).2
/-- a new address is avoided -/
theorem ERep.more (E : ERep K B pot os H σ env st) {p : Addr} {o : HO} (k : ∀ b u, H b = some u → H1 b = some u) (n : H p = none) (np : H1 p = some o) : ERep K (plus B p) pot os H1 σ env st := by
  have kk : ∀ b u, H b = some u → ¬ av B os b → H1 b = some u ∧ ¬ av (plus B p) os b := fun b u h z => ⟨k b u h, fun y => by
    rcases y with (y | y) | y
    · exact z (.inl y)
    · exact L2.ne_of_none h n y
    · exact z (.inr y)⟩
  refine ⟨fun b hb => ?_, E.l1, E.l2, fun i d e => ?_, fun i ds e => ?_, E.nb, fun i ns e => ?_, fun i a e => ?_, E.inj, E.pt, fun q e => ?_⟩
  case refine_4 =>
    obtain ⟨a, e1, e2⟩ := E.fz i ns e
    exact ⟨a, e1, e2.to fun o q => k _ _ q⟩
  · rcases hb with hb | rfl
    · obtain ⟨u, e⟩ := E.bt b hb
      exact ⟨u, k b u e⟩
    · exact ⟨_, np⟩
  · obtain ⟨x, e1, e2⟩ := E.slot i d e
    exact ⟨x, e1, e2.to kk⟩
  · obtain ⟨a, vs, e1, e2, e3, e4⟩ := E.own i ds e
    exact ⟨a, vs, e1, e2, k _ _ e3, e4.to kk⟩
  · obtain ⟨e1, ds, e2⟩ := E.ad i a e
    refine ⟨fun z => ?_, ds, e2⟩
    rcases z with z | z
    · exact e1 z
    · obtain ⟨vs, e3⟩ := E.own_at (List.mem_of_getElem? e)
      exact L2.ne_of_none e3 n z
  · obtain ⟨e3, e4⟩ := E.pot q e
    exact ⟨.inl e3, k _ _ e4⟩
/-- fewer addresses are avoided -/
theorem ERep.less {B' : Addr → Prop} (E : ERep K B' pot os H σ env st) (h : ∀ b, B b → B' b) (hp : ∀ p, pot = some p → B p) : ERep K B pot os H σ env st := by
  have kk : ∀ b o, H b = some o → ¬ av B' os b → H b = some o ∧ ¬ av B os b := fun b o e z => ⟨e, fun y => z (by
    rcases y with y | y
    · exact .inl (h b y)
    · exact .inr y)⟩
  refine ⟨fun b hb => E.bt b (h b hb), E.l1, E.l2, fun i d e => ?_, fun i ds e => ?_, E.nb, E.fz, fun i a e => ?_, E.inj, E.pt, fun q e => ?_⟩
  · obtain ⟨x, e1, e2⟩ := E.slot i d e
    exact ⟨x, e1, e2.to kk⟩
  · obtain ⟨a, vs, e1, e2, e3, e4⟩ := E.own i ds e
    exact ⟨a, vs, e1, e2, e3, e4.to kk⟩
  · obtain ⟨e1, ds, e2⟩ := E.ad i a e
    exact ⟨fun z => e1 (h a z), ds, e2⟩
  · exact ⟨hp q e, (E.pot q e).2⟩
end
/-- what holds of an expression's value: H ahead, H' behind -/
def EPost (K : PySem.W.Frag) (B : Addr → Prop) (pot : Option Addr) (os : List (Option Addr)) (H H' : Hp) (σ : St) (env : Env) (st : Pt) (v : V) : EV → Prop
  | .im d => ERep K B pot os H' σ env st ∧ Dr K H' (av B os) v d
  | .ow ds => ∃ p vs, v = .ref p ∧ H p = none ∧ ERep K (plus B p) pot os H' σ env st ∧ H' p = some (.lst vs) ∧ DrAll K H' (av (plus B p) os) vs ds
  | .bo ds => ERep K B pot os H' σ env st ∧ ∃ a vs, v = .ref a ∧ pot ≠ some a ∧ H' a = some (.lst vs) ∧ DrAll K H' (av B os) vs ds
  | _ => False
def tM (K : PySem.W.Frag) (m : ME) : TE := fun σ H Q => ∃ B pot os env st, ERep K B pot os H σ env st ∧ ∃ e st', m env st = .ok (e, st') ∧ ∀ v H', Keep pot H H' → EPost K B pot os H H' σ env st' v e → Q v H'
/-- a value that is looked at -/
def Vw (K : PySem.W.Frag) (H : Hp) (A : Addr → Prop) (pot : Option Addr) (v : V) (d : D) : Prop := Dr K H A v d ∨ ∃ a vs ds, v = .ref a ∧ d = .list ds ∧ pot ≠ some a ∧ H a = some (.lst vs) ∧ DrAll K H A vs ds
section
variable {K : PySem.W.Frag} {B : Addr → Prop} {pot : Option Addr} {os : List (Option Addr)} {H H1 H2 : Hp} {σ : St} {env : Env} {st st' : Pt} {v : V} {e : EV} {d : D}
theorem ERep.offp (E : ERep K B pot os H σ env st) {p : Addr} (n : H p = none) : ¬ B p ∧ ¬ some p ∈ os := ⟨fun z => E.off n (.inl z), fun z => E.off n (.inr z)⟩
/-- kept: the context with the new list's address, or without -/
theorem EPost.val (E : ERep K B pot os H σ env st) (h : EPost K B pot os H H1 σ env st' v e) (hv : e.val = .ok d) : ERep K B pot os H1 σ env st' ∧ Dr K H1 (av B os) v d := by
  cases e with
  | no => cases hv
  | pt => cases hv
  | fz _ => cases hv
  | bo _ => cases hv
  | im x =>
    cases hv
    exact h
  | ow ds =>
    cases hv
    obtain ⟨p, vs, rfl, n, E1, e1, e2⟩ := h
    have E2 : ERep K B pot os H1 σ env st' := E1.less (fun b z => .inl z) fun q z => (E.pot q z).1
    refine ⟨E2, .lst (E.off n) e1 (e2.to fun b o h z => ⟨h, fun y => z ?_⟩)⟩
    rcases y with y | y
    · exact .inl (.inl y)
    · exact .inr y
theorem EPost.view (E : ERep K B pot os H σ env st) (h : EPost K B pot os H H1 σ env st' v e) (hv : e.view = .ok d) : ERep K B pot os H1 σ env st' ∧ Vw K H1 (av B os) pot v d := by
  cases e with
  | no => cases hv
  | pt => cases hv
  | fz _ => cases hv
  | bo _ =>
    cases hv
    obtain ⟨E1, a, vs, e1, e2, e3, e4⟩ := h
    exact ⟨E1, .inr ⟨a, vs, _, e1, rfl, e2, e3, e4⟩⟩
  | im x =>
    obtain ⟨E1, q⟩ := EPost.val E h hv
    exact ⟨E1, .inl q⟩
  | ow ds =>
    obtain ⟨E1, q⟩ := EPost.val E h hv
    exact ⟨E1, .inl q⟩
theorem Dr.keep (E : ERep K B pot os H σ env st) (k : Keep pot H H1) (h : Dr K H (av B os) v d) : Dr K H1 (av B os) v d :=
  h.to fun b o e n => ⟨k b o e fun z => n (.inl (E.pot b z).1), n⟩
theorem DrAll.keep {vs : List V} {ds : List D} (E : ERep K B pot os H σ env st) (k : Keep pot H H1) (h : DrAll K H (av B os) vs ds) : DrAll K H1 (av B os) vs ds :=
  h.to fun b o e n => ⟨k b o e fun z => n (.inl (E.pot b z).1), n⟩
theorem Vw.keep (E : ERep K B pot os H σ env st) (k : Keep pot H H1) (h : Vw K H (av B os) pot v d) : Vw K H1 (av B os) pot v d := by
  rcases h with h | ⟨a, vs, ds, e1, e2, e3, e4, e5⟩
  · exact .inl (h.keep E k)
  · exact .inr ⟨a, vs, ds, e1, e2, e3, k _ _ e4 e3, e5.keep E k⟩
end
/-- a stronger reading is as good -/
theorem PE_imp {X : Cx} {e : PySem.Expr} {t t' : TE} (h : PE X e t) (k : ∀ σ H Q, t' σ H Q → t σ H Q) : PE X e t' := ⟨fun pins s σ H Q I q => h.run pins s σ H Q I (k σ H Q q)⟩
theorem PT_imp {X : Cx} {e : PySem.Expr} {t t' : TT} (h : PT X e t) (k : ∀ σ H Q, t' σ H Q → t σ H Q) : PT X e t' := ⟨fun pins s σ H Q I q => h.run pins s σ H Q I (k σ H Q q)⟩
theorem PW_imp {X : Cx} {e : PySem.Expr} {t t' : TT} (h : PW X e t) (k : ∀ σ H Q, t' σ H Q → t σ H Q) : PW X e t' := ⟨fun w pins s σ H Q I q => h.run w pins s σ H Q I (k σ H Q q)⟩
theorem PA_imp {X : Cx} {e : List PySem.Expr} {t t' : TA} (h : PA X e t) (k : ∀ σ H Q, t' σ H Q → t σ H Q) : PA X e t' := ⟨fun pos pins s σ H Q I q => h.run pos pins s σ H Q I (k σ H Q q)⟩
theorem PS_imp {X : Cx} {e : PySem.Stmt} {t t' : TS} (h : PS X e t) (k : ∀ D σ H, t' D σ H → t D σ H) : PS X e t' := ⟨fun pins s σ H D I q => h.run pins s σ H D I (k D σ H q)⟩
theorem PSs_imp {X : Cx} {e : List PySem.Stmt} {t t' : TS} (h : PSs X e t) (k : ∀ D σ H, t' D σ H → t D σ H) : PSs X e t' := ⟨fun pins s σ H D I q => h.run pins s σ H D I (k D σ H q)⟩
theorem PI_imp {X : Cx} {tg iter : PySem.Expr} {t t' : TI} (h : PI X tg iter t) (k : ∀ σ H R, t' σ H R → t σ H R) : PI X tg iter t' := ⟨fun pins s σ H R I q => h.run pins s σ H R I (k σ H R q)⟩
end BP

namespace BP
open L2 (V Hp HO St TE TT TA TS TG TI It Ends Cx PE PT PW PA PS PSs PG PI Inv upd upd_same upd_ne OpR UnR CallR Same)
section
variable {K : PySem.W.Frag} {H H' : Hp} {A : Addr → Prop} {pot : Option Addr} {x : V}
theorem Vw.int {i : Int} (h : Vw K H A pot x (.int i)) : x = .int i := by
  rcases h with h | ⟨_, _, _, _, e, _⟩
  · cases h; rfl
  · cases e
theorem Vw.bool {b : Bool} (h : Vw K H A pot x (.bool b)) : x = .bl b := by
  rcases h with h | ⟨_, _, _, _, e, _⟩
  · cases h; rfl
  · cases e
theorem Vw.none (h : Vw K H A pot x .none) : x = .non := by
  rcases h with h | ⟨_, _, _, _, e, _⟩
  · cases h; rfl
  · cases e
theorem Vw.str {z : PySem.Str} (h : Vw K H A pot x (.str z)) : x = .str z := by
  rcases h with h | ⟨_, _, _, _, e, _⟩
  · cases h; rfl
  · cases e
theorem Vw.list {ds : List D} (h : Vw K H A pot x (.list ds)) : ∃ a vs, x = .ref a ∧ H a = some (.lst vs) ∧ DrAll K H A vs ds := by
  rcases h with h | ⟨a, vs, es, e1, e, _, e2, e3⟩
  · cases h with
    | lst h1 h2 h3 => exact ⟨_, _, rfl, h2, h3⟩
  · cases e
    exact ⟨a, vs, e1, e2, e3⟩
theorem Vw.tup {ds : List D} (h : Vw K H A pot x (.tuple ds)) : Dr K H A x (.tuple ds) ∧ ∃ a vs, x = .ref a ∧ L2.SqT K H a vs ∧ DrAll K H A vs ds := by
  rcases h with h | ⟨_, _, _, _, e, _⟩
  · refine ⟨h, ?_⟩
    cases h with
    | tup h1 h2 =>
      rcases h1 with h1 | h1
      · exact ⟨_, _, rfl, .inl (.inl h1.2), h2⟩
      · exact ⟨_, _, rfl, .inr h1, h2⟩
  · cases e
theorem Same.new {p : Addr} {o : HO} (n : H p = none) : Same H (upd H p o) := fun b u e => by
  rw [upd_ne (L2.ne_of_none e n)]
  exact e
theorem DrAll.new {vs : List V} {ds : List D} {p : Addr} {o : HO} (n : H p = none) (h : DrAll K H A vs ds) : DrAll K (upd H p o) (plus A p) vs ds :=
  h.to fun b u e z => ⟨Same.new n b u e, fun y => by
    rcases y with y | y
    · exact z y
    · exact L2.ne_of_none e n y⟩
end
def ZPost (K : PySem.W.Frag) (A : Addr → Prop) (H H' : Hp) (v : V) : EV → Prop
  | .im d => Dr K H' A v d
  | .ow ds => ∃ p vs, v = .ref p ∧ H p = none ∧ H' p = some (.lst vs) ∧ DrAll K H' (plus A p) vs ds
  | _ => False
section
variable {K : PySem.W.Frag} {H : Hp} {A : Addr → Prop} {pot : Option Addr} {x : V}
theorem z_int {i : Int} : ZPost K A H H (.int i) (.im (.int i)) := .int i
theorem z_bl {b : Bool} : ZPost K A H H (.bl b) (.im (.bool b)) := .bl b
theorem z_lst {p : Addr} {vs : List V} {ds : List D} (n : H p = none) (h : DrAll K H A vs ds) : ZPost K A H (upd H p (.lst vs)) (.ref p) (.ow ds) := ⟨p, vs, rfl, n, upd_same, h.new n⟩
theorem z_tup {p : Addr} {vs : List V} {ds : List D} (t : ∀ a, A a → ∃ o, H a = some o) (n : H p = none) (h : DrAll K H A vs ds) : ZPost K A H (upd H p (.tup vs)) (.ref p) (.im (.tuple ds)) :=
  .tup (.inl ⟨(fun z => by
    obtain ⟨o, e⟩ := t p z
    rw [n] at e
    cases e), upd_same⟩) (h.to fun b u e z => ⟨Same.new n b u e, z⟩)
end
/-- g does on values what f does on trees -/
def OpM (X : Cx) (g : PySem.Value → PySem.Value → PySem.Sem PySem.Value) (f : O2) : Prop := ∃ r, OpR X g r ∧
  ∀ (A : Addr → Prop) (pot : Option Addr) (H : Hp) (x y : V) (dx dy : D) (z : EV), (∀ a, A a → ∃ o, H a = some o) → Vw X.K H A pot x dx → Vw X.K H A pot y dy → f dx dy = .ok z →
    ∀ Q : L2.VK, (∀ v H', Same H H' → ZPost X.K A H H' v z → Q v H') → r x y H Q
def UnM (X : Cx) (g : PySem.Value → PySem.Sem PySem.Value) (f : O1) : Prop := ∃ r, UnR X g r ∧
  ∀ (A : Addr → Prop) (pot : Option Addr) (H : Hp) (x : V) (dx : D) (z : EV), (∀ a, A a → ∃ o, H a = some o) → Vw X.K H A pot x dx → f dx = .ok z →
    ∀ Q : L2.VK, (∀ v H', Same H H' → ZPost X.K A H H' v z → Q v H') → r x H Q
section
variable {X : Cx}
theorem om_add : OpM X (PySem.binaryOp .Add) oAdd := by
  refine ⟨_, L2.OpR.or L2.op_add (L2.OpR.or L2.op_cat (L2.OpR.or L2.op_catA L2.op_add_str)), fun A pot H x y dx dy z t hx hy e Q q => ?_⟩
  unfold oAdd at e
  split at e
  · cases e
    cases hx.int; cases hy.int
    exact .inl ⟨_, _, rfl, rfl, q _ _ (L2.Same.refl H) z_int⟩
  · split at e
    · rename_i hl
      cases e
      obtain ⟨a, vs, rfl, h1, h2⟩ := hx.list
      obtain ⟨b, us, rfl, h3, h4⟩ := hy.list
      refine .inr (.inl ⟨a, b, vs, us, rfl, rfl, h1, h3, ?_, fun p n => q _ _ (Same.new n) (z_lst n (h2.append h4))⟩)
      rw [h2.length, h4.length]
      exact Nat.le_trans hl (by decide)
    · cases e
  · split at e
    · rename_i hl
      cases e
      obtain ⟨d1, a, vs, rfl, h1, h2⟩ := hx.tup
      obtain ⟨d2, b, us, rfl, h3, h4⟩ := hy.tup
      refine .inr (.inr (.inl ⟨a, b, vs, us, rfl, rfl, h1, h3, ?_, fun e => ?_, fun _ e => ?_, fun _ _ p n => q _ _ (Same.new n) (z_tup t n (h2.append h4))⟩))
      · rw [h2.length, h4.length]
        exact Nat.le_trans hl (by decide)
      · subst e
        cases h2
        exact q _ _ (L2.Same.refl H) d2
      · subst e
        cases h4
        refine q _ _ (L2.Same.refl H) ?_
        show Dr _ _ _ _ _
        rw [List.append_nil]
        exact d1
    · cases e
  · split at e
    · rename_i hl
      cases e
      cases hx.str; cases hy.str
      exact .inr (.inr (.inr ⟨_, _, rfl, rfl, Nat.le_trans hl (by decide), q _ _ (L2.Same.refl H) (.str _)⟩))
    · cases e
  · cases e
theorem om_sub : OpM X (PySem.binaryOp .Sub) oSub := by
  refine ⟨_, L2.op_sub, fun A pot H x y dx dy z t hx hy e Q q => ?_⟩
  unfold oSub at e
  split at e
  · cases e
    cases hx.int; cases hy.int
    exact ⟨_, _, rfl, rfl, q _ _ (L2.Same.refl H) z_int⟩
  · cases e
theorem mulOk_ok {i j : Int} (h : mulOk i j = true) : PySem.IntMulOk i j := by
  have h3 : i.natAbs.log2 + j.natAbs.log2 < 100000000 := of_decide_eq_true h
  have b : ∀ x : Int, PySem.Builtin.Int.intBits x ≤ x.natAbs.log2 + 1 := fun x => by
    unfold PySem.Builtin.Int.intBits
    split <;> omega
  have h1 := b i
  have h2 := b j
  have e : PySem.bitsLine = 134217728 := by decide
  unfold PySem.IntMulOk
  intro z
  rw [Bool.and_eq_true] at z
  have z2 := z.2
  unfold PySem.Builtin.Int.intTooBig at z2
  have z3 := of_decide_eq_true z2
  rw [e] at z3
  omega
theorem op_mulX : OpR X (PySem.binaryOp .Mult) (L2.rI (fun i j => mulOk i j = true) fun i j => .int (i * j)) := L2.opI fun _ _ _ _ _ _ _ hc q => PyProof.Rows.mul_int q (mulOk_ok hc)
theorem om_mul : OpM X (PySem.binaryOp .Mult) oMul := by
  refine ⟨_, L2.OpR.or op_mulX (L2.OpR.or L2.op_rep L2.op_repT), fun A pot H x y dx dy z t hx hy e Q q => ?_⟩
  unfold oMul at e
  split at e
  · split at e
    · rename_i hl
      cases e
      cases hx.int; cases hy.int
      exact .inl ⟨_, _, rfl, rfl, hl, q _ _ (L2.Same.refl H) z_int⟩
    · cases e
  · split at e
    · rename_i hl
      cases e
      obtain ⟨h5, h6, h7⟩ := hl
      obtain ⟨a, vs, rfl, h1, h2⟩ := hx.list
      cases hy.int
      have l : LIM = 1000000 := rfl
      refine .inr (.inl ⟨a, _, vs, rfl, rfl, h1, ?_, ?_, ?_, fun p n => q _ _ (Same.new n) (z_lst n (h2.rep _))⟩)
      · rw [l] at h7; omega
      · rw [l] at h6; omega
      · rw [h2.length]
        exact Nat.le_trans h5 (by decide)
    · cases e
  · split at e
    · rename_i hl
      cases e
      obtain ⟨h5, h6, h7, h8⟩ := hl
      obtain ⟨d1, a, vs, rfl, h1, h2⟩ := hx.tup
      cases hy.int
      refine .inr (.inr ⟨a, _, vs, rfl, rfl, h1, ?_, h6, h7, ?_, fun p n => q _ _ (Same.new n) (z_tup t n (h2.rep _))⟩)
      · intro z
        subst z
        cases h2
        exact h5 rfl
      · rw [h2.length]
        exact h8
    · cases e
  · cases e
theorem op_fdivX : OpR X (PySem.binaryOp .FloorDiv) (L2.rI (fun i j => j ≠ 0 ∧ PySem.Builtin.divisionGoesByPylong i j = false) fun i j => .int (i.fdiv j)) :=
  L2.opI fun _ _ _ _ _ _ _ hc q => PyProof.Rows.floordiv_int hc.1 q (.inl hc.2)
theorem om_div : OpM X (PySem.binaryOp .FloorDiv) oDiv := by
  refine ⟨_, op_fdivX, fun A pot H x y dx dy z t hx hy e Q q => ?_⟩
  unfold oDiv at e
  split at e
  · split at e
    · cases e
    · rename_i hl
      cases e
      cases hx.int; cases hy.int
      exact ⟨_, _, rfl, rfl, ⟨fun z => hl (.inl z), by simpa using fun z => hl (.inr z)⟩, q _ _ (L2.Same.refl H) z_int⟩
  · cases e
theorem om_mod : OpM X (PySem.binaryOp .Mod) oMod := by
  refine ⟨_, L2.op_modN, fun A pot H x y dx dy z t hx hy e Q q => ?_⟩
  unfold oMod at e
  split at e
  · split at e
    · cases e
    · rename_i hl
      cases e
      cases hx.int; cases hy.int
      exact ⟨_, _, rfl, rfl, hl, q _ _ (L2.Same.refl H) z_int⟩
  · cases e
theorem om_pow : OpM X (PySem.binaryOp .Pow) oPow := by
  refine ⟨_, L2.op_pow, fun A pot H x y dx dy z t hx hy e Q q => ?_⟩
  unfold oPow at e
  split at e
  · split at e
    · rename_i hl
      cases e
      cases hx.int; cases hy.int
      exact ⟨_, _, rfl, rfl, hl, q _ _ (L2.Same.refl H) z_int⟩
    · cases e
  · cases e
theorem om_lt : OpM X (PySem.compareOp .Lt) oLt := by
  refine ⟨_, L2.op_lt, fun A pot H x y dx dy z t hx hy e Q q => ?_⟩
  unfold oLt at e
  split at e
  · cases e
    cases hx.int; cases hy.int
    exact ⟨_, _, rfl, rfl, q _ _ (L2.Same.refl H) z_bl⟩
  · cases e
theorem om_le : OpM X (PySem.compareOp .LtE) oLe := by
  refine ⟨_, L2.op_le, fun A pot H x y dx dy z t hx hy e Q q => ?_⟩
  unfold oLe at e
  split at e
  · cases e
    cases hx.int; cases hy.int
    exact ⟨_, _, rfl, rfl, q _ _ (L2.Same.refl H) z_bl⟩
  · cases e
theorem om_gt : OpM X (PySem.compareOp .Gt) oGt := by
  refine ⟨_, L2.op_gt, fun A pot H x y dx dy z t hx hy e Q q => ?_⟩
  unfold oGt at e
  split at e
  · cases e
    cases hx.int; cases hy.int
    exact ⟨_, _, rfl, rfl, q _ _ (L2.Same.refl H) z_bl⟩
  · cases e
theorem om_ge : OpM X (PySem.compareOp .GtE) oGe := by
  refine ⟨_, L2.op_ge, fun A pot H x y dx dy z t hx hy e Q q => ?_⟩
  unfold oGe at e
  split at e
  · cases e
    cases hx.int; cases hy.int
    exact ⟨_, _, rfl, rfl, q _ _ (L2.Same.refl H) z_bl⟩
  · cases e
mutual
theorem Dr.dp {K : PySem.W.Frag} {H : Hp} {A : Addr → Prop} : ∀ {d : D} {v : V}, d.canLay0 = true → Dr K H A v d → L2.Dp K H v d
  | .none, _, _, .non => .non
  | .bool _, _, _, .bl b => .bl b
  | .int _, _, _, .int b => .int b
  | .str _, _, _, .str b => .str b
  | .list ds, _, c, .lst _ h2 h3 => .lst (.inl (.inl h2)) (DrAll.dp (show PySem.PyData.canLayAll0 ds = true from by simpa [PySem.PyData.canLay0] using c) h3)
  | .tuple ds, _, c, .tup (.inl h) h3 => .tup (.inl (.inl h.2)) (DrAll.dp (show PySem.PyData.canLayAll0 ds = true from by simpa [PySem.PyData.canLay0] using c) h3)
  | .tuple ds, _, c, .tup (.inr h) h3 => .tup (.inr h) (DrAll.dp (show PySem.PyData.canLayAll0 ds = true from by simpa [PySem.PyData.canLay0] using c) h3)
  | .dict _, _, c, _ => by simp [PySem.PyData.canLay0] at c
theorem DrAll.dp {K : PySem.W.Frag} {H : Hp} {A : Addr → Prop} : ∀ {ds : List D} {vs : List V}, PySem.PyData.canLayAll0 ds = true → DrAll K H A vs ds → L2.DpAll K H vs ds
  | [], _, _, .nil => .nil
  | d :: ds, _, c, .cons h t => by
    have c2 : d.canLay0 = true ∧ PySem.PyData.canLayAll0 ds = true := by simpa [PySem.PyData.canLayAll0] using c
    exact .cons (Dr.dp c2.1 h) (DrAll.dp c2.2 t)
end
theorem Vw.dp {K : PySem.W.Frag} {H : Hp} {A : Addr → Prop} {pot : Option Addr} {d : D} {v : V} (c : PySem.SeqAt.shaped d = true) (h : Vw K H A pot v d) : L2.Dp K H v d := by
  have c1 := PySem.SeqAt.canLay_of_shaped c
  rcases h with h | ⟨a, vs, ds, rfl, rfl, _, h1, h2⟩
  · exact h.dp c1
  · exact .lst (.inl (.inl h1)) (DrAll.dp (show PySem.PyData.canLayAll0 ds = true from by simpa [PySem.PyData.canLay0] using c1) h2)
theorem om_eq (hu : X.A.units + 64 < PySem.cLine) : OpM X (PySem.compareOp .Eq) oEq := by
  refine ⟨_, L2.OpR.or (L2.op_eqD hu) L2.op_eq, fun A pot H x y dx dy z t hx hy e Q q => ?_⟩
  unfold oEq at e
  split at e
  · rename_i hl
    rw [Bool.and_eq_true] at hl
    cases e
    exact .inl ⟨dx, dy, hx.dp hl.1, hy.dp hl.2, hl.1, hl.2, q _ _ (L2.Same.refl H) z_bl⟩
  · unfold oEqS at e
    split at e
    · cases e
      cases hx.str
      cases hy.str
      refine .inr ⟨rfl, ?_⟩
      rw [L2.dec_str]
      exact q _ _ (L2.Same.refl H) z_bl
    · cases e
theorem om_ne (hu : X.A.units + 64 < PySem.cLine) : OpM X (PySem.compareOp .NotEq) oNe := by
  refine ⟨_, L2.OpR.or (L2.op_neD hu) L2.op_ne, fun A pot H x y dx dy z t hx hy e Q q => ?_⟩
  unfold oNe at e
  split at e
  · rename_i hl
    rw [Bool.and_eq_true] at hl
    cases e
    exact .inl ⟨dx, dy, hx.dp hl.1, hy.dp hl.2, hl.1, hl.2, q _ _ (L2.Same.refl H) z_bl⟩
  · unfold oNeS at e
    split at e
    · cases e
      cases hx.str
      cases hy.str
      refine .inr ⟨rfl, ?_⟩
      rw [L2.dec_str]
      exact q _ _ (L2.Same.refl H) z_bl
    · cases e
theorem om_is : OpM X (PySem.compareOp .Is) oIs := by
  refine ⟨_, L2.OpR.or L2.op_isN L2.op_isBl, fun A pot H x y dx dy z t hx hy e Q q => ?_⟩
  unfold oIs at e
  split at e
  · cases e
    cases hx.none; cases hy.none
    exact .inl ⟨rfl, q _ _ (L2.Same.refl H) z_bl⟩
  · cases e
    cases hx.bool; cases hy.bool
    exact .inr ⟨_, _, rfl, rfl, q _ _ (L2.Same.refl H) (by rw [Bool.beq_eq_decide_eq]; exact z_bl)⟩
  · rename_i h1
    cases e
    cases hy.none
    refine .inl ⟨rfl, q _ _ (L2.Same.refl H) ?_⟩
    have : ¬ x = .non := fun z => by
      subst z
      rcases hx with h | ⟨_, _, _, z, _⟩
      · cases h
        exact h1 rfl
      · cases z
    rw [decide_eq_false this]
    exact z_bl
  · cases e
theorem om_isN : OpM X (PySem.compareOp .IsNot) oIsN := by
  refine ⟨_, L2.OpR.or L2.op_notN L2.op_notBl, fun A pot H x y dx dy z t hx hy e Q q => ?_⟩
  unfold oIsN at e
  split at e
  · cases e
    cases hx.none; cases hy.none
    exact .inl ⟨rfl, q _ _ (L2.Same.refl H) z_bl⟩
  · cases e
    cases hx.bool; cases hy.bool
    exact .inr ⟨_, _, rfl, rfl, q _ _ (L2.Same.refl H) (by rw [Bool.beq_eq_decide_eq]; exact z_bl)⟩
  · rename_i h1
    cases e
    cases hy.none
    refine .inl ⟨rfl, q _ _ (L2.Same.refl H) ?_⟩
    have : ¬ x = .non := fun z => by
      subst z
      rcases hx with h | ⟨_, _, _, z, _⟩
      · cases h
        exact h1 rfl
      · cases z
    rw [decide_eq_false this]
    exact z_bl
  · cases e
theorem um_neg : UnM X (PySem.unaryOp .USub) oNeg := by
  refine ⟨_, L2.un_neg, fun A pot H x dx z t hx e Q q => ?_⟩
  unfold oNeg at e
  split at e
  · cases e
    cases hx.int
    exact ⟨_, rfl, q _ _ (L2.Same.refl H) z_int⟩
  · cases e
end
end BP

namespace BP
open L2 (V Hp HO St TE TT TA TS TG TI It Ends Cx PE PT PW PA PS PSs PG PI Inv upd upd_same upd_ne OpR UnR CallR Same)
section
variable {K : PySem.W.Frag} {B : Addr → Prop} {pot : Option Addr} {os : List (Option Addr)} {H H1 H2 H' : Hp} {σ : St} {env : Env} {st st' : Pt} {v : V} {e : EV} {d : D}
theorem ERep.tr (E : ERep K B pot os H σ env st) : ∀ a, av B os a → ∃ o, H a = some o := fun a h => by
  rcases h with h | h
  · exact E.bt a h
  · obtain ⟨vs, e⟩ := E.own_at h
    exact ⟨_, e⟩
theorem ERep.back (E2 : ERep K B pot os H1 σ env st') (k : Keep pot H H1) {p : Addr} (n : H1 p = none) : H p = none := by
  cases q : H p with
  | none => rfl
  | some o =>
    by_cases z : pot = some p
    · have e := (E2.pot p z).2
      rw [n] at e
      cases e
    · have e := k p o q z
      rw [n] at e
      cases e
theorem EPost.of (E2 : ERep K B pot os H1 σ env st') (k : Keep pot H H1) (s : Same H1 H') (z : ZPost K (av B os) H1 H' v e) : Keep pot H H' ∧ EPost K B pot os H H' σ env st' v e := by
  refine ⟨fun b o h n => s b o (k b o h n), ?_⟩
  cases e with
  | no => exact z.elim
  | pt => exact z.elim
  | fz _ => exact z.elim
  | bo _ => exact z.elim
  | im d => exact ⟨E2.ext s, z⟩
  | ow ds =>
    obtain ⟨p, vs, rfl, n, e1, e2⟩ := z
    refine ⟨p, vs, rfl, E2.back k n, E2.more s n e1, e1, e2.to fun b o h y => ⟨h, fun u => y ?_⟩⟩
    rcases u with (u | u) | u
    · exact .inl (.inl u)
    · exact .inr u
    · exact .inl (.inr u)
end
section
variable {X : Cx} {a b c : PySem.Expr} {ma mb mc : ME} {pos : PySem.Pos}
theorem q_var (i : Nat) {x : PySem.Str} {pos : PySem.Pos} (h : PE X (.Name x pos) (L2.tVar i) := by exact L2.pv _) : PE X (.Name x pos) (tM X.K (mVar i)) := by
  refine PE_imp h fun σ H Q ⟨B, pot, os, env, st, E, e, st', hm, hQ⟩ => ?_
  unfold mVar at hm
  split at hm
  · rename_i d hd
    cases hm
    obtain ⟨x, e1, e2⟩ := E.slot _ _ hd
    exact ⟨x, e1, hQ x H Keep.refl ⟨E, e2⟩⟩
  · rename_i ds hd
    cases hm
    obtain ⟨q, vs, e1, e2, e3, e4⟩ := E.own _ _ hd
    exact ⟨.ref q, e2, hQ _ H Keep.refl ⟨E, q, vs, rfl, E.own_pot (List.mem_of_getElem? e1), e3, e4⟩⟩
  · cases hm
theorem q_c {v : V} {d : D} {e : PySem.Expr} (h : PE X e (L2.tC v)) (hd : ∀ H A, Dr X.K H A v d) : PE X e (tM X.K (mC d)) :=
  PE_imp h fun σ H Q ⟨B, pot, os, env, st, E, e, st', hm, hQ⟩ => by
    cases hm
    exact hQ v H Keep.refl ⟨E, hd _ _⟩
theorem q_int {i j pos} : PE X (.Constant (.int i) j pos) (tM X.K (mC (.int i))) := q_c L2.pe_int fun _ _ => .int i
theorem q_bl {i j pos} : PE X (.Constant (.bool i) j pos) (tM X.K (mC (.bool i))) := q_c L2.pe_bl fun _ _ => .bl i
theorem q_non {j pos} : PE X (.Constant .none j pos) (tM X.K (mC .none)) := q_c L2.pe_non fun _ _ => .non
theorem q_str {x j pos} : PE X (.Constant (.str x) j pos) (tM X.K (mC (.str x))) := q_c L2.pe_str fun _ _ => .str x
/-- a module's constant -/
def Kst (K : PySem.W.Frag) (mg : PySem.Str → Option PySem.Value) (x : PySem.Str) (d : D) : Prop := ∃ u v, mg x = some u ∧ L2.RelV v u ∧ ∀ H A, Dr K H A v d
theorem q_kst {x : PySem.Str} {d : D} (hk : Kst X.K X.mg x d) (hg : L2.Gl X x) (hd : (x == ("__debug__" : PySem.Str)) = false := by decide) : PE X (.Name x pos) (tM X.K (mC d)) := by
  obtain ⟨u, v, h1, h2, h3⟩ := hk
  exact q_c (L2.pe_glob hg h1 h2 hd) h3
theorem q_bin {op : PySem.Operator} {f : O2} (ho : OpM X (PySem.binaryOp op) f) (ha : PE X a (tM X.K ma)) (hb : PE X b (tM X.K mb)) : PE X (.BinOp a op b pos) (tM X.K (mBin f ma mb)) := by
  obtain ⟨r, hr, hf⟩ := ho
  refine PE_imp (L2.pe_op hr ha hb) fun σ H Q ⟨B, pot, os, env, st, E, e, st', hm, hQ⟩ => ?_
  obtain ⟨x, ex, hm⟩ := R.bind_ok hm
  obtain ⟨u, eu, hm⟩ := R.bind_ok hm
  obtain ⟨y, ey, hm⟩ := R.bind_ok hm
  obtain ⟨w, ew, hm⟩ := R.bind_ok hm
  obtain ⟨z, ez, hm⟩ := R.bind_ok hm
  cases hm
  refine ⟨B, pot, os, env, st, E, _, _, ex, fun v1 H1 k1 p1 => ?_⟩
  obtain ⟨E1, w1⟩ := p1.view E eu
  refine ⟨B, pot, os, env, _, E1, _, _, ey, fun v2 H2 k2 p2 => ?_⟩
  obtain ⟨E2, w2⟩ := p2.view E1 ew
  refine hf (av B os) pot H2 v1 v2 u w _ E2.tr (w1.keep E1 k2) w2 ez Q fun v H' s zz => ?_
  obtain ⟨k3, q⟩ := EPost.of E2 (k1.trans k2) s zz
  exact hQ v H' k3 q
theorem cmp_imp {f : O2} {r : L2.R2} (hf : ∀ (A : Addr → Prop) (pot : Option Addr) (H : Hp) (x y : V) (dx dy : D) (z : EV), (∀ a, A a → ∃ o, H a = some o) → Vw X.K H A pot x dx → Vw X.K H A pot y dy → f dx dy = .ok z →
    ∀ Q : L2.VK, (∀ v H', Same H H' → ZPost X.K A H H' v z → Q v H') → r x y H Q) : ∀ σ H Q, tM X.K (mBin f ma mb) σ H Q → L2.tOp r (tM X.K ma) (tM X.K mb) σ H Q := fun σ H Q ⟨B, pot, os, env, st, E, e, st', hm, hQ⟩ => by
  obtain ⟨x, ex, hm⟩ := R.bind_ok hm
  obtain ⟨u, eu, hm⟩ := R.bind_ok hm
  obtain ⟨y, ey, hm⟩ := R.bind_ok hm
  obtain ⟨w, ew, hm⟩ := R.bind_ok hm
  obtain ⟨z, ez, hm⟩ := R.bind_ok hm
  cases hm
  refine ⟨B, pot, os, env, st, E, _, _, ex, fun v1 H1 k1 p1 => ?_⟩
  obtain ⟨E1, w1⟩ := p1.view E eu
  refine ⟨B, pot, os, env, _, E1, _, _, ey, fun v2 H2 k2 p2 => ?_⟩
  obtain ⟨E2, w2⟩ := p2.view E1 ew
  refine hf (av B os) pot H2 v1 v2 u w _ E2.tr (w1.keep E1 k2) w2 ez Q fun v H' s zz => ?_
  obtain ⟨k3, q⟩ := EPost.of E2 (k1.trans k2) s zz
  exact hQ v H' k3 q
/-- a test's reading -/
def tMT (K : PySem.W.Frag) (m : ME) : TT := fun σ H Q => ∃ B pot os env st, ERep K B pot os H σ env st ∧ ∃ b st', m env st = .ok (.im (.bool b), st') ∧ ∀ H', Keep pot H H' → ERep K B pot os H' σ env st' → Q b H'
theorem tMT_tM {K : PySem.W.Frag} {m : ME} {σ : St} {H : Hp} {Q : Bool → Hp → Prop} (h : tMT K m σ H Q) : tM K m σ H fun x H1 => ∃ c, x = .bl c ∧ Q c H1 := by
  obtain ⟨B, pot, os, env, st, E, b, st', hm, hQ⟩ := h
  refine ⟨B, pot, os, env, st, E, _, _, hm, fun v H' k p => ?_⟩
  obtain ⟨E1, q⟩ := p
  cases q
  exact ⟨b, rfl, hQ H' k E1⟩
theorem q_cmp {op : PySem.CmpOp} {f : O2} (ho : OpM X (PySem.compareOp op) f) (ha : PE X a (tM X.K ma)) (hb : PE X b (tM X.K mb)) (hm : PySem.behindInMarks op b = false) : PE X (.Compare a [op] [b] pos) (tM X.K (mBin f ma mb)) := by
  obtain ⟨r, hr, hf⟩ := ho
  exact PE_imp (L2.pe_cmpR hr ha hb hm) (cmp_imp hf)
theorem t_cmp {op : PySem.CmpOp} {f : O2} (ho : OpM X (PySem.compareOp op) f) (ha : PE X a (tM X.K ma)) (hb : PE X b (tM X.K mb)) (hm : PySem.behindInMarks op b = false) : PT X (.Compare a [op] [b] pos) (tMT X.K (mBin f ma mb)) := by
  obtain ⟨r, hr, hf⟩ := ho
  exact PT_imp (L2.pt_cmpR hr ha hb hm) fun σ H Q h => cmp_imp hf _ _ _ (tMT_tM h)
theorem chain_imp {f g : O2} {r r' : L2.R2} (hf : ∀ (A : Addr → Prop) (pot : Option Addr) (H : Hp) (x y : V) (dx dy : D) (z : EV), (∀ a, A a → ∃ o, H a = some o) → Vw X.K H A pot x dx → Vw X.K H A pot y dy → f dx dy = .ok z →
    ∀ Q : L2.VK, (∀ v H', Same H H' → ZPost X.K A H H' v z → Q v H') → r x y H Q) (hg : ∀ (A : Addr → Prop) (pot : Option Addr) (H : Hp) (x y : V) (dx dy : D) (z : EV), (∀ a, A a → ∃ o, H a = some o) → Vw X.K H A pot x dx → Vw X.K H A pot y dy → g dx dy = .ok z →
    ∀ Q : L2.VK, (∀ v H', Same H H' → ZPost X.K A H H' v z → Q v H') → r' x y H Q) : ∀ σ H Q, tM X.K (mChain f g ma mb mc) σ H Q → L2.tChain r r' (tM X.K ma) (tM X.K mb) (tM X.K mc) σ H Q := fun σ H Q ⟨B, pot, os, env, st, E, e, st', hm, hQ⟩ => by
  obtain ⟨x, ex, hm⟩ := R.bind_ok hm
  obtain ⟨u, eu, hm⟩ := R.bind_ok hm
  obtain ⟨y, ey, hm⟩ := R.bind_ok hm
  obtain ⟨w, ew, hm⟩ := R.bind_ok hm
  obtain ⟨z, ez, hm⟩ := R.bind_ok hm
  refine ⟨B, pot, os, env, st, E, _, _, ex, fun v1 H1 k1 p1 => ?_⟩
  obtain ⟨E1, w1⟩ := p1.view E eu
  refine ⟨B, pot, os, env, _, E1, _, _, ey, fun v2 H2 k2 p2 => ?_⟩
  obtain ⟨E2, w2⟩ := p2.view E1 ew
  refine hf (av B os) pot H2 v1 v2 u w _ E2.tr (w1.keep E1 k2) w2 ez _ fun v H3 s zz => ?_
  have E3 := E2.ext s
  have k3 : Keep pot H H3 := fun b o h n => s b o ((k1.trans k2) b o h n)
  split at hm
  · cases (show Dr _ _ _ v (.bool true) from zz)
    refine ⟨true, rfl, ?_⟩
    refine L2.iteT ?_
    obtain ⟨x3, ex3, hm⟩ := R.bind_ok hm
    obtain ⟨u3, eu3, hm⟩ := R.bind_ok hm
    obtain ⟨q3, eq3, hm⟩ := R.bind_ok hm
    cases hm
    refine ⟨B, pot, os, env, _, E3, _, _, ex3, fun v4 H4 k4 p4 => ?_⟩
    obtain ⟨E4, w4⟩ := p4.view E3 eu3
    have w2' : Vw X.K H4 (av B os) pot v2 w := (w2.keep E2 (fun b o h _ => s b o h)).keep E3 k4
    refine hg (av B os) pot H4 v2 v4 w u3 _ E4.tr w2' w4 eq3 Q fun v H' s zz => ?_
    obtain ⟨k5, q⟩ := EPost.of E4 (k3.trans k4) s zz
    exact hQ v H' k5 q
  · cases hm
    cases (show Dr _ _ _ v (.bool false) from zz)
    refine ⟨false, rfl, ?_⟩
    refine L2.iteF ?_
    exact hQ _ _ k3 ⟨E3, .bl false⟩
  · cases hm
theorem q_chain {op op' : PySem.CmpOp} {f g : O2} (ho : OpM X (PySem.compareOp op) f) (ho' : OpM X (PySem.compareOp op') g) (ha : PE X a (tM X.K ma)) (hb : PE X b (tM X.K mb)) (hc : PE X c (tM X.K mc)) (hm : PySem.lastMarks [op, op'] [b, c] = false := by with_unfolding_all rfl) : PE X (.Compare a [op, op'] [b, c] pos) (tM X.K (mChain f g ma mb mc)) := by
  obtain ⟨r, hr, hf⟩ := ho
  obtain ⟨r', hr', hg⟩ := ho'
  exact PE_imp (L2.pe_chain hr hr' ha hb hc hm) (chain_imp hf hg)
theorem t_chain {op op' : PySem.CmpOp} {f g : O2} (ho : OpM X (PySem.compareOp op) f) (ho' : OpM X (PySem.compareOp op') g) (ha : PE X a (tM X.K ma)) (hb : PE X b (tM X.K mb)) (hc : PE X c (tM X.K mc)) (hm : PySem.lastMarks [op, op'] [b, c] = false := by with_unfolding_all rfl) : PT X (.Compare a [op, op'] [b, c] pos) (tMT X.K (mChain f g ma mb mc)) := by
  obtain ⟨r, hr, hf⟩ := ho
  obtain ⟨r', hr', hg⟩ := ho'
  exact PT_imp (L2.pt_chain hr hr' ha hb hc hm) fun σ H Q h => chain_imp hf hg _ _ _ (tMT_tM h)
theorem q_un {op : PySem.UnaryOp} {f : O1} (ho : UnM X (PySem.unaryOp op) f) (ha : PE X a (tM X.K ma)) : PE X (.UnaryOp op a pos) (tM X.K (mUn f ma)) := by
  obtain ⟨r, hr, hf⟩ := ho
  refine PE_imp (L2.pe_un hr ha) fun σ H Q ⟨B, pot, os, env, st, E, e, st', hm, hQ⟩ => ?_
  obtain ⟨x, ex, hm⟩ := R.bind_ok hm
  obtain ⟨u, eu, hm⟩ := R.bind_ok hm
  obtain ⟨z, ez, hm⟩ := R.bind_ok hm
  cases hm
  refine ⟨B, pot, os, env, st, E, _, _, ex, fun v1 H1 k1 p1 => ?_⟩
  obtain ⟨E1, w1⟩ := p1.view E eu
  refine hf (av B os) pot H1 v1 u _ E1.tr w1 ez Q fun v H' s zz => ?_
  obtain ⟨k3, q⟩ := EPost.of E1 k1 s zz
  exact hQ v H' k3 q
/-- a truth value behind a reading -/
theorem tM_bool {K : PySem.W.Frag} {m : ME} {σ : St} {H : Hp} {Q : L2.VK} {B : Addr → Prop} {pot : Option Addr} {os : List (Option Addr)} {env : Env} {st : Pt} (E : ERep K B pot os H σ env st) {b : Bool} {st' : Pt} (hm : m env st = .ok (.im (.bool b), st'))
    (h : ∀ H', Keep pot H H' → ERep K B pot os H' σ env st' → Q (.bl b) H') : tM K m σ H Q := ⟨B, pot, os, env, st, E, _, _, hm, fun v H' k p => by
  obtain ⟨E1, q⟩ := p
  cases q
  exact h H' k E1⟩
theorem q_not (ha : PE X a (tM X.K ma)) : PE X (.UnaryOp .Not a pos) (tM X.K (mUn oNot ma)) := by
  refine PE_imp (L2.pe_not ha) fun σ H Q ⟨B, pot, os, env, st, E, e, st', hm, hQ⟩ => ?_
  obtain ⟨x, ex, hm⟩ := R.bind_ok hm
  obtain ⟨u, eu, hm⟩ := R.bind_ok hm
  obtain ⟨z, ez, hm⟩ := R.bind_ok hm
  cases hm
  unfold oNot at ez
  split at ez
  · cases ez
    refine ⟨B, pot, os, env, st, E, _, _, ex, fun v H' k p => ?_⟩
    obtain ⟨E1, w⟩ := p.view E eu
    cases w.bool
    exact ⟨_, rfl, hQ _ H' k ⟨E1, .bl _⟩⟩
  · cases ez
theorem q_and1 (h : PE X a (tM X.K ma)) : PE X (.BoolOp .And [a] pos) (tM X.K ma) := L2.pe_one h
theorem q_or1 (h : PE X a (tM X.K ma)) : PE X (.BoolOp .Or [a] pos) (tM X.K ma) := L2.pe_one h
theorem q_and {rest : List PySem.Expr} (ha : PE X a (tM X.K ma)) (hb : PE X (.BoolOp .And (b :: rest) pos) (tM X.K mb)) : PE X (.BoolOp .And (a :: b :: rest) pos) (tM X.K (mAnd ma mb)) := by
  refine PE_imp (L2.pe_and ha hb) fun σ H Q ⟨B, pot, os, env, st, E, e, st', hm, hQ⟩ => ?_
  obtain ⟨x, ex, hm⟩ := R.bind_ok hm
  obtain ⟨x1, x2⟩ := x
  dsimp only at hm
  split at hm
  · refine tM_bool E ex fun H1 k1 E1 => ⟨true, rfl, ?_⟩
    refine L2.iteT ?_
    refine ⟨B, pot, os, env, _, E1, _, _, hm, fun v H' k p => hQ v H' (k1.trans k) ?_⟩
    cases e with
    | no => exact p
    | pt => exact p
    | fz _ => exact p
    | im d => exact p
    | bo ds => exact p
    | ow ds =>
      obtain ⟨p, vs, h1, h2, h3⟩ := p
      exact ⟨p, vs, h1, E1.back k1 h2, h3⟩
  · cases hm
    refine tM_bool E ex fun H1 k1 E1 => ⟨false, rfl, ?_⟩
    refine L2.iteF ?_
    exact hQ _ _ k1 ⟨E1, .bl false⟩
  · cases hm
theorem EPost.back {K : PySem.W.Frag} {B : Addr → Prop} {pot : Option Addr} {os : List (Option Addr)} {H H1 H' : Hp} {σ : St} {env : Env} {st st' : Pt} {v : V} {e : EV} (E1 : ERep K B pot os H1 σ env st) (k : Keep pot H H1) (p : EPost K B pot os H1 H' σ env st' v e) : EPost K B pot os H H' σ env st' v e := by
  cases e with
  | no => exact p
  | pt => exact p
  | fz _ => exact p
  | im d => exact p
  | bo ds => exact p
  | ow ds =>
    obtain ⟨p, vs, h1, h2, h3⟩ := p
    exact ⟨p, vs, h1, E1.back k h2, h3⟩
theorem q_or {rest : List PySem.Expr} (ha : PE X a (tM X.K ma)) (hb : PE X (.BoolOp .Or (b :: rest) pos) (tM X.K mb)) : PE X (.BoolOp .Or (a :: b :: rest) pos) (tM X.K (mOr ma mb)) := by
  refine PE_imp (L2.pe_or ha hb) fun σ H Q ⟨B, pot, os, env, st, E, e, st', hm, hQ⟩ => ?_
  obtain ⟨x, ex, hm⟩ := R.bind_ok hm
  obtain ⟨x1, x2⟩ := x
  dsimp only at hm
  split at hm
  · refine tM_bool E ex fun H1 k1 E1 => ⟨false, rfl, ?_⟩
    refine L2.iteF ?_
    exact ⟨B, pot, os, env, _, E1, _, _, hm, fun v H' k p => hQ v H' (k1.trans k) (p.back E1 k1)⟩
  · cases hm
    refine tM_bool E ex fun H1 k1 E1 => ⟨true, rfl, ?_⟩
    refine L2.iteT ?_
    exact hQ _ _ k1 ⟨E1, .bl true⟩
  · cases hm
theorem q_if {c : PySem.Expr} {mc : ME} (hc : PT X c (tMT X.K mc)) (ha : PE X a (tM X.K ma)) (hb : PE X b (tM X.K mb)) : PE X (.IfExp c a b pos) (tM X.K (mIf mc ma mb)) := by
  refine PE_imp (L2.pe_ifExp hc ha hb) fun σ H Q ⟨B, pot, os, env, st, E, e, st', hm, hQ⟩ => ?_
  obtain ⟨x, ex, hm⟩ := R.bind_ok hm
  obtain ⟨x1, x2⟩ := x
  dsimp only at hm
  split at hm
  · refine ⟨B, pot, os, env, st, E, _, _, ex, fun H1 k1 E1 => ?_⟩
    refine L2.iteT ?_
    exact ⟨B, pot, os, env, _, E1, _, _, hm, fun v H' k p => hQ v H' (k1.trans k) (p.back E1 k1)⟩
  · refine ⟨B, pot, os, env, st, E, _, _, ex, fun H1 k1 E1 => ?_⟩
    refine L2.iteF ?_
    exact ⟨B, pot, os, env, _, E1, _, _, hm, fun v H' k p => hQ v H' (k1.trans k) (p.back E1 k1)⟩
  · cases hm
/-! ### tests -/
theorem t_val (h : PE X a (tM X.K ma)) (he : ∀ whole, PySem.isTrue a X.env whole = (do let v ← whole; PySem.standAt a.pos; PySem.holding [v] (PySem.truthy v)) := by intro _; rfl) : PT X a (tMT X.K ma) :=
  PT_imp (L2.pt_val h he) fun σ H Q h => tMT_tM h
theorem t_not (h : PT X a (tMT X.K ma)) : PT X (.UnaryOp .Not a pos) (tMT X.K (mUn oNot ma)) := by
  refine PT_imp (L2.pt_not h) fun σ H Q ⟨B, pot, os, env, st, E, b, st', hm, hQ⟩ => ?_
  obtain ⟨x, ex, hm⟩ := R.bind_ok hm
  obtain ⟨u, eu, hm⟩ := R.bind_ok hm
  obtain ⟨z, ez, hm⟩ := R.bind_ok hm
  unfold oNot at ez
  split at ez
  · rename_i b'
    cases ez
    cases hm
    obtain ⟨x1, x2⟩ := x
    cases x1 with
    | im d =>
      cases eu
      exact ⟨B, pot, os, env, st, E, _, _, ex, fun H' k E1 => hQ H' k E1⟩
    | no => cases eu
    | pt => cases eu
    | fz _ => cases eu
    | ow _ => cases eu
    | bo _ => cases eu
  · cases ez
theorem w_and1 (h : PT X a (tMT X.K ma)) : PW X (.BoolOp .And [a] pos) (tMT X.K ma) := L2.pw_and1 h
theorem w_or1 (h : PT X a (tMT X.K ma)) : PW X (.BoolOp .Or [a] pos) (tMT X.K ma) := L2.pw_or1 h
theorem w_and {rest : List PySem.Expr} (ha : PT X a (tMT X.K ma)) (hb : PW X (.BoolOp .And (b :: rest) pos) (tMT X.K mb)) : PW X (.BoolOp .And (a :: b :: rest) pos) (tMT X.K (mAnd ma mb)) := by
  refine PW_imp (L2.pw_and ha hb) fun σ H Q ⟨B, pot, os, env, st, E, e, st', hm, hQ⟩ => ?_
  obtain ⟨x, ex, hm⟩ := R.bind_ok hm
  obtain ⟨x1, x2⟩ := x
  dsimp only at hm
  split at hm
  · refine ⟨B, pot, os, env, st, E, _, _, ex, fun H1 k1 E1 => ?_⟩
    refine L2.iteT ?_
    exact ⟨B, pot, os, env, _, E1, _, _, hm, fun H' k p => hQ H' (k1.trans k) p⟩
  · cases hm
    refine ⟨B, pot, os, env, st, E, _, _, ex, fun H1 k1 E1 => ?_⟩
    refine L2.iteF ?_
    exact hQ _ k1 E1
  · cases hm
theorem w_or {rest : List PySem.Expr} (ha : PT X a (tMT X.K ma)) (hb : PW X (.BoolOp .Or (b :: rest) pos) (tMT X.K mb)) : PW X (.BoolOp .Or (a :: b :: rest) pos) (tMT X.K (mOr ma mb)) := by
  refine PW_imp (L2.pw_or ha hb) fun σ H Q ⟨B, pot, os, env, st, E, e, st', hm, hQ⟩ => ?_
  obtain ⟨x, ex, hm⟩ := R.bind_ok hm
  obtain ⟨x1, x2⟩ := x
  dsimp only at hm
  split at hm
  · refine ⟨B, pot, os, env, st, E, _, _, ex, fun H1 k1 E1 => ?_⟩
    refine L2.iteF ?_
    exact ⟨B, pot, os, env, _, E1, _, _, hm, fun H' k p => hQ H' (k1.trans k) p⟩
  · cases hm
    refine ⟨B, pot, os, env, st, E, _, _, ex, fun H1 k1 E1 => ?_⟩
    refine L2.iteT ?_
    exact hQ _ k1 E1
  · cases hm
/-! ### arguments -/
def tAA (K : PySem.W.Frag) (m : MA) : TA := fun σ H Q => ∃ B pot os env st, ERep K B pot os H σ env st ∧ ∃ ds st', m env st = .ok (ds, st') ∧ ∀ vs H', Keep pot H H' → ERep K B pot os H' σ env st' → DrAll K H' (av B os) vs ds → Q vs H'
inductive VwAll (K : PySem.W.Frag) (H : Hp) (A : Addr → Prop) (pot : Option Addr) : List V → List D → Prop
  | nil : VwAll K H A pot [] []
  | cons {v vs d ds} : Vw K H A pot v d → VwAll K H A pot vs ds → VwAll K H A pot (v :: vs) (d :: ds)
def tVA (K : PySem.W.Frag) (m : MA) : TA := fun σ H Q => ∃ B pot os env st, ERep K B pot os H σ env st ∧ ∃ ds st', m env st = .ok (ds, st') ∧ ∀ vs H', Keep pot H H' → ERep K B pot os H' σ env st' → VwAll K H' (av B os) pot vs ds → Q vs H'
theorem a_nil : PA X [] (tAA X.K aNil) := PA_imp L2.pa_nil fun σ H Q ⟨B, pot, os, env, st, E, ds, st', hm, hQ⟩ => by
  cases hm
  exact hQ [] H Keep.refl E .nil
theorem a_cons {es : List PySem.Expr} {ms : MA} (ha : PE X a (tM X.K ma)) (hs : PA X es (tAA X.K ms)) (h0 : PySem.starEach (a :: es) X.env = (false, PySem.eval a X.env) :: PySem.starEach es X.env := by rfl) : PA X (a :: es) (tAA X.K (aCons ma ms)) := by
  refine PA_imp (L2.pa_cons ha hs h0) fun σ H Q ⟨B, pot, os, env, st, E, ds, st', hm, hQ⟩ => ?_
  obtain ⟨x, ex, hm⟩ := R.bind_ok hm
  obtain ⟨u, eu, hm⟩ := R.bind_ok hm
  obtain ⟨y, ey, hm⟩ := R.bind_ok hm
  cases hm
  refine ⟨B, pot, os, env, st, E, _, _, ex, fun v1 H1 k1 p1 => ?_⟩
  obtain ⟨E1, w1⟩ := p1.val E eu
  exact ⟨B, pot, os, env, _, E1, _, _, ey, fun vs H2 k2 E2 w2 => hQ _ H2 (k1.trans k2) E2 (.cons (w1.keep E1 k2) w2)⟩
theorem v_nil : PA X [] (tVA X.K vNil) := PA_imp L2.pa_nil fun σ H Q ⟨B, pot, os, env, st, E, ds, st', hm, hQ⟩ => by
  cases hm
  exact hQ [] H Keep.refl E .nil
theorem v_cons {es : List PySem.Expr} {ms : MA} (ha : PE X a (tM X.K ma)) (hs : PA X es (tVA X.K ms)) (h0 : PySem.starEach (a :: es) X.env = (false, PySem.eval a X.env) :: PySem.starEach es X.env := by rfl) : PA X (a :: es) (tVA X.K (vCons ma ms)) := by
  refine PA_imp (L2.pa_cons ha hs h0) fun σ H Q ⟨B, pot, os, env, st, E, ds, st', hm, hQ⟩ => ?_
  obtain ⟨x, ex, hm⟩ := R.bind_ok hm
  obtain ⟨u, eu, hm⟩ := R.bind_ok hm
  obtain ⟨y, ey, hm⟩ := R.bind_ok hm
  cases hm
  refine ⟨B, pot, os, env, st, E, _, _, ex, fun v1 H1 k1 p1 => ?_⟩
  obtain ⟨E1, w1⟩ := p1.view E eu
  exact ⟨B, pot, os, env, _, E1, _, _, ey, fun vs H2 k2 E2 w2 => hQ _ H2 (k1.trans k2) E2 (.cons (w1.keep E1 k2) w2)⟩
theorem q_tup {es : List PySem.Expr} {ms : MA} {x1 : Nat} (h : PA X es (tAA X.K ms)) : PE X (.Tuple es x1 pos) (tM X.K (mTup ms)) := by
  refine PE_imp (L2.pe_tup h) fun σ H Q ⟨B, pot, os, env, st, E, e, st', hm, hQ⟩ => ?_
  obtain ⟨x, ex, hm⟩ := R.bind_ok hm
  split at hm
  · rename_i hl
    cases hm
    refine ⟨B, pot, os, env, st, E, _, _, ex, fun vs H1 k1 E1 w1 => ⟨?_, fun p n => ?_⟩⟩
    · rw [w1.length]
      exact Nat.le_trans hl (by decide)
    · obtain ⟨k3, q⟩ := EPost.of E1 k1 (Same.new n) (z_tup E1.tr n w1)
      exact hQ _ _ k3 q
  · cases hm
theorem q_lst {es : List PySem.Expr} {ms : MA} (h : PA X es (tAA X.K ms)) : PE X (.List es pos) (tM X.K (mLst ms)) := by
  refine PE_imp (L2.pe_lst h) fun σ H Q ⟨B, pot, os, env, st, E, e, st', hm, hQ⟩ => ?_
  obtain ⟨x, ex, hm⟩ := R.bind_ok hm
  split at hm
  · rename_i hl
    cases hm
    refine ⟨B, pot, os, env, st, E, _, _, ex, fun vs H1 k1 E1 w1 => ⟨?_, fun p n => ?_⟩⟩
    · rw [w1.length]
      exact Nat.le_trans hl (by decide)
    · obtain ⟨k3, q⟩ := EPost.of E1 k1 (Same.new n) (z_lst n w1)
      exact hQ _ _ k3 q
  · cases hm
/-! ### built-ins -/
def CallM (X : Cx) (g : PySem.Value) (f : OB) : Prop := ∃ r, CallR X g r ∧
  ∀ (A : Addr → Prop) (pot : Option Addr) (H : Hp) (xs : List V) (ds : List D) (z : EV), (∀ a, A a → ∃ o, H a = some o) → VwAll X.K H A pot xs ds → f ds = .ok z →
    ∀ Q : L2.VK, (∀ v H', Same H H' → ZPost X.K A H H' v z → Q v H') → r xs H Q
theorem B_imp {f : OB} {r : List V → Hp → L2.VK → Prop} {ms : MA} (hf : ∀ (A : Addr → Prop) (pot : Option Addr) (H : Hp) (xs : List V) (ds : List D) (z : EV), (∀ a, A a → ∃ o, H a = some o) → VwAll X.K H A pot xs ds → f ds = .ok z →
    ∀ Q : L2.VK, (∀ v H', Same H H' → ZPost X.K A H H' v z → Q v H') → r xs H Q) : ∀ σ H Q, tM X.K (mB f ms) σ H Q → L2.tCB r (tVA X.K ms) σ H Q := fun σ H Q ⟨B, pot, os, env, st, E, e, st', hm, hQ⟩ => by
  obtain ⟨x, ex, hm⟩ := R.bind_ok hm
  obtain ⟨z, ez, hm⟩ := R.bind_ok hm
  cases hm
  refine ⟨B, pot, os, env, st, E, _, _, ex, fun vs H1 k1 E1 w1 => ?_⟩
  refine hf (av B os) pot H1 vs _ _ E1.tr w1 ez Q fun v H' s zz => ?_
  obtain ⟨k3, q⟩ := EPost.of E1 k1 s zz
  exact hQ v H' k3 q
theorem q_B {id : String} {x : PySem.Str} {p : PySem.Pos} {f : OB} {ms : MA} {es : List PySem.Expr} (hc : CallM X (.builtin id) f) (hg : L2.Gl X x) (hm : X.mg x = none) (hv : PySem.bootBuiltins x = some (.builtin id)) (ha : PA X (a :: es) (tVA X.K ms))
    (hn : x ≠ "__name__" := by decide) (hd : (x == ("__debug__" : PySem.Str)) = false := by decide) (hs : PySem.starEach (a :: es) X.env = (false, PySem.eval a X.env) :: PySem.starEach es X.env := by rfl)
    (hp : (PySem.backTo pos (PySem.starEach es X.env)).any (·.1) = false := by rfl) : PE X (.Call (.Name x p) (a :: es) [] pos) (tM X.K (mB f ms)) := by
  obtain ⟨r, hr, hf⟩ := hc
  exact PE_imp (L2.pe_callB hr hg hm hv ha hn hd hs hp) (B_imp hf)
theorem q_T {T : String} {x : PySem.Str} {p : PySem.Pos} {f : OB} {ms : MA} {es : List PySem.Expr} (hc : CallM X (.type T) f) (hg : L2.Gl X x) (hm : X.mg x = none) (hv : PySem.bootBuiltins x = some (.type T)) (ha : PA X (a :: es) (tVA X.K ms))
    (hn : x ≠ "__name__" := by decide) (hd : (x == ("__debug__" : PySem.Str)) = false := by decide) (hs : PySem.starEach (a :: es) X.env = (false, PySem.eval a X.env) :: PySem.starEach es X.env := by rfl)
    (hp : (PySem.backTo pos (PySem.starEach es X.env)).any (·.1) = false := by rfl) : PE X (.Call (.Name x p) (a :: es) [] pos) (tM X.K (mB f ms)) := by
  obtain ⟨r, hr, hf⟩ := hc
  exact PE_imp (L2.pe_callTy hr hg hm hv ha hn hd hs hp) (B_imp hf)
end
end BP

namespace BP
open PySem PySem.Spec
open PyProof.Rows
open L2 (V Hp HO TE TT TA TS TG TI It Ends Cx PE PT PW PA PS PSs PG PI Inv upd upd_same upd_ne OpR UnR CallR Same VK XK Sp Room Vals RelV FnScope PK)
/-! ### a def's promise where no repr is under way -/
abbrev Cxe := List PySem.Env → Hp → Shared → XK → Value → Shared → Prop
structure FnG (P : Program) (w : World) (K : W.Frag) (mg : Str → Option Value) (base : Heap) (CX : Cxe) (k : Nat) (f : Addr) (fd : FuncData) (ps : List Str) (sp : Sp) : Prop where
  many : ∀ vs H Q E, sp vs H Q E → vs.length = ps.length
  go : ∀ (A : Around) (outer : List PySem.Env) (s : Shared) (H : Hp) (args : Args) (us : List Value) (vs : List V) (Q : VK) (E : XK), Room k A → A.guards = some [] →
    L2.Env0 P w K mg base A outer s H → BindsTo s fd args (ps.zip us) → Vals vs us → sp vs H Q E → codeAny (model P w) A (.call (.ref f) args) (L2.CR CX outer P w H s Q E) s
section
variable {P : Program} {w : World} {K : W.Frag} {mg : Str → Option Value} {base : Heap} {CX : Cxe}
theorem FnG.up {j k : Nat} {f : Addr} {fd : FuncData} {ps : List Str} {sp : Sp} (F : FnG P w K mg base CX j f fd ps sp) (h : j ≤ k) : FnG P w K mg base CX k f fd ps sp :=
  ⟨F.many, fun A outer s H args us vs Q E hr => F.go A outer s H args us vs Q E (hr.mono h)⟩
/-- by its body -/
theorem fnG_of {k : Nat} {f : Addr} {x : Str} {params : Arguments} {body : List Stmt} {scope : Scope} {fd : FuncData} {N ps : List Str} {sp : Sp} (F : L2.FunD K x x params body scope [] [] f fd) (S : FnScope N ps scope)
    (many : ∀ vs H Q E, sp vs H Q E → vs.length = ps.length)
    (hbody : ∀ (cdv : Value) (A : Around) (outer : List PySem.Env) (s : Shared) (H : Hp) (vs : List V) (Q : VK) (E : XK), Room k (A.deeper (envOfC x scope s.heap.objs.size f cdv)) → A.guards = some [] → sp vs H Q E →
      ∃ t, PSs (L2.cxOf CX P w K mg base N x scope f cdv A outer s H E) body t ∧ t { nx := fun _ H' => Q .non H', rt := Q } (L2.start N vs) H) : FnG P w K mg base CX (k + 1) f fd ps sp := by
  obtain ⟨oc, od, dV, kV, doc, pm, an, cdv, ct, osl, rfl, lk, hcd, _, _⟩ := F.ex
  refine ⟨many, fun A outer s H args us vs Q E hr hgd e0 hb r hsp => ?_⟩
  have hl := many _ _ _ _ hsp
  have old : ∀ b o, base.get? b = some o → s.heap.get? b = some o := fun b o e => (e0.bs b o e).1
  have inK : K.In s.heap := e0.mod.kin.keeps old
  refine codeAny_call_function hr.depth (inK _ _ lk) rfl S.co S.gen rfl (W.codeRec_of inK hcd) (hb _ _ _ _ ?_)
  refine wpAny_newFunctionEnv_cells S.kind (fun y hy => ?_) fun env he s1 xc => ?_
  · rcases S.par y.1 (List.of_mem_zip (show (y.1, y.2) ∈ _ from hy)).1 with q | q
    · exact Or.inl q
    · exact Or.inr ⟨q, W.cellsFrom_some _ _ _ (Or.inl q)⟩
  subst he
  refine ⟨(e0.mod.nolimit.keeps old).keeps xc.toInCall.keep, codeAny_func ?_⟩
  obtain ⟨t, ht, hq⟩ := hbody cdv A outer s H vs Q E (hr.deeper _) hgd hsp
  have I := L2.inv_start (CX := CX) (E := E) (qual := x) (cd := cdv) S hr.hd e0 hl r xc
  refine wpAny_mono (ht.run [] s1 _ H _ I hq) (fun fl s' hs => ?_) fun _ _ hs => hs
  have out : ∀ {σ' : L2.St} {H' : Hp} {v : V} {u : Value}, Inv (L2.cxOf CX P w K mg base N x scope f cdv A outer s H E) [] σ' H' s' → RelV v u → Q v H' → L2.CE outer P w H s Q u s' :=
    fun {_ H' v _} J rv q => ⟨v, H', J.os, J.bare, J.base, J.hok, rv, q⟩
  cases fl with
  | next =>
    obtain ⟨_, H', J, q⟩ := hs
    exact out (v := .non) J rfl q
  | ret u =>
    obtain ⟨v, _, H', J, rv, q⟩ := hs
    exact out J rv q
  | cont => exact hs.choose_spec.choose_spec.2.elim
  | brk => exact hs.choose_spec.choose_spec.2.elim
end
section
variable {X : Cx} {CX : Cxe} {k : Nat} {f : Addr} {fd : FuncData} {ps : List Str} {sp : Sp} {E : XK} {x : Str} {p pos : Pos} {e : Expr} {es : List Expr} {t tk : TA}
/-- what an exception that leaves a callee does here -/
def Lets (CX : Cxe) (X : Cx) (E : XK) : Prop := ∀ (pins : List (PySem.Addr × Obj)) (σ : L2.St) (H : Hp) (s : Shared) (e : Value) (s' : Shared), Inv X pins σ H s → CX X.stack H s E e s' → X.xe e s'
theorem runG {pins : List (PySem.Addr × Obj)} {σ : L2.St} {H : Hp} {s : Shared} {Q : VK} {args : Args} {us : List Value} {vs : List V} (F : FnG X.prog X.w X.K X.mg X.base CX k f fd ps sp) (hr : Room k X.A) (hgd : X.A.guards = some []) (hx : Lets CX X E)
    (I : Inv X pins σ H s) (hb : BindsTo s fd args (ps.zip us)) (r : Vals vs us) (h : sp vs H Q E) : codeAny (model X.prog X.w) X.A (.call (.ref f) args) (fun r s' => match r with
      | .ok (.ret u) => L2.EP X pins σ Q u s'
      | .ok _ => False
      | .error e => X.xe e s') s := by
  refine codeAny_mono (F.go X.A X.stack s H args us vs Q E hr hgd I.env0 hb r h) fun r s' hq => ?_
  cases r with
  | error e => exact hx pins σ H s e s' I hq
  | ok fl =>
    cases fl with
    | ret u => exact I.after hq
    | next => exact False.elim hq
    | brk => exact False.elim hq
    | cont => exact False.elim hq
theorem callG (F : FnG X.prog X.w X.K X.mg X.base CX k f fd ps sp) (hr : Room k X.A) (hgd : X.A.guards = some []) (hg : L2.Gl X x) (hm : X.mg x = some (.ref f)) (hk : W.keepIn X.K (.ref f) = true) (hb : L2.Binds X.K fd ps []) (hx : Lets CX X E)
    (ha : PA X (e :: es) t) (hd : (x == ("__debug__" : Str)) = false) (he : starEach (e :: es) X.env = (false, eval e X.env) :: starEach es X.env) (hp : (backTo pos (starEach es X.env)).any (·.1) = false) :
    PE X (.Call (.Name x p) (e :: es) [] pos) fun σ H Q => t σ H fun vs H1 => sp vs H1 Q E := by
  refine ⟨fun pins s σ H Q I h => wpAny_Call_Name_kw (L2.ld_glob I hg hm ?_ hd)⟩
  refine W.callWith_K (h₀ := X.base) I.ok.mod.kin hk (L2.thn (ha.run pos pins s σ H _ I h) fun us s1 ⟨vs, H1, I1, r, q⟩ => ⟨I1.kIn, ?_⟩) he hp
  have hl : us.length = ps.length := by
    rw [← r.length]
    exact F.many _ _ _ _ q
  have hb1 := hb s1 us I1.kIn (by rw [List.append_nil]; exact hl)
  rw [List.append_nil] at hb1
  refine wpAny_call (codeAny_mono (runG F hr hgd hx I1 hb1 r q) fun r s' hq => ?_)
  cases r with
  | error e => exact hq
  | ok fl =>
    cases fl with
    | ret u => exact hq
    | next => exact hq.elim
    | brk => exact hq.elim
    | cont => exact hq.elim
/-- with keywords: ord tells where in the parameters' order the written values go -/
theorem callGK {n : Nat} {ks : List Str} {g : {α : Type} → List α → List α → List α} {kws : List Keyword} (F : FnG X.prog X.w X.K X.mg X.base CX k f fd ps sp) (hr : Room k X.A) (hgd : X.A.guards = some []) (hg : L2.Gl X x) (hm : X.mg x = some (.ref f)) (hk : W.keepIn X.K (.ref f) = true)
    (hb : ∀ (s : Shared) (us ws : List Value), us.length = n → ws.length = ks.length → BindsTo s fd ⟨us, ks.zip ws⟩ (ps.zip (g us ws))) (hrel : ∀ {vs zs : List V} {us ws : List Value}, Vals vs us → Vals zs ws → Vals (g vs zs) (g us ws)) (hx : Lets CX X E)
    (ha : PA X (e :: es) t) (hkw : PK X kws tk) (hall : (backToKw pos (keywordEach kws X.env)).all (·.1.isSome) = true) (hks : (backToKw pos (keywordEach kws X.env)).filterMap (·.1) = ks)
    (hd : (x == ("__debug__" : Str)) = false) (he : starEach (e :: es) X.env = (false, eval e X.env) :: starEach es X.env)
    (hp : ((backTo pos (starEach (e :: es) X.env)).any (·.1) || (backToKw pos (keywordEach kws X.env)).any (·.1.isNone)) = false) :
    PE X (.Call (.Name x p) (e :: es) kws pos) fun σ H Q => t σ H fun vs H1 => tk σ H1 fun zs H2 => vs.length = n ∧ zs.length = ks.length ∧ sp (g vs zs) H2 Q E := by
  refine ⟨fun pins s σ H Q I h => wpAny_Call_Name_kw (L2.ld_glob I hg hm ?_ hd)⟩
  refine W.callWith_KW (h₀ := X.base) I.ok.mod.kin hk hall (L2.thn (ha.run pos pins s σ H _ I h) fun us s1 ⟨vs, H1, I1, r, q⟩ => ?_) hp he
  refine L2.thn (hkw.run pos pins s1 σ H1 _ I1 q) fun ws s2 ⟨zs, H2, I2, rz, l1, l2, q2⟩ => ⟨I2.kIn, ?_⟩
  rw [hks]
  refine wpAny_call (codeAny_mono (runG F hr hgd hx I2 (hb s2 us ws (r.length.symm.trans l1) (rz.length.symm.trans l2)) (hrel r rz) q2) fun r s' hq => ?_)
  cases r with
  | error e => exact hq
  | ok fl =>
    cases fl with
    | ret u => exact hq
    | next => exact hq.elim
    | brk => exact hq.elim
    | cont => exact hq.elim
end
/-! ### the law's head -/
/-- from an abstract heap that tracks the script at most -/
theorem headG1 {P : Program} {w : World} {K : W.Frag} {mg mb : Str → Option Value} {k : Nat} {fa a : PySem.Addr} {fd : FuncData} {x : Str} {sp : Sp} {s₁ : Shared} {vs : List Value} {H : Hp} (inK : K.In s₁.heap) (hG : s₁.heap.Ns mainGlobals mg)
    (hB : s₁.heap.Ns builtinsNs mb) (hBB : ∀ x : Str, x ≠ "__name__" → mb x = bootBuiltins x) (hL : s₁.heap.NoLimit) (hg : s₁.gens = #[]) (hS : ∃ o es ep, s₁.heap.get? sysModules = some o ∧ o.data = .dict es ep)
    (ha : s₁.heap.get? a = some { cls := .type "list", data := .seq vs.toArray }) (hr : Room k callerA)
    (F : ∀ base : Heap, K.In base → base.Ns mainGlobals mg → (∃ o, base.get? sysModules = some o) → FnG P w K mg base L2.CX0 k fa fd [x] sp) (hbind : ∀ (s : Shared) (u : Value), BindsTo s fd ⟨[u], []⟩ [(x, u)])
    (hsp : sp [.ref a] H (fun v _ => v = .bl true) fun _ _ _ => False) (hok : L2.HOk P w H s₁.heap) (one : ∀ b, H b ≠ none → b = a) (off : H a ≠ none → K.lookup a = none) (frz : ∀ b u, H b = some u → ∃ o xs, u = .frz o (.lst xs)) :
    codeAny (model P w) callerA (.call (.ref fa) ⟨[.ref a], []⟩) (fun r s' => r = .ok (.ret (.bool true)) ∧ OldK s₁.heap s'.heap ∧ s'.os = s₁.os ∧ AllBare s'.gens) s₁ := by
  have dictFree : ∀ {b : PySem.Addr} {o : Obj} {es : Array DictEntry} {ep : Nat}, s₁.heap.get? b = some o → o.data = .dict es ep → H b = none := fun {b o es ep} e d => by
    cases q : H b with
    | none => rfl
    | some u =>
      have z := one b (by rw [q]; exact Option.some_ne_none u)
      rw [z, ha] at e
      cases e
      cases d
  have nsFree : ∀ {b : PySem.Addr} {m : Str → Option Value}, s₁.heap.Ns b m → (L2.hidT s₁.heap H).Ns b m := fun ⟨o, es, ep, e, d, r⟩ => ⟨o, es, ep, L2.hidT_get e (dictFree e d), d, r⟩
  have inKb : K.In (L2.hidT s₁.heap H) := fun b o e => L2.hidT_get (inK b o e) (by
    cases q : H b with
    | none => rfl
    | some u =>
      have z := one b (by rw [q]; exact Option.some_ne_none u)
      rw [z] at e q
      rw [off (by rw [q]; exact Option.some_ne_none u)] at e
      cases e)
  obtain ⟨mc, l1, l2⟩ := hL
  obtain ⟨oS, eS, pS, s1, s2⟩ := hS
  have e0 : L2.Env0 P w K mg (L2.hidT s₁.heap H) callerA [] s₁ H :=
    ⟨rfl, ⟨inKb, nsFree hG, ⟨mb, nsFree hB, hBB⟩, ⟨mc, nsFree l1, l2⟩⟩, fun b o e => L2.of_hidT e, Nat.le_of_eq (L2.hidT_size _ _), trivial, fun b hb => (List.not_mem_nil hb).elim, hok, .of_eq hg⟩
  refine codeAny_mono ((F _ inKb (nsFree hG) ⟨oS, L2.hidT_get s1 (dictFree s1 s2)⟩).go callerA [] s₁ H ⟨[.ref a], []⟩ [.ref a] [.ref a] _ _ hr rfl e0 (hbind s₁ (.ref a)) (.cons rfl .nil) hsp) fun r s' h => ?_
  cases r with
  | error e => exact False.elim h
  | ok fl =>
    cases fl with
    | next => exact False.elim h
    | brk => exact False.elim h
    | cont => exact False.elim h
    | ret u =>
      obtain ⟨v, H', os, bare, un, hok', rv, ev⟩ := h
      have ev2 : v = .bl true := ev
      rw [ev2] at rv
      cases (show u = Value.bool true from rv)
      refine ⟨rfl, OldK.of_keep fun b o e => ?_, os, bare⟩
      cases q : H b with
      | none => exact un.keep b o e q (fun z => List.not_mem_nil z) fun z => List.not_mem_nil z
      | some u =>
        obtain ⟨ob, xs, z⟩ := frz b u q
        rw [z] at q
        have e1 := (hok b _ q).1
        rw [e] at e1
        cases e1
        exact (hok' b _ (un.frzs b _ _ q)).1
theorem headG {P : Program} {w : World} {K : W.Frag} {mg mb : Str → Option Value} {k : Nat} {fa a : PySem.Addr} {fd : FuncData} {x : Str} {sp : Sp} {s₁ : Shared} {vs : List Value} {ns : List Int} (inK : K.In s₁.heap) (hG : s₁.heap.Ns mainGlobals mg)
    (hB : s₁.heap.Ns builtinsNs mb) (hBB : ∀ x : Str, x ≠ "__name__" → mb x = bootBuiltins x) (hL : s₁.heap.NoLimit) (hg : s₁.gens = #[]) (hS : ∃ o es ep, s₁.heap.get? sysModules = some o ∧ o.data = .dict es ep)
    (ha : s₁.heap.get? a = some { cls := .type "list", data := .seq vs.toArray }) (hi : IntsAre vs ns) (hl : ns.length ≤ sizeLine) (hr : Room k callerA)
    (F : ∀ base : Heap, K.In base → base.Ns mainGlobals mg → (∃ o, base.get? sysModules = some o) → FnG P w K mg base L2.CX0 k fa fd [x] sp) (hbind : ∀ (s : Shared) (u : Value), BindsTo s fd ⟨[u], []⟩ [(x, u)])
    (hsp : ∀ H : Hp, (∀ b u, H b = some u → ∃ o xs, u = .frz o (.lst xs)) → L2.SqL K H a (ns.map V.int) → sp [.ref a] H (fun v _ => v = .bl true) fun _ _ _ => False) :
    codeAny (model P w) callerA (.call (.ref fa) ⟨[.ref a], []⟩) (fun r s' => r = .ok (.ret (.bool true)) ∧ OldK s₁.heap s'.heap ∧ s'.os = s₁.os ∧ AllBare s'.gens) s₁ := by
  have rv : Vals (ns.map V.int) vs := L2.vals_ints hi
  have many := hi.length
  cases hk : K.lookup a with
  | some o =>
    have e := inK a o hk
    rw [ha] at e
    cases e
    refine headG1 (H := fun _ => none) inK hG hB hBB hL hg hS ha hr F hbind (hsp _ (fun _ _ z => (Option.some_ne_none _ z.symm).elim) (.inr ⟨_, vs.toArray, _, hk, rfl, rfl, rfl, ?_, by simpa using rv⟩)) (fun _ _ z => (Option.some_ne_none _ z.symm).elim) (fun b z => absurd rfl z) (fun z => absurd rfl z) fun _ _ z => (Option.some_ne_none _ z.symm).elim
    rw [List.size_toArray, many]
    exact hl
  | none =>
    let H : Hp := fun b => if b = a then some (.frz { cls := .type "list", data := .seq vs.toArray } (.lst (ns.map V.int))) else none
    have at_a : H a = some (.frz { cls := .type "list", data := .seq vs.toArray } (.lst (ns.map V.int))) := if_pos rfl
    have els : ∀ b, b ≠ a → H b = none := fun b hb => if_neg hb
    have some_ : ∀ b u, H b = some u → b = a ∧ u = .frz { cls := .type "list", data := .seq vs.toArray } (.lst (ns.map V.int)) := fun b u z => by
      by_cases hb : b = a
      · rw [hb, at_a] at z
        exact ⟨hb, (Option.some.inj z).symm⟩
      · rw [els b hb] at z
        cases z
    refine headG1 (H := H) inK hG hB hBB hL hg hS ha hr F hbind (hsp H (fun b u z => ⟨_, _, (some_ b u z).2⟩) (.inl (.inr ⟨_, at_a⟩))) (fun b u z => ?_) (fun b z => ?_) (fun _ => hk) fun b u z => ⟨_, _, (some_ b u z).2⟩
    · obtain ⟨rfl, rfl⟩ := some_ b u z
      refine ⟨ha, ?_, vs, _, rv, ha⟩
      rw [List.length_map]
      exact hl
    · by_cases hb : b = a
      · exact hb
      · exact absurd (els b hb) z
/-- what the head's Hook has to tell: the written part holds, and sys.modules is a dict -/
theorem walkG {l : W.OpenLaw} {n k : Nat} {q : Program} {loose : List Str} {XP : (Str → Option Value) → Heap → Prop} {YP : World → Heap → Prop} {d : DefRec} {x : Str} (hn : l.most = some n) (hn2 : n ≤ sizeLine) (hdf : d.params.defaults = []) (hr : Room k callerA)
    (F : ∀ (w : World) (mg : Str → Option Value) (fa : PySem.Addr) (h : Heap), YP w h → h.Ns mainGlobals mg → mg d.name = some (.ref fa) → (∃ o es ep, h.get? sysModules = some o ∧ o.data = .dict es ep) ∧
      ∃ (K : W.Frag) (fd : FuncData) (sp : Sp), K.In h ∧ (∀ (s : Shared) (u : Value), BindsTo s fd ⟨[u], []⟩ [(x, u)]) ∧
        (∀ (H : Hp) (a : PySem.Addr) (ns : List Int), ns.length ≤ n → (∀ b u, H b = some u → ∃ o xs, u = .frz o (.lst xs)) → L2.SqL K H a (ns.map V.int) → sp [.ref a] H (fun v _ => v = .bl true) fun _ _ _ => False) ∧
        ∀ base : Heap, K.In base → base.Ns mainGlobals mg → (∃ o, base.get? sysModules = some o) → FnG l.prog w K mg base L2.CX0 k fa fd [x] sp) :
    W.WalkO q loose XP YP l.row.toRowW d [] (fun f vs => PySem.call f vs) := by
  refine Att.attach_call hn hdf fun w s₀ s₁ mg mb fa o pm cd doc a vs ns G Y ho hd hcd hmg hobj hints hlen hg => ?_
  obtain ⟨hS, K, fd, sp, inK, hb, hsp, hF⟩ := F w mg fa _ Y G.T.g hmg
  exact headG inK G.T.g G.T.b G.T.builtins G.T.nolimit hg hS hobj hints (Nat.le_trans hlen hn2) hr hF hb fun H hO hS => hsp H a ns hlen hO hS
end BP

namespace BP
open L2 (V Hp HO St TE TT TA TS TG TI It Ends Cx PE PT PW PA PS PSs PG PI Inv upd upd_same upd_ne OpR UnR CallR Same VK XK Sp Room Vals RelV FnScope PK CX0 E0)
/-! ### slots -/
theorem setE_len : ∀ (env : Env) (i : Nat) (x : EV), (setE env i x).length = env.length
  | [], _, _ => rfl
  | _ :: _, 0, _ => rfl
  | _ :: r, i + 1, x => congrArg Nat.succ (setE_len r i x)
theorem getE_ne : ∀ (env : Env) (i j : Nat) (x : EV), j ≠ i → getE (setE env i x) j = getE env j
  | [], _, _, _, _ => rfl
  | _ :: _, 0, 0, _, h => absurd rfl h
  | _ :: _, 0, _ + 1, _, _ => rfl
  | _ :: _, _ + 1, 0, _, _ => rfl
  | _ :: r, i + 1, j + 1, x, h => getE_ne r i j x fun z => h (congrArg Nat.succ z)
theorem getE_same : ∀ (env : Env) (i : Nat) (x : EV), i < env.length → getE (setE env i x) i = x
  | [], _, _, h => absurd h (Nat.not_lt_zero _)
  | _ :: _, 0, _, _ => rfl
  | _ :: r, i + 1, x, h => getE_same r i x (Nat.lt_of_succ_lt_succ h)
theorem getE_out : ∀ (env : Env) (i : Nat), env.length ≤ i → getE env i = .no
  | [], _, _ => rfl
  | _ :: _, 0, h => absurd h (Nat.not_succ_le_zero _)
  | _ :: r, i + 1, h => getE_out r i (Nat.le_of_succ_le_succ h)
theorem setE_out : ∀ (env : Env) (i : Nat) (x : EV), env.length ≤ i → setE env i x = env
  | [], _, _, _ => rfl
  | _ :: _, 0, _, h => absurd h (Nat.not_succ_le_zero _)
  | e :: r, i + 1, x, h => congrArg (e :: ·) (setE_out r i x (Nat.le_of_succ_le_succ h))
section
variable {K : PySem.W.Frag} {B : Addr → Prop} {pot : Option Addr} {os : List (Option Addr)} {H H1 H2 H' : Hp} {σ : St} {env : Env} {st st' : Pt} {v : V} {e : EV} {d : D} {i : Nat}
theorem set_none_at {os : List (Option Addr)} {i j : Nat} {a : Addr} (h : (os.set i none)[j]? = some (some a)) : os[j]? = some (some a) ∧ j ≠ i := by
  by_cases z : i = j
  · subst z
    by_cases l : i < os.length
    · rw [List.getElem?_set_self l] at h
      cases h
    · rw [List.getElem?_eq_none (by rw [List.length_set]; exact Nat.le_of_not_lt l)] at h
      cases h
  · rw [List.getElem?_set_ne z] at h
    exact ⟨h, fun y => z y.symm⟩
theorem av_set {i : Nat} (a : Addr) (h : av B (os.set i none) a) : av B os a := by
  rcases h with h | h
  · exact .inl h
  · obtain ⟨j, hj, e⟩ := List.getElem_of_mem h
    exact .inr (List.mem_of_getElem? (set_none_at (i := i) (by rw [List.getElem?_eq_getElem hj, e])).1)
/-- a slot is stored, or forgotten -/
theorem ERep.set0 {x : Option V} (E : ERep K B pot os H σ env st) (hp : isPt (getE env i) = false) (h1 : ∀ ds, e ≠ .ow ds) (h2 : ∀ ds, e ≠ .bo ds) (h3 : e ≠ .pt) (h6 : ∀ ns, e ≠ .fz ns) (hd : ∀ d, e = .im d → ∃ v, x = some v ∧ Dr K H (av B os) v d) :
    ERep K B pot (os.set i none) H (σ.set i x) (setE env i e) st := by
  have kk : ∀ b o, H b = some o → ¬ av B os b → H b = some o ∧ ¬ av B (os.set i none) b := fun b o h z => ⟨h, fun y => z (av_set b y)⟩
  have l1 := E.l1
  have l2 := E.l2
  have np : ∀ {j : Nat}, getE env j = .pt → j ≠ i := fun {j} h z => by
    rw [← z, h] at hp
    cases hp
  refine ⟨E.bt, by rw [List.length_set, setE_len]; exact l1, by rw [List.length_set, setE_len]; exact l2, fun j d h => ?_, fun j ds h => ?_, fun j ds h => ?_, fun j ns h => ?_, fun j a h => ?_, fun j k a h h' => E.inj j k a (set_none_at h).1 (set_none_at h').1, fun j h => ?_, fun p h => ?_⟩
  · by_cases z : j = i
    · subst z
      by_cases l : j < env.length
      · rw [getE_same env j e l] at h
        obtain ⟨v, rfl, q⟩ := hd d h
        exact ⟨v, by rw [List.getElem?_set_self (by omega)], q.to kk⟩
      · rw [getE_out _ _ (by rw [setE_len]; omega)] at h
        cases h
    · rw [getE_ne _ _ _ _ z] at h
      obtain ⟨x, e1, e2⟩ := E.slot j d h
      exact ⟨x, by rw [List.getElem?_set_ne (fun y => z y.symm)]; exact e1, e2.to kk⟩
  · by_cases z : j = i
    · subst z
      by_cases l : j < env.length
      · rw [getE_same env j e l] at h
        exact absurd h (h1 ds)
      · rw [getE_out _ _ (by rw [setE_len]; omega)] at h
        cases h
    · rw [getE_ne _ _ _ _ z] at h
      obtain ⟨a, vs, e1, e2, e3, e4⟩ := E.own j ds h
      exact ⟨a, vs, by rw [List.getElem?_set_ne (fun y => z y.symm)]; exact e1, by rw [List.getElem?_set_ne (fun y => z y.symm)]; exact e2, e3, e4.to kk⟩
  · by_cases z : j = i
    · subst z
      by_cases l : j < env.length
      · rw [getE_same env j e l] at h
        exact h2 ds h
      · rw [getE_out _ _ (by rw [setE_len]; omega)] at h
        cases h
    · rw [getE_ne _ _ _ _ z] at h
      exact E.nb j ds h
  · by_cases z : j = i
    · subst z
      by_cases l : j < env.length
      · rw [getE_same env j e l] at h
        exact absurd h (h6 ns)
      · rw [getE_out _ _ (by rw [setE_len]; omega)] at h
        cases h
    · rw [getE_ne _ _ _ _ z] at h
      obtain ⟨a, e1, e2⟩ := E.fz j ns h
      exact ⟨a, by rw [List.getElem?_set_ne (fun y => z y.symm)]; exact e1, e2⟩
  · obtain ⟨h4, h5⟩ := set_none_at h
    obtain ⟨e1, ds, e2⟩ := E.ad j a h4
    exact ⟨e1, ds, by rw [getE_ne _ _ _ _ h5]; exact e2⟩
  · by_cases z : j = i
    · subst z
      by_cases l : j < env.length
      · rw [getE_same env j e l] at h
        exact absurd h h3
      · rw [getE_out _ _ (by rw [setE_len]; omega)] at h
        cases h
    · rw [getE_ne _ _ _ _ z] at h
      obtain ⟨p, e1, e2⟩ := E.pt j h
      exact ⟨p, e1, by rw [List.getElem?_set_ne (fun y => z y.symm)]; exact e2⟩
  · exact E.pot p h
theorem ERep.setI (E : ERep K B pot os H σ env st) (hp : isPt (getE env i) = false) (h : Dr K H (av B os) v d) : ERep K B pot (os.set i none) H (σ.set i (some v)) (setE env i (.im d)) st :=
  E.set0 hp (fun _ z => nomatch z) (fun _ z => nomatch z) (fun z => nomatch z) (fun _ z => nomatch z) fun _ z => by
    cases z
    exact ⟨v, rfl, h⟩
theorem ERep.frz {ds : List D} (E : ERep K B pot os H σ env st) (h : getE env i = .ow ds) : ERep K B pot (os.set i none) H σ (setE env i (.im (.list ds))) st := by
  obtain ⟨a, vs, e1, e2, e3, e4⟩ := E.own i ds h
  have hp : isPt (getE env i) = false := by rw [h]; rfl
  have off : ¬ av B (os.set i none) a := fun z => by
    rcases z with z | z
    · exact (E.ad i a e1).1 z
    · obtain ⟨j, hj, q⟩ := List.getElem_of_mem z
      obtain ⟨q1, q2⟩ := set_none_at (i := i) (by rw [List.getElem?_eq_getElem hj, q])
      exact q2 (E.inj j i a q1 e1)
  have E1 := E.set0 (x := some (.ref a)) (e := .no) hp (fun _ z => nomatch z) (fun _ z => nomatch z) (fun z => nomatch z) (fun _ z => nomatch z) fun _ z => nomatch z
  have e5 : σ.set i (some (.ref a)) = σ := by
    obtain ⟨hl, q⟩ := List.getElem?_eq_some_iff.mp e2
    rw [← q]
    exact List.set_getElem_self hl
  have kk : ∀ b o, H b = some o → ¬ av B os b → H b = some o ∧ ¬ av B (os.set i none) b := fun b o h z => ⟨h, fun y => z (av_set b y)⟩
  have E2 := E1.set0 (i := i) (x := some (.ref a)) (e := .im (.list ds)) (by
    by_cases l : i < env.length
    · rw [getE_same _ _ _ l]; rfl
    · rw [getE_out _ _ (by rw [setE_len]; omega)]; rfl) (fun _ z => nomatch z) (fun _ z => nomatch z) (fun z => nomatch z) (fun _ z => nomatch z) fun d z => by
      cases z
      refine ⟨_, rfl, .lst ?_ e3 ((e4.to kk))⟩
      exact off
  rw [e5, e5] at E2
  have e6 : setE (setE env i .no) i (.im (.list ds)) = setE env i (.im (.list ds)) := by
    clear E2 E1 e5 hp off
    induction env generalizing i with
    | nil => rfl
    | cons x r ih =>
      cases i with
      | zero => rfl
      | succ i =>
        show x :: setE (setE r i .no) i _ = x :: setE r i _
        congr 1
        have : ∀ (r : Env) (i : Nat) (a b : EV), setE (setE r i a) i b = setE r i b := fun r => by
          induction r with
          | nil => intro i a b; rfl
          | cons y r ih =>
            intro i a b
            cases i with
            | zero => rfl
            | succ i => exact congrArg (y :: ·) (ih i a b)
        exact this r i _ _
  rw [e6] at E2
  have e7 : (os.set i none).set i none = os.set i none := by rw [List.set_set]
  rw [e7] at E2
  exact E2
/-- an own list is changed -/
theorem ERep.chg {ds ds' : List D} {vs' : List V} {a : Addr} (E : ERep K B pot os H σ env st) (h : getE env i = .ow ds) (e1 : os[i]? = some (some a)) (hd : DrAll K H (av B os) vs' ds') : ERep K B pot os (upd H a (.lst vs')) σ (setE env i (.ow ds')) st := by
  have ha : av B os a := .inr (List.mem_of_getElem? e1)
  have keep : ∀ b o, H b = some o → ¬ av B os b → upd H a (.lst vs') b = some o ∧ ¬ av B os b := fun b o q z => ⟨by
    rw [upd_ne (fun y => z (by rw [y]; exact ha))]
    exact q, z⟩
  have il : i < env.length := by
    by_cases l : i < env.length
    · exact l
    · rw [getE_out _ _ (by omega)] at h
      cases h
  refine ⟨fun b hb => ?_, by rw [setE_len]; exact E.l1, by rw [setE_len]; exact E.l2, fun j d q => ?_, fun j es q => ?_, fun j es q => ?_, fun j ns q => ?_, fun j b q => ?_, E.inj, fun j q => ?_, fun p q => ?_⟩
  case refine_5 =>
    by_cases z : j = i
    · rw [z, getE_same _ _ _ il] at q
      cases q
    · rw [getE_ne _ _ _ _ z] at q
      obtain ⟨b, q1, q2⟩ := E.fz j ns q
      refine ⟨b, q1, q2.to fun o y => ?_⟩
      rw [upd_ne fun u => ?_]
      · exact y
      · obtain ⟨us, y2⟩ := E.own_at (List.mem_of_getElem? e1)
        rw [u, y2] at y
        cases y
  · by_cases z : b = a
    · rw [z]
      exact ⟨_, upd_same⟩
    · obtain ⟨o, q⟩ := E.bt b hb
      exact ⟨o, by rw [upd_ne z]; exact q⟩
  · by_cases z : j = i
    · rw [z, getE_same _ _ _ il] at q
      cases q
    · rw [getE_ne _ _ _ _ z] at q
      obtain ⟨x, q1, q2⟩ := E.slot j d q
      exact ⟨x, q1, q2.to keep⟩
  · by_cases z : j = i
    · rw [z, getE_same _ _ _ il] at q
      cases q
      obtain ⟨a', vs0, q1, q2, _, _⟩ := E.own i ds h
      rw [e1] at q1
      cases q1
      rw [z]
      exact ⟨a, vs', e1, q2, upd_same, hd.to keep⟩
    · rw [getE_ne _ _ _ _ z] at q
      obtain ⟨b, us, q1, q2, q3, q4⟩ := E.own j es q
      have ne : b ≠ a := fun y => z (E.inj j i a (by rw [← y]; exact q1) e1)
      exact ⟨b, us, q1, q2, by rw [upd_ne ne]; exact q3, q4.to keep⟩
  · by_cases z : j = i
    · rw [z, getE_same _ _ _ il] at q
      cases q
    · rw [getE_ne _ _ _ _ z] at q
      exact E.nb j es q
  · obtain ⟨q1, es, q2⟩ := E.ad j b q
    by_cases z : j = i
    · exact ⟨q1, ds', by rw [z, getE_same _ _ _ il]⟩
    · exact ⟨q1, es, by rw [getE_ne _ _ _ _ z]; exact q2⟩
  · by_cases z : j = i
    · rw [z, getE_same _ _ _ il] at q
      cases q
    · rw [getE_ne _ _ _ _ z] at q
      exact E.pt j q
  · obtain ⟨q3, q4⟩ := E.pot p q
    have ne : p ≠ a := fun y => (E.ad i a e1).1 (by rw [← y]; exact q3)
    exact ⟨q3, by rw [upd_ne ne]; exact q4⟩
/-- a slot takes a new list of its own -/
theorem ERep.setO {ds : List D} {vs : List V} {p : Addr} (E0 : ERep K B pot os H σ env st') (n : H p = none) (E : ERep K (plus B p) pot os H1 σ env st) (hp : isPt (getE env i) = false) (il : i < env.length) (h1 : H1 p = some (.lst vs)) (h2 : DrAll K H1 (av (plus B p) os) vs ds) :
    ERep K B pot (os.set i (some p)) H1 (σ.set i (some (.ref p))) (setE env i (.ow ds)) st := by
  have l1 := E.l1
  have l2 := E.l2
  have np : ∀ j, os[j]? ≠ some (some p) := fun j q => E0.off n (.inr (List.mem_of_getElem? q))
  have sub : ∀ a, av B (os.set i (some p)) a → av (plus B p) os a := fun a h => by
    rcases h with h | h
    · exact .inl (.inl h)
    · rcases List.mem_or_eq_of_mem_set h with h | h
      · exact .inr h
      · exact .inl (.inr (Option.some.inj h))
  have kk : ∀ b o, H1 b = some o → ¬ av (plus B p) os b → H1 b = some o ∧ ¬ av B (os.set i (some p)) b := fun b o h z => ⟨h, fun y => z (sub b y)⟩
  have at_ : ∀ {j : Nat} {a : Addr}, (os.set i (some p))[j]? = some (some a) → (j = i ∧ a = p) ∨ (j ≠ i ∧ os[j]? = some (some a)) := fun {j a} h => by
    by_cases z : j = i
    · subst z
      rw [List.getElem?_set_self (by omega)] at h
      exact .inl ⟨rfl, (Option.some.inj (Option.some.inj h)).symm⟩
    · rw [List.getElem?_set_ne (fun y => z y.symm)] at h
      exact .inr ⟨z, h⟩
  refine ⟨fun b hb => E.bt b (.inl hb), by rw [List.length_set, setE_len]; exact l1, by rw [List.length_set, setE_len]; exact l2, fun j d h => ?_, fun j es h => ?_, fun j es h => ?_, fun j ns h => ?_, fun j a h => ?_, fun j k a h h' => ?_, fun j h => ?_, fun q h => ?_⟩
  case refine_4 =>
    by_cases z : j = i
    · rw [z, getE_same _ _ _ il] at h
      cases h
    · rw [getE_ne _ _ _ _ z] at h
      obtain ⟨a, e1, e2⟩ := E.fz j ns h
      exact ⟨a, by rw [List.getElem?_set_ne (fun y => z y.symm)]; exact e1, e2⟩
  · by_cases z : j = i
    · rw [z, getE_same _ _ _ il] at h
      cases h
    · rw [getE_ne _ _ _ _ z] at h
      obtain ⟨x, e1, e2⟩ := E.slot j d h
      exact ⟨x, by rw [List.getElem?_set_ne (fun y => z y.symm)]; exact e1, e2.to kk⟩
  · by_cases z : j = i
    · rw [z, getE_same _ _ _ il] at h
      cases h
      rw [z]
      exact ⟨p, vs, by rw [List.getElem?_set_self (by omega)], by rw [List.getElem?_set_self (by omega)], h1, h2.to kk⟩
    · rw [getE_ne _ _ _ _ z] at h
      obtain ⟨a, us, e1, e2, e3, e4⟩ := E.own j es h
      exact ⟨a, us, by rw [List.getElem?_set_ne (fun y => z y.symm)]; exact e1, by rw [List.getElem?_set_ne (fun y => z y.symm)]; exact e2, e3, e4.to kk⟩
  · by_cases z : j = i
    · rw [z, getE_same _ _ _ il] at h
      cases h
    · rw [getE_ne _ _ _ _ z] at h
      exact E.nb j es h
  · rcases at_ h with ⟨rfl, rfl⟩ | ⟨z, h⟩
    · exact ⟨fun y => E0.off n (.inl y), ds, getE_same _ _ _ il⟩
    · obtain ⟨e1, es, e2⟩ := E.ad j a h
      exact ⟨fun y => e1 (.inl y), es, by rw [getE_ne _ _ _ _ z]; exact e2⟩
  · rcases at_ h with ⟨rfl, rfl⟩ | ⟨z, h⟩
    · rcases at_ h' with ⟨rfl, _⟩ | ⟨z', h'⟩
      · rfl
      · exact absurd h' (np k)
    · rcases at_ h' with ⟨_, z2⟩ | ⟨z', h'⟩
      · rw [z2] at h
        exact absurd h (np j)
      · exact E.inj j k a h h'
  · by_cases z : j = i
    · rw [z, getE_same _ _ _ il] at h
      cases h
    · rw [getE_ne _ _ _ _ z] at h
      obtain ⟨p, e1, e2⟩ := E.pt j h
      exact ⟨p, e1, by rw [List.getElem?_set_ne (fun y => z y.symm)]; exact e2⟩
  · exact ⟨(E0.pot q h).1, (E.pot q h).2⟩
end
/-! ### calls of defs -/
def spP (K : PySem.W.Frag) (m : PF) : Sp := fun vs H Q _ => ∃ B ds d, (∀ b, B b → ∃ o, H b = some o) ∧ DrAll K H B vs ds ∧ m ds = .ok d ∧ ∀ v H', Same H H' → Dr K H' B v d → Q v H'
/-- the pot is the first argument -/
def spD (K : PySem.W.Frag) (m : PD) : Sp := fun vs H Q _ => ∃ B p st us ds d st', vs = .ref p :: us ∧ (∀ b, B b → ∃ o, H b = some o) ∧ B p ∧ H p = some (.lst (st.map V.int)) ∧ DrAll K H B us ds ∧ m ds st = .ok (d, st') ∧
  ∀ v H', (∀ b o, H b = some o → b ≠ p → H' b = some o) → H' p = some (.lst (st'.map V.int)) → Dr K H' B v d → Q v H'
section
variable (P : PySem.Program) (w : PySem.World) (K : PySem.W.Frag) (mg : PySem.Str → Option PySem.Value) (base : PySem.Heap)
structure PFn (k : Nat) (x : PySem.Str) (ps : List PySem.Str) (st : PySem.Stmt) (m : PF) : Prop where
  ex : ∃ f fd q, mg x = some (.ref f) ∧ L2.FunD K q q (L2.defArgs st) (L2.defBody st) (L2.defScope st) [] [] f fd ∧ L2.Binds K fd ps [] ∧ FnG P w K mg base CX0 k f fd ps (spP K m)
structure PDn (k : Nat) (x : PySem.Str) (ps : List PySem.Str) (st : PySem.Stmt) (m : PD) : Prop where
  ex : ∃ f fd q, mg x = some (.ref f) ∧ L2.FunD K q q (L2.defArgs st) (L2.defBody st) (L2.defScope st) [] [] f fd ∧ L2.Binds K fd ps [] ∧ FnG P w K mg base CX0 k f fd ps (spD K m)
end
theorem lets0 {X : Cx} : Lets CX0 X E0 := fun _ _ _ _ _ _ _ h => h.elim
section
variable {X : Cx} {a b c : PySem.Expr} {ma mb mc : ME} {pos : PySem.Pos}
theorem q_call {k j : Nat} {x : PySem.Str} {ps : List PySem.Str} {sd : PySem.Stmt} {m : PF} {ms : MA} {es : List PySem.Expr} {p : PySem.Pos} (F : PFn X.prog X.w X.K X.mg X.base k x ps sd m) (hr : Room j X.A) (hgd : X.A.guards = some []) (hg : L2.Gl X x) (ha : PA X (a :: es) (tAA X.K ms))
    (hk : k ≤ j := by decide) (hd : (x == ("__debug__" : PySem.Str)) = false := by decide) (he : PySem.starEach (a :: es) X.env = (false, PySem.eval a X.env) :: PySem.starEach es X.env := by rfl) (hp : (PySem.backTo pos (PySem.starEach es X.env)).any (·.1) = false := by rfl) :
    PE X (.Call (.Name x p) (a :: es) [] pos) (tM X.K (mCall m ms)) := by
  obtain ⟨f, fd, qn, e1, e2, e3, G⟩ := F.ex
  refine PE_imp (callG G (hr.mono hk) hgd hg e1 e2.kp e3 lets0 ha hd he hp) fun σ H Q ⟨B, pot, os, env, st, E, e, st', hm, hQ⟩ => ?_
  obtain ⟨y, ey, hm⟩ := R.bind_ok hm
  obtain ⟨z, ez, hm⟩ := R.bind_ok hm
  cases hm
  refine ⟨B, pot, os, env, st, E, _, _, ey, fun vs H1 k1 E1 w1 => ⟨av B os, _, z, E1.tr, w1, ez, fun v H' s q => ?_⟩⟩
  obtain ⟨k3, q3⟩ := EPost.of E1 k1 s (e := .im z) q
  exact hQ v H' k3 q3
/-- f(e, .., k = v, ..) -/
def tKK (K : PySem.W.Frag) (m : MA) : TA := tAA K m
theorem k_nil : PK X [] (tAA X.K aNil) := ⟨fun pos pins s σ H Q I ⟨B, pot, os, env, st, E, ds, st', hm, hQ⟩ => by
  cases hm
  exact L2.pk_nil.run pos pins s σ H Q I (hQ [] H Keep.refl E .nil)⟩
theorem k_cons {nm : Option PySem.Str} {kpos : PySem.Pos} {kws : List PySem.Keyword} {ms : MA} (ha : PE X a (tM X.K ma)) (hs : PK X kws (tAA X.K ms)) : PK X (⟨nm, a, kpos⟩ :: kws) (tAA X.K (aCons ma ms)) := by
  refine ⟨fun pos pins s σ H Q I ⟨B, pot, os, env, st, E, ds, st', hm, hQ⟩ => (L2.pk_cons ha hs).run pos pins s σ H Q I ?_⟩
  obtain ⟨x, ex, hm⟩ := R.bind_ok hm
  obtain ⟨u, eu, hm⟩ := R.bind_ok hm
  obtain ⟨y, ey, hm⟩ := R.bind_ok hm
  cases hm
  refine ⟨B, pot, os, env, st, E, _, _, ex, fun v1 H1 k1 p1 => ?_⟩
  obtain ⟨E1, w1⟩ := p1.val E eu
  exact ⟨B, pot, os, env, _, E1, _, _, ey, fun vs H2 k2 E2 w2 => hQ _ H2 (k1.trans k2) E2 (.cons (w1.keep E1 k2) w2)⟩
/-- f(pot, e, ..) -/
theorem q_drawAt (i : Nat) {k j : Nat} {x y : PySem.Str} {ps : List PySem.Str} {sd : PySem.Stmt} {m : PD} {ms : MA} {es : List PySem.Expr} {p py : PySem.Pos} (F : PDn X.prog X.w X.K X.mg X.base k x ps sd m) (hr : Room j X.A) (hgd : X.A.guards = some []) (hg : L2.Gl X x) (h0 : PE X (.Name y py) (L2.tVar i)) (ha : PA X es (tAA X.K ms))
    (hk : k ≤ j := by decide) (hd : (x == ("__debug__" : PySem.Str)) = false := by decide) (he : PySem.starEach (.Name y py :: es) X.env = (false, PySem.eval (.Name y py) X.env) :: PySem.starEach es X.env := by rfl) (hp : (PySem.backTo pos (PySem.starEach es X.env)).any (·.1) = false := by rfl) :
    PE X (.Call (.Name x p) (.Name y py :: es) [] pos) (tM X.K (mDrawAt i m ms)) := by
  obtain ⟨f, fd, qn, e1, e2, e3, G⟩ := F.ex
  refine PE_imp (callG G (hr.mono hk) hgd hg e1 e2.kp e3 lets0 (L2.pa_cons h0 ha he) hd he hp) fun σ H Q ⟨B, pot, os, env, st, E, e, st', hm, hQ⟩ => ?_
  unfold mDrawAt at hm
  split at hm
  · rename_i h0
    obtain ⟨y, ey, hm⟩ := R.bind_ok hm
    obtain ⟨z, ez, hm⟩ := R.bind_ok hm
    cases hm
    have hpt : getE env i = .pt := by
      cases q : getE env i with
      | pt => rfl
      | fz _ => rw [q] at h0; cases h0
      | no => rw [q] at h0; cases h0
      | im _ => rw [q] at h0; cases h0
      | ow _ => rw [q] at h0; cases h0
      | bo _ => rw [q] at h0; cases h0
    obtain ⟨p0, hp0, s0⟩ := E.pt i hpt
    refine ⟨_, s0, B, pot, os, env, st, E, _, _, ey, fun vs H1 k1 E1 w1 => ?_⟩
    obtain ⟨b1, p1⟩ := E1.pot p0 hp0
    refine ⟨av B os, p0, _, vs, _, z.1, z.2, rfl, E1.tr, .inl b1, p1, w1, ez, fun v H' s q1 q3 => ?_⟩
    have k2 : Keep pot H1 H' := fun b o h n => s b o h fun z => n (by rw [hp0, z])
    refine hQ v H' (k1.trans k2) ⟨E1.keep k2 fun p q => ?_, q3⟩
    rw [hp0] at q
    cases q
    exact q1
  · cases hm
theorem q_draw {k j : Nat} {x y : PySem.Str} {ps : List PySem.Str} {sd : PySem.Stmt} {m : PD} {ms : MA} {es : List PySem.Expr} {p py : PySem.Pos} (F : PDn X.prog X.w X.K X.mg X.base k x ps sd m) (hr : Room j X.A) (hgd : X.A.guards = some []) (hg : L2.Gl X x) (h0 : PE X (.Name y py) (L2.tVar 0)) (ha : PA X es (tAA X.K ms))
    (hk : k ≤ j := by decide) (hd : (x == ("__debug__" : PySem.Str)) = false := by decide) (he : PySem.starEach (.Name y py :: es) X.env = (false, PySem.eval (.Name y py) X.env) :: PySem.starEach es X.env := by rfl) (hp : (PySem.backTo pos (PySem.starEach es X.env)).any (·.1) = false := by rfl) :
    PE X (.Call (.Name x p) (.Name y py :: es) [] pos) (tM X.K (mDraw m ms)) := q_drawAt 0 F hr hgd hg h0 ha hk hd he hp
/-! ### items, slices -/
theorem atD_get {K : PySem.W.Frag} {H : Hp} {A : Addr → Prop} {vs : List V} {ds : List D} {i : Int} {d : D} (h : DrAll K H A vs ds) (e : atD ds i = some d) : ∃ v, L2.atI vs i = some v ∧ Dr K H A v d := by
  have hl := h.length
  unfold atD at e
  obtain ⟨j, h1, h2⟩ := Option.bind_eq_some_iff.mp e
  obtain ⟨v, h3, h4⟩ := (h.get j).2 d h2
  refine ⟨v, ?_, h4⟩
  unfold L2.atI
  rw [hl]
  show (ixD ds.length i).bind _ = _
  rw [h1]
  exact h3
theorem q_ix (ha : PE X a (tM X.K ma)) (hb : PE X b (tM X.K mb)) (hs : L2.PlainIx b := by exact fun _ _ => rfl) : PE X (.Subscript a b pos) (tM X.K (mBin oIx ma mb)) := by
  refine PE_imp (L2.pe_ix (L2.IxR.or L2.ix_list L2.ix_tup) ha hb hs) (cmp_imp fun A pot H x y dx dy z t hx hy e Q q => ?_)
  unfold oIx at e
  split at e
  · split at e
    · rename_i ha
      cases e
      obtain ⟨a, vs, rfl, h1, h2⟩ := hx.list
      cases hy.int
      obtain ⟨v, h3, h4⟩ := atD_get h2 ha
      exact .inl ⟨a, vs, _, v, rfl, rfl, .inl (.inl h1), h3, q _ _ (L2.Same.refl H) h4⟩
    · cases e
  · split at e
    · rename_i ha
      cases e
      obtain ⟨_, a, vs, rfl, h1, h2⟩ := hx.tup
      cases hy.int
      obtain ⟨v, h3, h4⟩ := atD_get h2 ha
      exact .inr ⟨a, vs, _, v, rfl, rfl, h1, h3, q _ _ (L2.Same.refl H) h4⟩
    · cases e
  · cases e
def tMO (K : PySem.W.Frag) (m : MO) : L2.TO := fun σ H Q => ∃ B pot os env st, ERep K B pot os H σ env st ∧ ∃ o st', m env st = .ok (o, st') ∧ ∀ H', Keep pot H H' → ERep K B pot os H' σ env st' → Q o H'
theorem o_none : L2.PO X none (tMO X.K oNone) := ⟨fun pins s σ H Q I ⟨B, pot, os, env, st, E, o, st', hm, hQ⟩ => by
  cases hm
  exact L2.po_none.run pins s σ H Q I (hQ H Keep.refl E)⟩
theorem o_some (ha : PE X a (tM X.K ma)) : L2.PO X (some a) (tMO X.K (oSome ma)) := ⟨fun pins s σ H Q I ⟨B, pot, os, env, st, E, o, st', hm, hQ⟩ => by
  obtain ⟨x, ex, hm⟩ := R.bind_ok hm
  obtain ⟨x1, x2⟩ := x
  dsimp only at hm
  split at hm
  · cases hm
    refine (L2.po_some ha).run pins s σ H Q I ⟨B, pot, os, env, st, E, _, _, ex, fun v H' k p => ?_⟩
    obtain ⟨E1, q⟩ := p
    cases q
    exact ⟨_, rfl, hQ H' k E1⟩
  · cases hm⟩
theorem cutV_D {K : PySem.W.Frag} {H : Hp} {A : Addr → Prop} {vs : List V} {ds : List D} {lo hi : Option Int} (h : DrAll K H A vs ds) : DrAll K H A (L2.cutV vs lo hi) (cutD ds lo hi) := by
  have hl := h.length
  unfold L2.cutV
  rw [hl]
  exact (h.drop _).take _
theorem q_cut {lo hi : Option PySem.Expr} {ml mh : MO} {p2 : PySem.Pos} (ha : PE X a (tM X.K ma)) (hlo : L2.PO X lo (tMO X.K ml)) (hhi : L2.PO X hi (tMO X.K mh)) : PE X (.Subscript a (.Slice lo hi none p2) pos) (tM X.K (mCut ma ml mh)) := by
  refine PE_imp (L2.pe_slice (L2.SlR.or L2.sl_list L2.sl_tupA) ha hlo hhi) fun σ H Q ⟨B, pot, os, env, st, E, e, st', hm, hQ⟩ => ?_
  obtain ⟨x, ex, hm⟩ := R.bind_ok hm
  obtain ⟨u, eu, hm⟩ := R.bind_ok hm
  obtain ⟨y, ey, hm⟩ := R.bind_ok hm
  obtain ⟨z, ez, hm⟩ := R.bind_ok hm
  obtain ⟨q, eq, hm⟩ := R.bind_ok hm
  cases hm
  refine ⟨B, pot, os, env, st, E, _, _, ex, fun v1 H1 k1 p1 => ?_⟩
  obtain ⟨E1, w1⟩ := p1.view E eu
  refine ⟨B, pot, os, env, _, E1, _, _, ey, fun H2 k2 E2 => ?_⟩
  refine ⟨B, pot, os, env, _, E2, _, _, ez, fun H3 k3 E3 => ?_⟩
  have w3 := (w1.keep E1 k2).keep E2 k3
  have kk := (k1.trans k2).trans k3
  unfold cutO at eq
  split at eq
  · cases eq
    obtain ⟨a, vs, rfl, h1, h2⟩ := w3.list
    refine .inl ⟨a, vs, rfl, .inl (.inl h1), fun p n => ?_⟩
    obtain ⟨k4, q4⟩ := EPost.of E3 kk (Same.new n) (z_lst n (cutV_D (lo := y.1) (hi := z.1) h2))
    exact hQ _ _ k4 q4
  · cases eq
    obtain ⟨d1, a, vs, rfl, h1, h2⟩ := w3.tup
    refine .inr ⟨a, vs, rfl, h1, fun hw => ?_, fun _ p n => ?_⟩
    · have e4 : ∀ ds : List D, vs.length = ds.length → cutD ds y.1 z.1 = ds := fun ds hl => by
        unfold cutD
        rw [hl] at hw
        have h5 : sIxD ds.length 0 y.1 = 0 := hw.1
        have h6 : sIxD ds.length ds.length z.1 = ds.length := hw.2
        rw [h5, h6, List.drop_zero, Nat.sub_zero, List.take_length]
      refine hQ _ _ kk ⟨E3, ?_⟩
      rw [e4 _ h2.length]
      exact d1
    · obtain ⟨k4, q4⟩ := EPost.of E3 kk (Same.new n) (z_tup E3.tr n (cutV_D (lo := y.1) (hi := z.1) h2))
      exact hQ _ _ k4 q4
  · cases eq
theorem q_revL {k : Nat} {p1 p2 p3 : PySem.Pos} (ha : PE X a (tM X.K ma)) : PE X (.Subscript a (.Slice none none (some (.UnaryOp .USub (.Constant (.int 1) k p1) p2)) p3) pos) (tM X.K (mUn revLO ma)) := by
  refine PE_imp (L2.pe_revL ha) fun σ H Q ⟨B, pot, os, env, st, E, e, st', hm, hQ⟩ => ?_
  obtain ⟨x, ex, hm⟩ := R.bind_ok hm
  obtain ⟨u, eu, hm⟩ := R.bind_ok hm
  obtain ⟨z, ez, hm⟩ := R.bind_ok hm
  cases hm
  refine ⟨B, pot, os, env, st, E, _, _, ex, fun v1 H1 k1 p1 => ?_⟩
  obtain ⟨E1, w1⟩ := p1.view E eu
  unfold revLO at ez
  split at ez
  · cases ez
    obtain ⟨a, vs, rfl, h1, h2⟩ := w1.list
    refine ⟨a, vs, rfl, .inl (.inl h1), fun p n => ?_⟩
    obtain ⟨k4, q4⟩ := EPost.of E1 k1 (Same.new n) (z_lst n h2.reverse)
    exact hQ _ _ k4 q4
  · cases ez
end
end BP

namespace BP
open L2 (V Hp HO St TE TT TA TS TG TI It Ends Cx PE PT PW PA PS PSs PG PI Inv upd upd_same upd_ne OpR UnR CallR Same VK XK Sp Room Vals RelV FnScope PK CX0 E0)
section
variable {X : Cx} {K : PySem.W.Frag} {H : Hp} {A : Addr → Prop} {pot : Option Addr} {xs : List V}
theorem vw1 {d : D} (h : VwAll K H A pot xs [d]) : ∃ x, xs = [x] ∧ Vw K H A pot x d := by
  cases h with
  | cons h t =>
    cases t
    exact ⟨_, rfl, h⟩
theorem vw2 {d e : D} (h : VwAll K H A pot xs [d, e]) : ∃ x y, xs = [x, y] ∧ Vw K H A pot x d ∧ Vw K H A pot y e := by
  cases h with
  | cons h t =>
    cases t with
    | cons h2 t2 =>
      cases t2
      exact ⟨_, _, rfl, h, h2⟩
theorem ints_of {vs : List V} : ∀ {ds : List D} {ns : List Int}, intsOf ds = some ns → ∀ {vs : List V}, DrAll K H A vs ds → vs = ns.map V.int
  | [], ns, e, _, h => by
    cases e
    cases h
    rfl
  | d :: ds, ns, e, _, h => by
    cases h with
    | cons h1 h2 =>
      cases d with
      | int i =>
        unfold intsOf at e
        cases q : intsOf ds with
        | none => rw [q] at e; cases e
        | some ms =>
          rw [q] at e
          cases e
          cases h1
          rw [ints_of (vs := vs) q h2]
          rfl
      | _ => cases e
theorem bools_of {vs : List V} : ∀ {ds : List D} {ns : List Bool}, boolsOf ds = some ns → ∀ {vs : List V}, DrAll K H A vs ds → vs = ns.map V.bl
  | [], ns, e, _, h => by
    cases e
    cases h
    rfl
  | d :: ds, ns, e, _, h => by
    cases h with
    | cons h1 h2 =>
      cases d with
      | bool i =>
        unfold boolsOf at e
        cases q : boolsOf ds with
        | none => rw [q] at e; cases e
        | some ms =>
          rw [q] at e
          cases e
          cases h1
          rw [bools_of (vs := vs) q h2]
          rfl
      | _ => cases e
theorem cm_len : CallM X (.builtin "len") bLen := by
  refine ⟨_, L2.CallR.or L2.call_len_seq (L2.CallR.or L2.call_lenD L2.call_len_str), fun A pot H xs ds z t h e Q q => ?_⟩
  unfold bLen at e
  split at e
  · cases e
    obtain ⟨x, rfl, w⟩ := vw1 h
    obtain ⟨a, vs, rfl, h1, h2⟩ := w.list
    rw [← h2.length] at q
    exact .inl ⟨a, vs, rfl, .inl (.inl (.inl h1)), q _ _ (L2.Same.refl H) z_int⟩
  · cases e
    obtain ⟨x, rfl, w⟩ := vw1 h
    obtain ⟨_, a, vs, rfl, h1, h2⟩ := w.tup
    rw [← h2.length] at q
    exact .inl ⟨a, vs, rfl, .inr h1, q _ _ (L2.Same.refl H) z_int⟩
  · cases e
    obtain ⟨x, rfl, w⟩ := vw1 h
    rcases w with w | ⟨_, _, _, _, z, _⟩
    · cases w with
      | dic h1 h2 h3 =>
        rename_i a kvs ds
        have hl := h3.length
        refine .inr (.inl ⟨_, _, rfl, h2, q _ _ (L2.Same.refl H) ?_⟩)
        have e1 : ((kvs.map fun p => keyD p.1).zip ds).length = kvs.length := by
          rw [List.length_zip, List.length_map, ← hl, List.length_map]
          omega
        rw [e1]
        exact z_int
    · cases z
  · split at e
    · rename_i hl
      cases e
      obtain ⟨x, rfl, w⟩ := vw1 h
      cases w.str
      exact .inr (.inr ⟨_, rfl, Nat.le_trans hl (by decide), q _ _ (L2.Same.refl H) z_int⟩)
    · cases e
  · cases e
theorem cm_abs : CallM X (.builtin "abs") bAbs := by
  refine ⟨_, L2.call_abs, fun A pot H xs ds z t h e Q q => ?_⟩
  unfold bAbs at e
  split at e
  · cases e
    obtain ⟨x, rfl, w⟩ := vw1 h
    cases w.int
    exact ⟨_, rfl, q _ _ (L2.Same.refl H) z_int⟩
  · cases e
theorem cm_int : CallM X (.type "int") bInt := by
  refine ⟨_, L2.call_int1, fun A pot H xs ds z t h e Q q => ?_⟩
  unfold bInt at e
  split at e
  · cases e
    obtain ⟨x, rfl, w⟩ := vw1 h
    cases w.int
    exact .inl ⟨_, rfl, q _ _ (L2.Same.refl H) z_int⟩
  · cases e
    obtain ⟨x, rfl, w⟩ := vw1 h
    cases w.bool
    exact .inr ⟨_, rfl, q _ _ (L2.Same.refl H) z_int⟩
  · cases e
theorem foldl_max : ∀ (r : List Int) (x : Int), r.foldl max x ∈ x :: r ∧ ∀ y ∈ x :: r, y ≤ r.foldl max x
  | [], x => ⟨List.mem_singleton.mpr rfl, fun y h => by
    rw [List.mem_singleton.mp h]
    exact Int.le_refl _⟩
  | b :: r, x => by
    obtain ⟨h1, h2⟩ := foldl_max r (max x b)
    refine ⟨?_, fun y h => ?_⟩
    · show r.foldl max (max x b) ∈ x :: b :: r
      rcases List.mem_cons.mp h1 with h | h
      · rw [h]
        rcases Int.le_total x b with z | z
        · rw [Int.max_eq_right z]
          exact List.mem_cons_of_mem _ List.mem_cons_self
        · rw [Int.max_eq_left z]
          exact List.mem_cons_self
      · exact List.mem_cons_of_mem _ (List.mem_cons_of_mem _ h)
    · show y ≤ r.foldl max (max x b)
      have h3 := h2 (max x b) List.mem_cons_self
      rcases List.mem_cons.mp h with rfl | h
      · omega
      · rcases List.mem_cons.mp h with rfl | h
        · omega
        · exact h2 y (List.mem_cons_of_mem _ h)
theorem foldl_min : ∀ (r : List Int) (x : Int), r.foldl min x ∈ x :: r ∧ ∀ y ∈ x :: r, r.foldl min x ≤ y
  | [], x => ⟨List.mem_singleton.mpr rfl, fun y h => by
    rw [List.mem_singleton.mp h]
    exact Int.le_refl _⟩
  | b :: r, x => by
    obtain ⟨h1, h2⟩ := foldl_min r (min x b)
    refine ⟨?_, fun y h => ?_⟩
    · show r.foldl min (min x b) ∈ x :: b :: r
      rcases List.mem_cons.mp h1 with h | h
      · rw [h]
        rcases Int.le_total x b with z | z
        · rw [Int.min_eq_left z]
          exact List.mem_cons_self
        · rw [Int.min_eq_right z]
          exact List.mem_cons_of_mem _ List.mem_cons_self
      · exact List.mem_cons_of_mem _ (List.mem_cons_of_mem _ h)
    · show r.foldl min (min x b) ≤ y
      have h3 := h2 (min x b) List.mem_cons_self
      rcases List.mem_cons.mp h with rfl | h
      · omega
      · rcases List.mem_cons.mp h with rfl | h
        · omega
        · exact h2 y (List.mem_cons_of_mem _ h)
theorem cm_max (hc : X.calm = true) : CallM X (.builtin "max") bMax := by
  refine ⟨_, L2.CallR.or (L2.call_max2 hc) (L2.cr_max hc), fun A pot H xs ds z t h e Q q => ?_⟩
  unfold bMax at e
  split at e
  · cases e
    obtain ⟨x, y, rfl, w, w2⟩ := vw2 h
    cases w.int; cases w2.int
    exact .inl ⟨_, _, rfl, q _ _ (L2.Same.refl H) z_int⟩
  · split at e
    · rename_i x r hx
      cases e
      obtain ⟨x, rfl, w⟩ := vw1 h
      obtain ⟨a, vs, rfl, h1, h2⟩ := w.list
      obtain ⟨g1, g2⟩ := foldl_max r x
      have ev := ints_of (vs := []) hx h2
      rw [ev] at h1
      refine .inr ⟨a, x :: r, rfl, .inl (.inl h1), Nat.succ_pos _, fun m hm hle => ?_⟩
      have em : m = r.foldl max x := Int.le_antisymm (g2 m hm) (hle _ g1)
      rw [em]
      exact q _ _ (L2.Same.refl H) z_int
    · cases e
  · cases e
theorem cm_min (hc : X.calm = true) : CallM X (.builtin "min") bMin := by
  refine ⟨_, L2.CallR.or (L2.call_min2 hc) (L2.cr_min hc), fun A pot H xs ds z t h e Q q => ?_⟩
  unfold bMin at e
  split at e
  · cases e
    obtain ⟨x, y, rfl, w, w2⟩ := vw2 h
    cases w.int; cases w2.int
    exact .inl ⟨_, _, rfl, q _ _ (L2.Same.refl H) z_int⟩
  · split at e
    · rename_i x r hx
      cases e
      obtain ⟨x, rfl, w⟩ := vw1 h
      obtain ⟨a, vs, rfl, h1, h2⟩ := w.list
      obtain ⟨g1, g2⟩ := foldl_min r x
      have ev := ints_of (vs := []) hx h2
      rw [ev] at h1
      refine .inr ⟨a, x :: r, rfl, .inl (.inl h1), Nat.succ_pos _, fun m hm hle => ?_⟩
      have em : m = r.foldl min x := Int.le_antisymm (hle _ g1) (g2 m hm)
      rw [em]
      exact q _ _ (L2.Same.refl H) z_int
    · cases e
  · cases e
theorem cm_sum (hc : X.calm = true) : CallM X (.builtin "sum") bSum := by
  refine ⟨_, L2.cr_sum hc, fun A pot H xs ds z t h e Q q => ?_⟩
  unfold bSum at e
  split at e
  · split at e
    · rename_i hx
      cases e
      obtain ⟨x, rfl, w⟩ := vw1 h
      obtain ⟨a, vs, rfl, h1, h2⟩ := w.list
      rw [ints_of (vs := []) hx h2] at h1
      exact ⟨a, _, rfl, .inl (.inl h1), q _ _ (L2.Same.refl H) z_int⟩
    · cases e
  · cases e
theorem cm_all (hc : X.calm = true) : CallM X (.builtin "all") bAll := by
  refine ⟨_, L2.cr_all hc, fun A pot H xs ds z t h e Q q => ?_⟩
  unfold bAll at e
  split at e
  · split at e
    · rename_i hx
      cases e
      obtain ⟨x, rfl, w⟩ := vw1 h
      obtain ⟨a, vs, rfl, h1, h2⟩ := w.list
      rw [bools_of (vs := []) hx h2] at h1
      exact ⟨a, _, rfl, .inl (.inl h1), q _ _ (L2.Same.refl H) z_bl⟩
    · cases e
  · cases e
theorem cm_any (hc : X.calm = true) : CallM X (.builtin "any") bAny := by
  refine ⟨_, L2.cr_any hc, fun A pot H xs ds z t h e Q q => ?_⟩
  unfold bAny at e
  split at e
  · split at e
    · rename_i hx
      cases e
      obtain ⟨x, rfl, w⟩ := vw1 h
      obtain ⟨a, vs, rfl, h1, h2⟩ := w.list
      rw [bools_of (vs := []) hx h2] at h1
      exact ⟨a, _, rfl, .inl (.inl h1), q _ _ (L2.Same.refl H) z_bl⟩
    · cases e
  · cases e
theorem cm_list : CallM X (.type "list") bList := by
  refine ⟨_, L2.call_list_of, fun A pot H xs ds z t h e Q q => ?_⟩
  unfold bList at e
  split at e
  · cases e
    obtain ⟨x, rfl, w⟩ := vw1 h
    obtain ⟨a, vs, rfl, h1, h2⟩ := w.list
    exact ⟨a, vs, rfl, .inl (.inl (.inl h1)), fun p n => q _ _ (Same.new n) (z_lst n h2)⟩
  · cases e
    obtain ⟨x, rfl, w⟩ := vw1 h
    obtain ⟨_, a, vs, rfl, h1, h2⟩ := w.tup
    exact ⟨a, vs, rfl, .inr h1, fun p n => q _ _ (Same.new n) (z_lst n h2)⟩
  · cases e
theorem cm_tuple : CallM X (.type "tuple") bTuple := by
  refine ⟨_, L2.call_tuple_of, fun A pot H xs ds z t h e Q q => ?_⟩
  unfold bTuple at e
  split at e
  · cases e
    obtain ⟨x, rfl, w⟩ := vw1 h
    obtain ⟨a, vs, rfl, h1, h2⟩ := w.list
    exact ⟨a, vs, rfl, .inl ⟨.inl (.inl h1), fun p n => q _ _ (Same.new n) (z_tup t n h2)⟩⟩
  · cases e
    obtain ⟨x, rfl, w⟩ := vw1 h
    obtain ⟨d1, a, vs, rfl, h1, h2⟩ := w.tup
    exact ⟨a, vs, rfl, .inr ⟨h1, q _ _ (L2.Same.refl H) d1⟩⟩
  · cases e
end
/-! ### repr -/
def SysB (base : PySem.Heap) : Prop := ∃ o, base.get? PySem.sysModules = some o
section
variable {X : Cx} {pins : List (Addr × PySem.Obj)} {σ : St} {H : Hp} {s : PySem.Shared} {A : Addr → Prop}
theorem Inv.sys (I : Inv X pins σ H s) (hs : SysB X.base) {a : Addr} {o : HO} (h : H a = some o) : PySem.sysModules ≠ a := fun z => by
  obtain ⟨ob, e⟩ := hs
  have := (I.bs _ _ e).2
  rw [z, h] at this
  cases this
mutual
theorem Dr.reads (I : Inv X pins σ H s) (hs : SysB X.base) : ∀ (d : D) (v : V) (u : PySem.Value), noKeys d = true → Dr X.K H A v d → RelV v u → ∃ as, PySem.Reads s.heap u d as ∧ PySem.sysModules ∉ as
  | .none, _, _, _, .non, r => by
    cases r
    exact ⟨_, .none, fun z => List.not_mem_nil z⟩
  | .bool _, _, _, _, .bl b, r => by
    cases r
    exact ⟨_, .bool b, fun z => List.not_mem_nil z⟩
  | .int _, _, _, _, .int i, r => by
    obtain ⟨t, rfl⟩ := r
    exact ⟨_, .int i t, fun z => List.not_mem_nil z⟩
  | .str _, _, _, _, .str x, r => by
    obtain ⟨t, rfl⟩ := r
    exact ⟨_, .str x t, fun z => List.not_mem_nil z⟩
  | .list ds, _, _, c, .lst h1 h2 h3, r => by
    cases r
    obtain ⟨its, rv, ⟨o, n, ho, hc, _, hd⟩, _⟩ := I.list (.inl (.inl h2))
    obtain ⟨as, hr, hn⟩ := DrAll.reads I hs ds _ its (by simpa [noKeys] using c) h3 rv
    refine ⟨_, .list ho hc hd hr, fun z => ?_⟩
    rcases List.mem_cons.mp z with z | z
    · exact Inv.sys I hs h2 z
    · exact hn z
  | .tuple ds, _, _, c, h@(.tup _ _), r => by
    obtain ⟨xs, h1, h3⟩ : ∃ xs, L2.SqT X.K H _ xs ∧ DrAll X.K H A xs ds := Dr.sqt h
    cases r
    obtain ⟨its, rv, ⟨o, ho, hc, n, hd⟩, _⟩ := I.tuple h1
    obtain ⟨as, hr, hn⟩ := DrAll.reads I hs ds _ its (by simpa [noKeys] using c) h3 rv
    exact ⟨_, .tuple ho hc hd hr, hn⟩
  | .dict kvs, _, _, c, h, r => by
    cases kvs with
    | cons _ _ => simp [noKeys] at c
    | nil =>
      generalize e : PySem.PyData.dict [] = d at h
      cases h with
      | dic h1 h2 h3 =>
        rename_i a kvs ds
        have e1 := PySem.PyData.dict.inj e
        have hl := h3.length
        have e2 : kvs = [] := by
          cases kvs with
          | nil => rfl
          | cons p r =>
            cases ds with
            | nil => cases hl
            | cons _ _ => cases e1
        subst e2
        cases r
        obtain ⟨_, hy, vs, kv, o, es, ep, ho, hx, hd, _, pr, _⟩ := (show L2.ObjOk X.prog X.w H s.heap a (.dK []) from I.hok a _ h2)
        cases kv
        have e3 : es = #[] := by
          have := pr
          cases q : es.toList with
          | nil => exact Array.toList_eq_nil_iff.mp q
          | cons x r =>
            rw [q] at this
            cases this
        subst e3
        refine ⟨_, .dict (kvs := []) ho hx.1 hd .nil .nil, fun z => ?_⟩
        rcases List.mem_append.mp z with z | z
        · rcases List.mem_cons.mp z with z | z
          · rw [z] at hy
            simp at hy
          · exact List.not_mem_nil z
        · exact List.not_mem_nil z
      | _ => cases e
theorem DrAll.reads (I : Inv X pins σ H s) (hs : SysB X.base) : ∀ (ds : List D) (vs : List V) (us : List PySem.Value), noKeysAll ds = true → DrAll X.K H A vs ds → Vals vs us → ∃ as, PySem.ReadsAll s.heap us ds as ∧ PySem.sysModules ∉ as
  | [], _, _, _, .nil, r => by
    cases r
    exact ⟨_, .nil, fun z => List.not_mem_nil z⟩
  | d :: ds, _, _, c, .cons h1 h2, r => by
    cases r with
    | cons r1 r2 =>
      have c2 : noKeys d = true ∧ noKeysAll ds = true := by simpa [noKeysAll] using c
      obtain ⟨as, q1, n1⟩ := Dr.reads I hs d _ _ c2.1 h1 r1
      obtain ⟨bs, q2, n2⟩ := DrAll.reads I hs ds _ _ c2.2 h2 r2
      refine ⟨_, .cons q1 q2, fun z => ?_⟩
      rcases List.mem_append.mp z with z | z
      · exact n1 z
      · exact n2 z
end
theorem Vw.reads {pot : Option Addr} {d : D} {v : V} {u : PySem.Value} (I : Inv X pins σ H s) (hs : SysB X.base) (c : noKeys d = true) (h : Vw X.K H A pot v d) (r : RelV v u) : ∃ as, PySem.Reads s.heap u d as ∧ PySem.sysModules ∉ as := by
  rcases h with h | ⟨a, vs, ds, rfl, rfl, _, h1, h2⟩
  · exact h.reads I hs d v u c r
  · cases r
    obtain ⟨its, rv, ⟨o, n, ho, hc, _, hd⟩, _⟩ := I.list (.inl (.inl h1))
    obtain ⟨as, hr, hn⟩ := DrAll.reads I hs ds _ its (by simpa [noKeys] using c) h2 rv
    refine ⟨_, .list ho hc hd hr, fun z => ?_⟩
    rcases List.mem_cons.mp z with z | z
    · exact Inv.sys I hs h1 z
    · exact hn z
end
section
variable {X : Cx}
def rRepr (K : PySem.W.Frag) : List V → Hp → VK → Prop := fun xs H Q => ∃ v d A pot, xs = [v] ∧ Vw K H A pot v d ∧ reprOk d = true ∧ Q (.str d.shown) H
theorem call_repr (hs : SysB X.base) (hgd : X.A.guards = some []) (hu : X.A.units + 100 < PySem.cLine) : CallR X (.builtin "repr") (rRepr X.K) := by
  intro pins s σ H xs us Q I r h
  obtain ⟨v, d, A, pot, rfl, h, c, q⟩ := h
  obtain ⟨u, rfl, ru⟩ := L2.vals1 r
  obtain ⟨c1, c2⟩ := Bool.and_eq_true_iff.mp c
  obtain ⟨c3, c4⟩ := Bool.and_eq_true_iff.mp c2
  obtain ⟨c5, c6⟩ := Bool.and_eq_true_iff.mp c4
  have hz : d.shown.length ≤ PySem.sizeLine := Nat.le_trans (of_decide_eq_true c3) (by decide)
  have hd : d.depth ≤ 64 := of_decide_eq_true c5
  have fin : ∀ (tk : Nat) (t : PySem.Tok), L2.EP X pins σ Q (.str d.shown t) { s with toks := tk } := fun tk t => ⟨.str d.shown, H, I.tok _, ⟨_, rfl⟩, q⟩
  have ref_ : ∀ a, u = .ref a → PySem.wpAny (PySem.model X.prog X.w) X.A (PySem.call (.builtin "repr") [u]) (L2.EP X pins σ Q) X.xe s := fun a ea => by
    subst ea
    obtain ⟨as, rd, nm⟩ := h.reads I hs c6 ru
    refine PySem.repr_of_reads' rd c1 (fun _ => nm) hgd (by omega) (fun _ _ e => e) (fun h' u tk k => ?_) hz
    exact ⟨.str d.shown, H, I.kept (t' := tk) k, ⟨_, rfl⟩, q⟩
  cases d with
  | none =>
    cases h.none
    cases ru
    exact PySem.P.repr_of_none (fin _ _)
  | bool b =>
    cases h.bool
    cases ru
    refine PySem.P.repr_of_bool ?_
    have := fin (s.toks + 1) s.toks
    cases b <;> exact this
  | int i =>
    cases h.int
    obtain ⟨t, rfl⟩ := ru
    exact PySem.P.repr_of_int (of_decide_eq_true (by simpa [PySem.PyData.showable] using c1)) (fin _ _)
  | str x =>
    cases h.str
    obtain ⟨t, rfl⟩ := ru
    exact PySem.P.repr_of_str (fin _ _) hz
  | list ds =>
    obtain ⟨a, vs, rfl, _⟩ := h.list
    exact ref_ a ru
  | tuple ds =>
    obtain ⟨_, a, vs, rfl, _⟩ := h.tup
    exact ref_ a ru
  | dict kvs =>
    have h2 := h
    rcases h2 with h2 | ⟨_, _, _, _, z, _⟩
    · cases h2 with
      | dic _ _ _ => exact ref_ _ ru
    · cases z
theorem cm_repr (hs : SysB X.base) (hgd : X.A.guards = some []) {k : Nat} (hr : Room k X.A) : CallM X (.builtin "repr") bRepr := by
  refine ⟨_, call_repr hs hgd (by have := hr.un; omega), fun A pot H xs ds z t h e Q q => ?_⟩
  unfold bRepr at e
  split at e
  · split at e
    · rename_i hl
      cases e
      obtain ⟨x, rfl, w⟩ := vw1 h
      exact ⟨x, _, A, pot, rfl, w, hl, q _ _ (L2.Same.refl H) (.str _)⟩
    · cases e
  · cases e
end
end BP

namespace BP
open L2 (V Hp HO St TE TT TA TS TG TI It Ends Cx PE PT PW PA PS PSs PG PI Inv upd upd_same upd_ne OpR UnR CallR Same VK XK Sp Room Vals RelV FnScope PK CX0 E0)
/-! ### isinstance -/
def tyN : D → String
  | .none => "NoneType"
  | .bool _ => "bool"
  | .int _ => "int"
  | .str _ => "str"
  | .list _ => "list"
  | .tuple _ => "tuple"
  | .dict _ => "dict"
section
variable {X : Cx} {a b c : PySem.Expr} {ma mb mc : ME} {pos : PySem.Pos}
theorem Vw.ty {K : PySem.W.Frag} {H : Hp} {A : Addr → Prop} {pot : Option Addr} {d : D} {v : V} (h : Vw K H A pot v d) : L2.TyX K H v (.type (tyN d)) := by
  cases d with
  | none => cases h.none; exact .base .non
  | bool b => cases h.bool; exact .base (.bl b)
  | int i => cases h.int; exact .base (.int i)
  | str x => cases h.str; exact .base (.str x)
  | list ds =>
    obtain ⟨a, vs, rfl, h1, _⟩ := h.list
    exact .base (.lst h1)
  | tuple ds =>
    have h2 := h.tup.1
    cases h2 with
    | tup h3 _ =>
      rcases h3 with ⟨_, h3⟩ | ⟨o, its, n, h3, h4, _⟩
      · exact .base (.tup h3)
      · exact .kTuple h3 h4
  | dict kvs =>
    rcases h with h | ⟨_, _, _, _, z, _⟩
    · cases h with
      | dic _ h3 _ => exact .base (.dK h3)
    · cases z
theorem q_isi1 {T : String} {y : PySem.Str} {t : Ty} {p q : PySem.Pos} (hT : ∀ d, L2.kitB (tyN d) T = some (isI t d)) (ha : PE X a (tM X.K ma)) (hg : L2.Gl X "isinstance") (hm : X.mg "isinstance" = none) (hgt : L2.Gl X y) (hmt : X.mg y = none) (hvt : PySem.bootBuiltins y = some (.type T))
    (hv : PySem.bootBuiltins "isinstance" = some (.builtin "isinstance")) (hn : y ≠ "__name__" := by decide) (hd : (y == ("__debug__" : PySem.Str)) = false := by decide)
    (he : PySem.starEach [a, .Name y q] X.env = (false, PySem.eval a X.env) :: PySem.starEach [.Name y q] X.env := by rfl) (he2 : PySem.starEach [.Name y q] X.env = (false, PySem.eval (.Name y q) X.env) :: PySem.starEach [] X.env := by rfl) (hp : (PySem.backTo pos (PySem.starEach [.Name y q] X.env)).any (·.1) = false := by rfl) :
    PE X (.Call (.Name "isinstance" p) [a, .Name y q] [] pos) (tM X.K (mUn (oIsI t) ma)) := by
  refine PE_imp (L2.pe_callB L2.call_isi hg hm hv (L2.pa_cons ha (L2.pa_cons (L2.pe_bltn hgt hmt hvt (v := .ty T) rfl hn hd) L2.pa_nil he2) he) (by decide) (by decide) he hp) fun σ H Q ⟨B, pot, os, env, st, E, e, st', hm, hQ⟩ => ?_
  obtain ⟨x, ex, hm⟩ := BP.R.bind_ok hm
  obtain ⟨u, eu, hm⟩ := BP.R.bind_ok hm
  obtain ⟨z, ez, hm⟩ := BP.R.bind_ok hm
  cases hm
  cases ez
  refine ⟨B, pot, os, env, st, E, _, _, ex, fun v1 H1 k1 p1 => ?_⟩
  obtain ⟨E1, w1⟩ := p1.view E eu
  exact ⟨v1, .ty T, .type (tyN u), .type T, isI t u, rfl, .ty T, w1.ty, L2.kit_ty (hT u), hQ _ H1 k1 ⟨E1, .bl _⟩⟩
theorem hT_int : ∀ d, L2.kitB (tyN d) "int" = some (isI .int d)
  | .none => (by decide +kernel : L2.kitB "NoneType" "int" = some false)
  | .bool _ => (by decide +kernel : L2.kitB "bool" "int" = some true)
  | .int _ => (by decide +kernel : L2.kitB "int" "int" = some true)
  | .str _ => (by decide +kernel : L2.kitB "str" "int" = some false)
  | .list _ => (by decide +kernel : L2.kitB "list" "int" = some false)
  | .tuple _ => (by decide +kernel : L2.kitB "tuple" "int" = some false)
  | .dict _ => (by decide +kernel : L2.kitB "dict" "int" = some false)
theorem hT_bool : ∀ d, L2.kitB (tyN d) "bool" = some (isI .bool d)
  | .none => (by decide +kernel : L2.kitB "NoneType" "bool" = some false)
  | .bool _ => (by decide +kernel : L2.kitB "bool" "bool" = some true)
  | .int _ => (by decide +kernel : L2.kitB "int" "bool" = some false)
  | .str _ => (by decide +kernel : L2.kitB "str" "bool" = some false)
  | .list _ => (by decide +kernel : L2.kitB "list" "bool" = some false)
  | .tuple _ => (by decide +kernel : L2.kitB "tuple" "bool" = some false)
  | .dict _ => (by decide +kernel : L2.kitB "dict" "bool" = some false)
theorem hT_str : ∀ d, L2.kitB (tyN d) "str" = some (isI .str d)
  | .none => (by decide +kernel : L2.kitB "NoneType" "str" = some false)
  | .bool _ => (by decide +kernel : L2.kitB "bool" "str" = some false)
  | .int _ => (by decide +kernel : L2.kitB "int" "str" = some false)
  | .str _ => (by decide +kernel : L2.kitB "str" "str" = some true)
  | .list _ => (by decide +kernel : L2.kitB "list" "str" = some false)
  | .tuple _ => (by decide +kernel : L2.kitB "tuple" "str" = some false)
  | .dict _ => (by decide +kernel : L2.kitB "dict" "str" = some false)
theorem hT_list : ∀ d, L2.kitB (tyN d) "list" = some (isI .list d)
  | .none => (by decide +kernel : L2.kitB "NoneType" "list" = some false)
  | .bool _ => (by decide +kernel : L2.kitB "bool" "list" = some false)
  | .int _ => (by decide +kernel : L2.kitB "int" "list" = some false)
  | .str _ => (by decide +kernel : L2.kitB "str" "list" = some false)
  | .list _ => (by decide +kernel : L2.kitB "list" "list" = some true)
  | .tuple _ => (by decide +kernel : L2.kitB "tuple" "list" = some false)
  | .dict _ => (by decide +kernel : L2.kitB "dict" "list" = some false)
theorem hT_tuple : ∀ d, L2.kitB (tyN d) "tuple" = some (isI .tuple d)
  | .none => (by decide +kernel : L2.kitB "NoneType" "tuple" = some false)
  | .bool _ => (by decide +kernel : L2.kitB "bool" "tuple" = some false)
  | .int _ => (by decide +kernel : L2.kitB "int" "tuple" = some false)
  | .str _ => (by decide +kernel : L2.kitB "str" "tuple" = some false)
  | .list _ => (by decide +kernel : L2.kitB "list" "tuple" = some false)
  | .tuple _ => (by decide +kernel : L2.kitB "tuple" "tuple" = some true)
  | .dict _ => (by decide +kernel : L2.kitB "dict" "tuple" = some false)
/-- isinstance(x, (T1, T2)) -/
theorem q_isi2 {T1 T2 : String} {y1 y2 : PySem.Str} {t t1 t2 : Ty} {p q1 q2 q3 : PySem.Pos} {k : Nat} (hT1 : ∀ d, L2.kitB (tyN d) T1 = some (isI t1 d)) (hT2 : ∀ d, L2.kitB (tyN d) T2 = some (isI t2 d)) (hT : ∀ d, isI t d = (isI t1 d || isI t2 d)) (ha : PE X a (tM X.K ma)) (hg : L2.Gl X "isinstance") (hm : X.mg "isinstance" = none)
    (h1 : PE X (.Name y1 q1) (L2.tC (.ty T1))) (h2 : PE X (.Name y2 q2) (L2.tC (.ty T2)))
    (hv : PySem.bootBuiltins "isinstance" = some (.builtin "isinstance"))
    (he : PySem.starEach [a, .Tuple [.Name y1 q1, .Name y2 q2] k q3] X.env = (false, PySem.eval a X.env) :: PySem.starEach [.Tuple [.Name y1 q1, .Name y2 q2] k q3] X.env := by rfl)
    (he2 : PySem.starEach [.Tuple [.Name y1 q1, .Name y2 q2] k q3] X.env = (false, PySem.eval (.Tuple [.Name y1 q1, .Name y2 q2] k q3) X.env) :: PySem.starEach [] X.env := by rfl)
    (he3 : PySem.starEach [.Name y1 q1, .Name y2 q2] X.env = (false, PySem.eval (.Name y1 q1) X.env) :: PySem.starEach [.Name y2 q2] X.env := by rfl) (he4 : PySem.starEach [.Name y2 q2] X.env = (false, PySem.eval (.Name y2 q2) X.env) :: PySem.starEach [] X.env := by rfl)
    (hp : (PySem.backTo pos (PySem.starEach [.Tuple [.Name y1 q1, .Name y2 q2] k q3] X.env)).any (·.1) = false := by rfl) :
    PE X (.Call (.Name "isinstance" p) [a, .Tuple [.Name y1 q1, .Name y2 q2] k q3] [] pos) (tM X.K (mUn (oIsI t) ma)) := by
  refine PE_imp (L2.pe_callB L2.call_isiT hg hm hv (L2.pa_cons ha (L2.pa_cons (L2.pe_tup (L2.pa_cons h1 (L2.pa_cons h2 L2.pa_nil he4) he3)) L2.pa_nil he2) he) (by decide) (by decide) he hp) fun σ H Q ⟨B, pot, os, env, st, E, e, st', hm, hQ⟩ => ?_
  obtain ⟨x, ex, hm⟩ := BP.R.bind_ok hm
  obtain ⟨u, eu, hm⟩ := BP.R.bind_ok hm
  obtain ⟨z, ez, hm⟩ := BP.R.bind_ok hm
  cases hm
  cases ez
  refine ⟨B, pot, os, env, st, E, _, _, ex, fun v1 H1 k1 p1 => ⟨by show 2 ≤ PySem.sizeLine; decide, fun tp n => ?_⟩⟩
  obtain ⟨E1, w1⟩ := p1.view E eu
  have s1 : Same H1 (upd H1 tp (.tup [.ty T1, .ty T2])) := Same.new n
  have E2 := E1.ext s1
  have w2 := w1.keep E1 (fun b o h _ => s1 b o h)
  refine ⟨v1, tp, _, .type (tyN u), [.type T1, .type T2], isI t u, rfl, upd_same, .cons (.ty T1) (.cons (.ty T2) .nil), w2.ty, ?_, hQ _ _ (fun b o h m => s1 b o (k1 b o h m)) ⟨E2, .bl _⟩⟩
  rw [hT u]
  refine L2.kitAny_cons (L2.kit_ty (hT1 u)) (fun z => L2.kitAny_cons (L2.kit_ty (hT2 u)) (fun z2 => ?_) fun z2 => ?_) fun z => ?_
  · rw [z, z2]; rfl
  · rw [z, z2]; rfl
  · rw [z]; rfl
end
/-! ### targets -/
mutual
def gP (K : PySem.W.Frag) : Pat → TG
  | .nm i => L2.gName i
  | .tp ps => L2.gTup K ps.length (gPs K ps)
def gPs (K : PySem.W.Frag) : List Pat → L2.TGs
  | [] => L2.gNil
  | p :: ps => L2.gCons (gP K p) (gPs K ps)
end
mutual
def Pat.slots : Pat → List Nat
  | .nm i => [i]
  | .tp ps => patSlots ps
def patSlots : List Pat → List Nat
  | [] => []
  | p :: ps => p.slots ++ patSlots ps
end
theorem wipe_set {σ : St} {i : Nat} {x : Option V} : ∀ {vs : List Nat}, i ∈ vs → L2.wipe (σ.set i x) vs = L2.wipe σ vs
  | [], h => (List.not_mem_nil h).elim
  | v :: vs, h => by
    show (L2.wipe (σ.set i x) vs).set v none = (L2.wipe σ vs).set v none
    by_cases z : i ∈ vs
    · rw [wipe_set z]
    · have e : i = v := by
        rcases List.mem_cons.mp h with h | h
        · exact h
        · exact absurd h z
      subst e
      have gen : ∀ (vs : List Nat) (σ : St), i ∉ vs → L2.wipe (σ.set i x) vs = (L2.wipe σ vs).set i x := fun vs => by
        induction vs with
        | nil => intro σ _; rfl
        | cons u us ih =>
          intro σ hu
          show (L2.wipe (σ.set i x) us).set u none = ((L2.wipe σ us).set u none).set i x
          rw [ih σ (fun y => hu (List.mem_cons_of_mem _ y)), List.set_comm]
          intro y
          exact hu (by rw [y]; exact List.mem_cons_self)
      rw [gen vs σ z, List.set_set]
section
variable {K : PySem.W.Frag} {B : Addr → Prop} {pot : Option Addr} {H : Hp}
mutual
theorem gP_ok : ∀ (p : Pat) {os : List (Option Addr)} {σ : St} {env env1 : Env} {st : Pt} {v : V} {d : D} {Q : St → Hp → Prop}, ERep K B pot os H σ env st → Dr K H (av B os) v d → p.set d env = .ok env1 →
    (∀ os' σ', ERep K B pot os' H σ' env1 st → (∀ a, some a ∈ os' → some a ∈ os) → (∀ vs : List Nat, (∀ i ∈ p.slots, i ∈ vs) → L2.wipe σ' vs = L2.wipe σ vs) → (∀ j, j ∉ p.slots → os'[j]? = os[j]?) → Q σ' H) → gP K p v σ H Q
  | .nm i, os, σ, env, env1, st, v, d, Q, E, h, hs, k => by
    have hs : putE env i (.im d) = .ok env1 := by simpa [Pat.set] using hs
    unfold putE at hs
    split at hs
    · cases hs
    · rename_i hp
      cases hs
      refine k _ _ (E.setI (by simpa using hp) h) (fun a ha => ?_) (fun vs hv => wipe_set (hv i (by simp [Pat.slots]))) fun j hj => List.getElem?_set_ne fun z => hj (by simp [Pat.slots, z])
      rcases List.mem_or_eq_of_mem_set ha with ha | ha
      · exact ha
      · cases ha
  | .tp ps, os, σ, env, env1, st, v, d, Q, E, h, hs, k => by
    cases d with
    | tuple ds =>
      have hs : patSets ps ds env = .ok env1 := by simpa [Pat.set] using hs
      cases h with
      | tup h1 h2 =>
        have hl : ∀ (ps : List Pat) (ds : List D) (env env1 : Env), patSets ps ds env = .ok env1 → ps.length = ds.length := fun ps => by
          induction ps with
          | nil =>
            intro ds env env1 h
            cases ds with
            | nil => rfl
            | cons _ _ => simp [patSets] at h
          | cons p ps ih =>
            intro ds env env1 h
            cases ds with
            | nil => simp [patSets] at h
            | cons d ds =>
              simp only [patSets] at h
              obtain ⟨e2, _, h3⟩ := BP.R.bind_ok h
              exact congrArg Nat.succ (ih ds e2 env1 h3)
        show L2.gTup K ps.length (gPs K ps) _ σ H Q
        refine ⟨_, _, rfl, ?_, ?_, gPs_ok ps E h2 hs fun os' σ' E' a b c => k os' σ' E' a (fun vs hv => b vs fun i hi => hv i (by simpa only [Pat.slots] using hi)) fun j hj => c j fun hi => hj (by simpa only [Pat.slots] using hi)⟩
        · rcases h1 with h1 | h1
          · exact .inl (.inl h1.2)
          · exact .inr h1
        · rw [h2.length, hl _ _ _ _ hs]
    | _ => simp [Pat.set] at hs
theorem gPs_ok : ∀ (ps : List Pat) {os : List (Option Addr)} {σ : St} {env env1 : Env} {st : Pt} {vs : List V} {ds : List D} {Q : St → Hp → Prop}, ERep K B pot os H σ env st → DrAll K H (av B os) vs ds → patSets ps ds env = .ok env1 →
    (∀ os' σ', ERep K B pot os' H σ' env1 st → (∀ a, some a ∈ os' → some a ∈ os) → (∀ vs : List Nat, (∀ i ∈ patSlots ps, i ∈ vs) → L2.wipe σ' vs = L2.wipe σ vs) → (∀ j, j ∉ patSlots ps → os'[j]? = os[j]?) → Q σ' H) → gPs K ps vs σ H Q
  | [], os, σ, env, env1, st, vs, ds, Q, E, h, hs, k => by
    cases h with
    | nil =>
      simp [patSets] at hs
      subst hs
      exact ⟨rfl, k os σ E (fun _ h => h) (fun _ _ => rfl) fun _ _ => rfl⟩
    | cons _ _ => simp [patSets] at hs
  | p :: ps, os, σ, env, env1, st, vs, ds, Q, E, h, hs, k => by
    cases h with
    | nil => simp [patSets] at hs
    | cons h1 h2 =>
      simp only [patSets] at hs
      obtain ⟨e2, h3, h4⟩ := BP.R.bind_ok hs
      refine ⟨_, _, rfl, gP_ok p E h1 h3 fun os' σ' E' sub w c1 => ?_⟩
      have h2' : DrAll K H (av B os') _ _ := h2.to fun b o q z => ⟨q, fun y => z (by
        rcases y with y | y
        · exact .inl y
        · exact .inr (sub b y))⟩
      refine gPs_ok ps E' h2' h4 fun os2 σ2 E2 sub2 w2 c2 => k os2 σ2 E2 (fun a ha => sub a (sub2 a ha)) (fun vs hv => ?_) fun j hj => by
        rw [c2 j fun y => hj (by simp only [patSlots]; exact List.mem_append_right _ y), c1 j fun y => hj (by simp only [patSlots]; exact List.mem_append_left _ y)]
      rw [w2 vs fun i hi => hv i (by simp only [patSlots]; exact List.mem_append_right _ hi)]
      exact w vs fun i hi => hv i (by simp only [patSlots]; exact List.mem_append_left _ hi)
end
end
/-! ### what is walked -/
def Walks (K : PySem.W.Frag) (A : Addr → Prop) (J : It) (ds : List D) (H1 : Hp) : Prop := ∀ (i : Nat) (H : Hp), (∀ b o, H1 b = some o → ¬ A b → H b = some o) →
  (i < ds.length → J.go i H) ∧ (ds.length ≤ i → J.stop i H) ∧ ∀ x H', J.yld i H x H' → i < ds.length → Same H H' ∧ ∃ d, ds[i]? = some d ∧ ∀ A' : Addr → Prop, (∀ a, A' a → A a ∨ H1 a = none) → (∀ a, A' a → ∃ o, H a = some o) → Dr K H' A' x d
def tMI (K : PySem.W.Frag) (m : MI) : TI := fun σ H R => ∃ B pot os env st, ERep K B pot os H σ env st ∧ ∃ ds st', m env st = .ok (ds, st') ∧ ∀ J H', Keep pot H H' → ERep K B pot os H' σ env st' → Walks K (av B os) J ds H' → R J H'
section
variable {K : PySem.W.Frag} {A : Addr → Prop} {H1 : Hp}
theorem Dr.later {H H' : Hp} {A' : Addr → Prop} {v : V} {d : D} (h : Dr K H1 A v d) (k : ∀ b o, H1 b = some o → ¬ A b → H b = some o) (s : Same H H') (h1 : ∀ a, A' a → A a ∨ H1 a = none) : Dr K H' A' v d :=
  h.to fun b o e z => ⟨s _ _ (k b o e z), fun y => by
    rcases h1 b y with y | y
    · exact z y
    · rw [e] at y
      cases y⟩
theorem walks_list {a : Addr} {vs : List V} {ds : List D} (na : ¬ A a) (h1 : H1 a = some (.lst vs)) (h2 : DrAll K H1 A vs ds) : Walks K A (L2.Itl K a) ds H1 := by
  intro i H k
  have hs : L2.SqL K H a vs := .inl (.inl (k _ _ h1 na))
  have hl := h2.length
  refine ⟨fun hi => ⟨vs, vs[i]'(by omega), hs, List.getElem?_eq_getElem _⟩, fun hi => ⟨vs, hs, by omega⟩, fun x H' y _ => ?_⟩
  obtain ⟨rfl, y⟩ := y
  obtain ⟨d, e1, e2⟩ := (h2.get i).1 x (y vs hs)
  exact ⟨L2.Same.refl _, d, e1, fun A' q _ => e2.later k (L2.Same.refl _) q⟩
theorem walks_tup {a : Addr} {vs : List V} {ds : List D} (h1 : (¬ A a ∧ H1 a = some (.tup vs)) ∨ KTup K a vs) (h2 : DrAll K H1 A vs ds) : Walks K A (L2.Itt K a) ds H1 := by
  intro i H k
  have hs : L2.SqT K H a vs := by
    rcases h1 with h1 | h1
    · exact .inl (.inl (k _ _ h1.2 h1.1))
    · exact .inr h1
  have hl := h2.length
  refine ⟨fun hi => ⟨vs, vs[i]'(by omega), hs, List.getElem?_eq_getElem _⟩, fun hi => ⟨vs, hs, by omega⟩, fun x H' y _ => ?_⟩
  obtain ⟨rfl, y⟩ := y
  obtain ⟨d, e1, e2⟩ := (h2.get i).1 x (y vs hs)
  exact ⟨L2.Same.refl _, d, e1, fun A' q _ => e2.later k (L2.Same.refl _) q⟩
theorem rangeL_len (lo hi : Int) : (rangeL lo hi).length = (hi - lo).toNat := by simp [rangeL]
theorem rangeL_get {lo hi : Int} {i : Nat} (h : i < (hi - lo).toNat) : (rangeL lo hi)[i]? = some (.int (lo + i)) := by
  unfold rangeL
  rw [List.getElem?_map, List.getElem?_range h]
  rfl
theorem walks_range {lo hi : Int} {n : Nat} (hn : n = (hi - lo).toNat) : Walks K A (L2.Itr lo n) (rangeL lo hi) H1 := by
  intro i H k
  rw [rangeL_len]
  refine ⟨fun h => by show i < n; omega, fun h => by show n ≤ i; omega, fun x H' y hi => ?_⟩
  obtain ⟨rfl, rfl⟩ := y
  exact ⟨L2.Same.refl _, _, rangeL_get hi, fun _ _ _ => .int _⟩
theorem enumL_len (xs : List D) : (enumL xs).length = xs.length := by simp [enumL]
theorem walks_enum {a : Addr} {vs : List V} {ds : List D} (na : ¬ A a) (h1 : H1 a = some (.lst vs)) (h2 : DrAll K H1 A vs ds) : Walks K A (L2.Ite K a) (enumL ds) H1 := by
  intro i H k
  have hs : L2.SqL K H a vs := .inl (.inl (k _ _ h1 na))
  have hl := h2.length
  rw [enumL_len]
  refine ⟨fun hi => ⟨vs, vs[i]'(by omega), hs, List.getElem?_eq_getElem _⟩, fun hi => ⟨vs, hs, by omega⟩, fun x H' y hi => ?_⟩
  obtain ⟨T, x, rfl, n, rfl, y⟩ := y
  obtain ⟨d, e1, e2⟩ := (h2.get i).1 x (y vs hs)
  have s : Same H (upd H T (.tup [.int (i : Nat), x])) := Same.new n
  refine ⟨s, .tuple [.int i, d], by unfold enumL; rw [List.getElem?_mapIdx, e1]; rfl, fun A' q t => .tup (.inl ⟨fun z => ?_, upd_same⟩) (.cons (.int _) (.cons (e2.later k s q) .nil))⟩
  obtain ⟨o, e⟩ := t T z
  rw [n] at e
  cases e
theorem zipL_get : ∀ (xs ys : List D) (i : Nat) (x y : D), xs[i]? = some x → ys[i]? = some y → (zipL xs ys)[i]? = some (.tuple [x, y])
  | [], _, _, _, _, h, _ => by simp at h
  | _ :: _, [], _, _, _, _, h => by simp at h
  | a :: xs, b :: ys, 0, x, y, h, h' => by
    cases h; cases h'
    rfl
  | a :: xs, b :: ys, i + 1, x, y, h, h' => zipL_get xs ys i x y h h'
theorem zipL_len : ∀ (xs ys : List D), (zipL xs ys).length = min xs.length ys.length
  | [], _ => by simp [zipL]
  | _ :: _, [] => by simp [zipL]
  | a :: xs, b :: ys => by
    show (zipL xs ys).length + 1 = min (xs.length + 1) (ys.length + 1)
    rw [zipL_len xs ys]
    omega
theorem walks_zip {a b : Addr} {vs us : List V} {ds es : List D} (na : ¬ A a) (h1 : H1 a = some (.lst vs)) (h2 : DrAll K H1 A vs ds) (nb : ¬ A b) (h3 : H1 b = some (.lst us)) (h4 : DrAll K H1 A us es) : Walks K A (L2.Itz K a b) (zipL ds es) H1 := by
  intro i H k
  have hs : L2.SqL K H a vs := .inl (.inl (k _ _ h1 na))
  have hs' : L2.SqL K H b us := .inl (.inl (k _ _ h3 nb))
  have hl := h2.length
  have hl' := h4.length
  rw [zipL_len]
  refine ⟨fun hi => ⟨vs, us, vs[i]'(by omega), us[i]'(by omega), hs, hs', List.getElem?_eq_getElem _, List.getElem?_eq_getElem _⟩, fun hi => ⟨vs, us, hs, hs', by omega⟩, fun x H' y hi => ?_⟩
  obtain ⟨T, x, z, rfl, n, rfl, y1, y2⟩ := y
  obtain ⟨d, e1, e2⟩ := (h2.get i).1 x (y1 vs hs)
  obtain ⟨d', e3, e4⟩ := (h4.get i).1 z (y2 us hs')
  have s : Same H (upd H T (.tup [x, z])) := Same.new n
  refine ⟨s, .tuple [d, d'], zipL_get _ _ _ _ _ e1 e3, fun A' q t => .tup (.inl ⟨fun z => ?_, upd_same⟩) (.cons (e2.later k s q) (.cons (e4.later k s q) .nil))⟩
  obtain ⟨o, e⟩ := t T z
  rw [n] at e
  cases e
theorem walks_zipT {a b : Addr} {vs us : List V} {ds es : List D} (h1 : (¬ A a ∧ H1 a = some (.tup vs)) ∨ KTup K a vs) (h2 : DrAll K H1 A vs ds) (h3 : (¬ A b ∧ H1 b = some (.tup us)) ∨ KTup K b us) (h4 : DrAll K H1 A us es) : Walks K A (RZ.ItzT K a b) (zipL ds es) H1 := by
  intro i H k
  have sq : ∀ {a : Addr} {vs : List V}, (¬ A a ∧ H1 a = some (.tup vs)) ∨ KTup K a vs → L2.SqT K H a vs := fun h => by
    rcases h with h | h
    · exact .inl (.inl (k _ _ h.2 h.1))
    · exact .inr h
  have hs := sq h1
  have hs' := sq h3
  have hl := h2.length
  have hl' := h4.length
  rw [zipL_len]
  refine ⟨fun hi => ⟨vs, us, vs[i]'(by omega), us[i]'(by omega), hs, hs', List.getElem?_eq_getElem _, List.getElem?_eq_getElem _⟩, fun hi => ⟨vs, us, hs, hs', by omega⟩, fun x H' y hi => ?_⟩
  obtain ⟨T, x, z, rfl, n, rfl, y1, y2⟩ := y
  obtain ⟨d, e1, e2⟩ := (h2.get i).1 x (y1 vs hs)
  obtain ⟨d', e3, e4⟩ := (h4.get i).1 z (y2 us hs')
  have s : Same H (upd H T (.tup [x, z])) := Same.new n
  refine ⟨s, .tuple [d, d'], zipL_get _ _ _ _ _ e1 e3, fun A' q t => .tup (.inl ⟨fun z => ?_, upd_same⟩) (.cons (e2.later k s q) (.cons (e4.later k s q) .nil))⟩
  obtain ⟨o, e⟩ := t T z
  rw [n] at e
  cases e
end
section
variable {X : Cx} {tg a b : PySem.Expr} {ma mb : ME} {pos : PySem.Pos}
theorem i_seq (ha : PE X a (tM X.K ma)) : PI X tg a (tMI X.K (iSeq ma)) := by
  refine ⟨fun pins s σ H R I ⟨B, pot, os, env, st, E, ds, st', hm, hR⟩ => ?_⟩
  obtain ⟨x, ex, hm⟩ := BP.R.bind_ok hm
  obtain ⟨u, eu, hm⟩ := BP.R.bind_ok hm
  obtain ⟨z, ez, hm⟩ := BP.R.bind_ok hm
  cases hm
  unfold itemsO at ez
  split at ez
  · cases ez
    refine (L2.pi_list ha).run pins s σ H R I ⟨B, pot, os, env, st, E, _, _, ex, fun v1 H1 k1 p1 => ?_⟩
    obtain ⟨E1, w1⟩ := p1.val E eu
    cases w1 with
    | lst h1 h2 h3 => exact ⟨_, rfl, ⟨_, .inl (.inl h2)⟩, hR _ H1 k1 E1 (walks_list h1 h2 h3)⟩
  · cases ez
    refine (L2.pi_tup ha).run pins s σ H R I ⟨B, pot, os, env, st, E, _, _, ex, fun v1 H1 k1 p1 => ?_⟩
    obtain ⟨E1, w1⟩ := p1.val E eu
    cases w1 with
    | tup h2 h3 =>
      rename_i xs
      refine ⟨_, rfl, ⟨xs, ?_⟩, hR _ H1 k1 E1 (walks_tup h2 h3)⟩
      rcases h2 with h2 | h2
      · exact .inl (.inl h2.2)
      · exact .inr h2
  · cases ez
theorem PA_one {t : TA} {te : TE} (h : PE X a te) (hs : PySem.starEach [a] X.env = (false, PySem.eval a X.env) :: PySem.starEach [] X.env) (k : ∀ σ H Q, t σ H Q → te σ H fun v H1 => Q [v] H1) : PA X [a] t :=
  PA_imp (L2.pa_cons h L2.pa_nil hs) fun σ H Q q => k σ H Q q
theorem i_range1 {p : PySem.Pos} (hg : L2.Gl X "range") (hm : X.mg "range" = none) (ha : PE X a (tM X.K ma)) (hs : PySem.starEach [a] X.env = (false, PySem.eval a X.env) :: PySem.starEach [] X.env := by rfl) (hs2 : PySem.starEach [a] X.env = [(false, PySem.eval a X.env)] := by rfl) : PI X tg (.Call (.Name "range" p) [a] [] pos) (tMI X.K (iRange1 ma)) := by
  refine ⟨fun pins s σ H R I ⟨B, pot, os, env, st, E, ds, st', hm', hR⟩ => ?_⟩
  obtain ⟨⟨x1, x2⟩, ex, hm'⟩ := BP.R.bind_ok hm'
  dsimp only at hm'
  split at hm'
  · rename_i n
    split at hm'
    · rename_i hn
      cases hm'
      refine (L2.pi_range1 hg hm (L2.pa_cons ha L2.pa_nil hs) hs2).run pins s σ H R I ⟨B, pot, os, env, st, E, _, _, ex, fun v1 H1 k1 p1 => ?_⟩
      obtain ⟨E1, w1⟩ := p1
      cases w1
      exact ⟨n, rfl, by omega, by omega, hR _ H1 k1 E1 (walks_range (by rw [Int.sub_zero]))⟩
    · cases hm'
  · cases hm'
theorem i_range2 {p : PySem.Pos} (hg : L2.Gl X "range") (hm : X.mg "range" = none) (ha : PE X a (tM X.K ma)) (hb : PE X b (tM X.K mb)) (h1 : PySem.starEach [a, b] X.env = (false, PySem.eval a X.env) :: PySem.starEach [b] X.env := by rfl) (h2 : PySem.starEach [b] X.env = (false, PySem.eval b X.env) :: PySem.starEach [] X.env := by rfl)
    (h3 : PI X tg (.Call (.Name "range" p) [a, b] [] pos) (L2.iRng2 (L2.tCons (tM X.K ma) (L2.tCons (tM X.K mb) L2.tNil)))) : PI X tg (.Call (.Name "range" p) [a, b] [] pos) (tMI X.K (iRange2 ma mb)) := by
  refine ⟨fun pins s σ H R I ⟨B, pot, os, env, st, E, ds, st', hm', hR⟩ => ?_⟩
  obtain ⟨⟨x1, x2⟩, ex, hm'⟩ := BP.R.bind_ok hm'
  obtain ⟨⟨y1, y2⟩, ey, hm'⟩ := BP.R.bind_ok hm'
  dsimp only at hm'
  split at hm'
  · split at hm'
    · rename_i hn
      cases hm'
      refine h3.run pins s σ H R I ⟨B, pot, os, env, st, E, _, _, ex, fun v1 H1 k1 p1 => ?_⟩
      obtain ⟨E1, w1⟩ := p1
      cases w1
      refine ⟨B, pot, os, env, _, E1, _, _, ey, fun v2 H2 k2 p2 => ?_⟩
      obtain ⟨E2, w2⟩ := p2
      cases w2
      exact ⟨_, _, rfl, ⟨by omega, by omega, by omega, by omega⟩, hR _ H2 (k1.trans k2) E2 (walks_range rfl)⟩
    · cases hm'
  · cases hm'
theorem i_zip {p tpos : PySem.Pos} {elts : List PySem.Expr} {kk : Nat} (hg : L2.Gl X "zip") (hm : X.mg "zip" = none) (ha : PE X a (tM X.K ma)) (hb : PE X b (tM X.K mb)) (h1 : PySem.starEach [a, b] X.env = (false, PySem.eval a X.env) :: PySem.starEach [b] X.env := by rfl) (h2 : PySem.starEach [b] X.env = (false, PySem.eval b X.env) :: PySem.starEach [] X.env := by rfl)
    (hp : (PySem.backTo pos (PySem.starEach [b] X.env)).any (·.1) = false := by rfl) :
    PI X (.Tuple elts kk tpos) (.Call (.Name "zip" p) [a, b] [] pos) (tMI X.K (iZipS ma mb)) := by
  refine ⟨fun pins s σ H R I ⟨B, pot, os, env, st, E, ds, st', hm', hR⟩ => ?_⟩
  obtain ⟨x, ex, hm'⟩ := BP.R.bind_ok hm'
  obtain ⟨u, eu, hm'⟩ := BP.R.bind_ok hm'
  obtain ⟨y, ey, hm'⟩ := BP.R.bind_ok hm'
  obtain ⟨w, ew, hm'⟩ := BP.R.bind_ok hm'
  refine (RZ.pi_zipA hg hm (L2.pa_cons ha (L2.pa_cons hb L2.pa_nil h2) h1) h1 hp).run pins s σ H R I ⟨B, pot, os, env, st, E, _, _, ex, fun v1 H1 k1 p1 => ?_⟩
  obtain ⟨E1, w1⟩ := p1.val E eu
  refine ⟨B, pot, os, env, _, E1, _, _, ey, fun v2 H2 k2 p2 => ?_⟩
  obtain ⟨E2, w2⟩ := p2.val E1 ew
  have w3 := w1.keep E1 k2
  split at hm'
  · cases hm'
    cases w3 with
    | lst a1 a2 a3 =>
      cases w2 with
      | lst b1 b2 b3 => exact ⟨_, _, _, _, rfl, .inl ⟨.inl (.inl a2), .inl (.inl b2), hR _ H2 (k1.trans k2) E2 (walks_zip a1 a2 a3 b1 b2 b3)⟩⟩
  · cases hm'
    have sq : ∀ {a : Addr} {vs : List V}, (¬ av B os a ∧ H2 a = some (.tup vs)) ∨ KTup X.K a vs → L2.SqT X.K H2 a vs := fun h => by
      rcases h with h | h
      · exact .inl (.inl h.2)
      · exact .inr h
    cases w3 with
    | tup a2 a3 =>
      cases w2 with
      | tup b2 b3 => exact ⟨_, _, _, _, rfl, .inr ⟨sq a2, sq b2, hR _ H2 (k1.trans k2) E2 (walks_zipT a2 a3 b2 b3)⟩⟩
  · cases hm'
end
end BP

namespace BP
open L2 (V Hp HO St TE TT TA TS TG TI It Ends Cx PE PT PW PA PS PSs PG PI Inv upd upd_same upd_ne OpR UnR CallR Same VK XK Sp Room Vals RelV FnScope PK CX0 E0)
/-! ### targets of the text -/
section
variable {X : Cx} {pos : PySem.Pos}
theorem g_nm (i : Nat) {x : PySem.Str} (hN : X.N.Nodup) (hi : X.N[i]? = some x) (hx : L2.Loc X.env.scope x) (hf : X.fn x = true ∨ X.env.scope.names.lookup x = some .local := by first | exact .inl rfl | exact .inr rfl) : PG X (.Name x pos) (gP X.K (.nm i)) := by
  have h := L2.pg_name (pos := pos) hN hi hx hf
  simpa only [gP] using h
theorem gs_nil : L2.PGs X [] (gPs X.K []) := by
  simpa only [gPs] using L2.pgs_nil (X := X)
theorem gs_cons {e : PySem.Expr} {es : List PySem.Expr} {p : Pat} {ps : List Pat} (h1 : PG X e (gP X.K p)) (h2 : L2.PGs X es (gPs X.K ps)) (hs : (PySem.assignEach (e :: es) X.env).map (·.2) = PySem.assign e X.env :: (PySem.assignEach es X.env).map (·.2) := by rfl) : L2.PGs X (e :: es) (gPs X.K (p :: ps)) := by
  simpa only [gPs] using L2.pgs_cons h1 h2 hs
theorem g_tp {es : List PySem.Expr} {k : Nat} {ps : List Pat} (hc : X.calm = true) (h : L2.PGs X es (gPs X.K ps)) (hn : (PySem.assignEach es X.env).length = ps.length := by rfl) (hst : (PySem.assignEach es X.env).findIdx? (·.1) = none := by rfl) : PG X (.Tuple es k pos) (gP X.K (.tp ps)) := by
  simpa only [gP] using L2.pg_tup (k := k) (pos := pos) hc h hn hst
end
/-! ### comprehensions -/
theorem wipeE_len (env : Env) : ∀ vs : List Nat, (wipeE env vs).length = env.length
  | [] => rfl
  | v :: vs => by
    show (setE (wipeE env vs) v .no).length = _
    rw [setE_len, wipeE_len env vs]
theorem isLk_of_pt {e : EV} (h : isPt e = true) : isLk e = true := by
  cases e with
  | pt => rfl
  | _ => cases h
theorem wipe_one {σ : St} {vs : List Nat} : ∀ {us : List Nat}, (∀ u ∈ us, u ∈ vs) → L2.wipe (L2.wipe σ us) vs = L2.wipe σ vs
  | [], _ => rfl
  | u :: us, h => by
    show L2.wipe ((L2.wipe σ us).set u none) vs = _
    rw [wipe_set (h u List.mem_cons_self)]
    exact wipe_one fun v hv => h v (List.mem_cons_of_mem _ hv)
section
variable {K : PySem.W.Frag} {B : Addr → Prop} {pot : Option Addr} {os : List (Option Addr)} {H : Hp} {σ : St} {env : Env} {st : Pt}
theorem ERep.wipe (E : ERep K B pot os H σ env st) : ∀ (vs : List Nat), (vs.any fun v => isLk (getE env v)) = false → ∃ os', ERep K B pot os' H (L2.wipe σ vs) (wipeE env vs) st ∧ (∀ a, some a ∈ os' → some a ∈ os) ∧ (∀ j, isPt (getE (wipeE env vs) j) = true → isPt (getE env j) = true) ∧ ∀ j, j ∉ vs → os'[j]? = os[j]?
  | [], _ => ⟨os, E, fun _ h => h, fun _ h => h, fun _ _ => rfl⟩
  | v :: vs, h => by
    rw [List.any_cons, Bool.or_eq_false_iff] at h
    obtain ⟨os', E', sub, pt, same⟩ := ERep.wipe E vs h.2
    have hv : isPt (getE (wipeE env vs) v) = false := by
      cases q : isPt (getE (wipeE env vs) v) with
      | false => rfl
      | true =>
        rw [isLk_of_pt (pt v q)] at h
        cases h.1
    refine ⟨_, E'.set0 (x := none) (e := .no) hv (fun _ z => nomatch z) (fun _ z => nomatch z) (fun z => nomatch z) (fun _ z => nomatch z) (fun _ z => nomatch z), fun a ha => ?_, fun j hj => ?_, fun j hj => ?_⟩
    · rcases List.mem_or_eq_of_mem_set ha with ha | ha
      · exact sub a ha
      · cases ha
    · by_cases z : j = v
      · rw [z] at hj
        by_cases l : v < (wipeE env vs).length
        · have hj : isPt (getE (setE (wipeE env vs) v .no) v) = true := hj
          rw [getE_same _ _ _ l] at hj
          cases hj
        · have hj : isPt (getE (setE (wipeE env vs) v .no) v) = true := hj
          rw [getE_out _ _ (by rw [setE_len]; omega)] at hj
          cases hj
      · have hj : isPt (getE (setE (wipeE env vs) v .no) j) = true := hj
        rw [getE_ne _ _ _ _ z] at hj
        exact pt j hj
    · rw [List.getElem?_set_ne fun z => hj (by rw [z]; exact List.mem_cons_self)]
      exact same j fun z => hj (List.mem_cons_of_mem _ z)
/-- the block's own slots are no own lists: all own lists are still known -/
theorem ERep.same (E : ERep K B pot os H σ env st) {vs : List Nat} (hv : (vs.any fun v => isLk (getE env v)) = false) {os' : List (Option Addr)} (h : ∀ j, j ∉ vs → os'[j]? = os[j]?) : ∀ a, some a ∈ os → some a ∈ os' := fun a ha => by
  obtain ⟨j, hj, e⟩ := List.getElem_of_mem ha
  have e1 : os[j]? = some (some a) := by rw [List.getElem?_eq_getElem hj, e]
  obtain ⟨_, ds, e2⟩ := E.ad j a e1
  have nj : j ∉ vs := fun z => by
    have := List.any_eq_false.mp hv j z
    rw [e2] at this
    exact this rfl
  rw [← h j nj] at e1
  exact List.mem_of_getElem? e1
end
theorem Dr.fewer {K : PySem.W.Frag} {H : Hp} {B : Addr → Prop} {os os' : List (Option Addr)} {v : V} {d : D} (h : Dr K H (av B os) v d) (sub : ∀ a, some a ∈ os' → some a ∈ os) : Dr K H (av B os') v d :=
  h.to fun b o q z => ⟨q, fun y => z (by
    rcases y with y | y
    · exact .inl y
    · exact .inr (sub b y))⟩
section
variable {X : Cx} {elt tg iter : PySem.Expr} {ifs : List PySem.Expr} {scope : PySem.Scope} {own : List (PySem.Str × Nat)} {pos : PySem.Pos} {p : Pat} {mi : MI} {mc me : ME}
theorem lc_imp (hsl : ∀ i ∈ p.slots, i ∈ own.map (·.2)) : ∀ σ H Q, tM X.K (mLc mi p (own.map (·.2)) mc me) σ H Q → L2.tLc (tMI X.K mi) (gP X.K p) (tMT X.K mc) (tM X.K me) (own.map (·.2)) σ H Q := fun σ H Q ⟨B, pot, os, env, st, E, e, st', hm, hQ⟩ => by
  obtain ⟨x, ex, hm⟩ := R.bind_ok hm
  obtain ⟨ds, st1⟩ := x
  split at hm
  · rename_i hl
    obtain ⟨hlen, hvs⟩ := hl
    have hlen : ds.length ≤ 1000000 := hlen
    obtain ⟨y, ey, hm⟩ := R.bind_ok hm
    cases hm
    obtain ⟨res, stz⟩ := y
    refine ⟨B, pot, os, env, st, E, _, _, ex, fun J H1 k1 E1 wk D hD => ?_⟩
    have nH : H D = none := E1.back k1 hD
    have dpot : pot ≠ some D := fun z => by
      obtain ⟨_, z2⟩ := E1.pot D z
      rw [hD] at z2
      cases z2
    refine ⟨fun i m H3 => m = ds.length - i ∧ i ≤ ds.length ∧ ∃ sti acc vacc rest, ERep X.K (plus B D) pot os H3 σ env sti ∧ H3 D = some (.lst vacc) ∧ DrAll X.K H3 (av (plus B D) os) vacc acc ∧ (∀ b o, H1 b = some o → pot ≠ some b → H3 b = some o) ∧
      lcL p mc me (wipeE env (own.map (·.2))) (ds.drop i) sti = .ok (rest, stz) ∧ acc ++ rest = res ∧ acc.length ≤ i, ⟨ds.length, rfl, Nat.zero_le _, st1, [], [], res, E1.more (Same.new hD) hD upd_same, upd_same, .nil, fun b o h _ => Same.new hD b o h, ey, rfl, Nat.le_refl _⟩, ?_⟩
    rintro i m H3 ⟨rfl, hi, sti, acc, vacc, rest, E3, h3, d3, kp, hr, ha, hai⟩
    have kA : ∀ b o, H1 b = some o → ¬ av B os b → H3 b = some o := fun b o h z => kp b o h fun y => z (.inl (E1.pot b y).1)
    obtain ⟨w1, w2, w3⟩ := wk i H3 kA
    by_cases hlt : i < ds.length
    · refine .inr ⟨w1 hlt, fun H4 => ∃ sti acc vacc rest, ERep X.K (plus B D) pot os H4 σ env sti ∧ H4 D = some (.lst vacc) ∧ DrAll X.K H4 (av (plus B D) os) vacc acc ∧ (∀ b o, H1 b = some o → pot ≠ some b → H4 b = some o) ∧
        lcL p mc me (wipeE env (own.map (·.2))) (ds.drop (i + 1)) sti = .ok (rest, stz) ∧ acc ++ rest = res ∧ acc.length ≤ i + 1, fun H4 h4 => ⟨ds.length - (i + 1), by omega, rfl, hlt, h4⟩, fun x H4 y => ?_⟩
      obtain ⟨s4, d, ed, dr⟩ := w3 x H4 y hlt
      have hdrop : ds.drop i = d :: ds.drop (i + 1) := by
        obtain ⟨q1, q2⟩ := List.getElem?_eq_some_iff.mp ed
        rw [← q2]
        exact (List.drop_eq_getElem_cons hlt)
      rw [hdrop] at hr
      obtain ⟨env1, e1, hr⟩ := R.bind_ok hr
      obtain ⟨⟨b1, b2⟩, e2, hr⟩ := R.bind_ok hr
      dsimp only at hr
      have E4 := E3.ext s4
      obtain ⟨os0, E0, sub0, _, same0⟩ := E4.wipe _ hvs
      have trk := E3.tr
      have dx : Dr X.K H4 (av (plus B D) os0) x d := (dr (av (plus B D) os) (fun a q => by
        rcases q with (q | q) | q
        · exact .inl (.inl q)
        · rw [q]
          exact .inr hD
        · exact .inl (.inr q)) trk).fewer sub0
      refine gP_ok p E0 dx e1 fun os1 σ1 E1' sub1 wp same1 => ⟨(wp _ hsl).trans (wipe_one fun _ h => h), ?_⟩
      have os_os1 : ∀ a, some a ∈ os → some a ∈ os1 := E4.same hvs fun j hj => by
        rw [same1 j fun z => hj (hsl j z), same0 j hj]
      have os1_os : ∀ a, some a ∈ os1 → some a ∈ os := fun a h => sub0 a (sub1 a h)
      -- the outer slots stand behind whatever the block does
      have back : ∀ {H5 : Hp} {os2 : List (Option Addr)} {σ2 : St} {env2 : Env} {st2 : Pt}, Keep pot H4 H5 → ERep X.K (plus B D) pot os2 H5 σ2 env2 st2 → ERep X.K (plus B D) pot os H5 σ env st2 := fun k5 E5 => E4.keep k5 fun q hq => (E5.pot q hq).2
      have kk : ∀ {H5 : Hp}, Keep pot H4 H5 → ∀ b o, H1 b = some o → pot ≠ some b → H5 b = some o := fun k5 b o h z => k5 b o (s4 b o (kp b o h z)) z
      have hal : vacc.length = acc.length := d3.length
      split at hr
      · obtain ⟨⟨v1, v2⟩, e3, hr⟩ := R.bind_ok hr
        obtain ⟨u, eu, hr⟩ := R.bind_ok hr
        obtain ⟨⟨r1, r2⟩, e4, hr⟩ := R.bind_ok hr
        cases hr
        refine ⟨plus B D, pot, os1, env1, sti, E1', true, _, e2, fun H5 k5 E5 => ?_⟩
        refine L2.iteT ?_
        refine ⟨plus B D, pot, os1, env1, _, E5, _, _, e3, fun w H6 k6 p6 => ?_⟩
        obtain ⟨E6, w6⟩ := p6.val E5 eu
        have k46 : Keep pot H4 H6 := k5.trans k6
        have h6 : H6 D = some (.lst vacc) := k46 D _ (s4 D _ h3) dpot
        have E7 := back k46 E6
        refine ⟨vacc, h6, by
          have l2 : PySem.sizeLine = 16777216 := rfl
          omega, ?_⟩
        have dacc : DrAll X.K H6 (av (plus B D) os) vacc acc := (d3.to fun b o q z => ⟨s4 b o q, z⟩).keep E4 k46
        have w7 : Dr X.K H6 (av (plus B D) os) w u := w6.fewer os_os1
        -- the list at D grows: no value goes through it
        have up : ∀ b o, H6 b = some o → ¬ av (plus B D) os b → upd H6 D (.lst (vacc ++ [w])) b = some o ∧ ¬ av (plus B D) os b := fun b o h z => ⟨by
          rw [upd_ne fun y => z (.inl (.inr y))]
          exact h, z⟩
        have E8 : ERep X.K (plus B D) pot os (upd H6 D (.lst (vacc ++ [w]))) σ env v2 := by
          refine ⟨fun b hb => ?_, E7.l1, E7.l2, fun j d h => ?_, fun j es h => ?_, E7.nb, fun j ns h => ?_, E7.ad, E7.inj, E7.pt, fun q h => ?_⟩
          case refine_4 =>
            obtain ⟨b, q1, q2⟩ := E7.fz j ns h
            refine ⟨b, q1, q2.to fun o y => ?_⟩
            rw [upd_ne fun u => ?_]
            · exact y
            · rw [u, h6] at y
              cases y
          · by_cases z : b = D
            · rw [z]
              exact ⟨_, upd_same⟩
            · rw [upd_ne z]
              exact E7.bt b hb
          · obtain ⟨x, q1, q2⟩ := E7.slot j d h
            exact ⟨x, q1, q2.to up⟩
          · obtain ⟨a, us, q1, q2, q3, q4⟩ := E7.own j es h
            refine ⟨a, us, q1, q2, ?_, q4.to up⟩
            rw [upd_ne fun y => (E7.ad j a q1).1 (.inr y)]
            exact q3
          · obtain ⟨q3, q4⟩ := E7.pot q h
            refine ⟨q3, ?_⟩
            rw [upd_ne fun y => dpot (by rw [h, y])]
            exact q4
        refine ⟨v2, acc ++ [u], vacc ++ [w], r1, E8, upd_same, (dacc.append (.cons w7 .nil)).to up, fun b o h z => ?_, e4, by rw [List.append_assoc]; exact ha, by rw [List.length_append]; show acc.length + 1 ≤ _; omega⟩
        rw [upd_ne (L2.ne_of_none h hD)]
        exact kk k46 b o h z
      · refine ⟨plus B D, pot, os1, env1, sti, E1', false, _, e2, fun H5 k5 E5 => ?_⟩
        refine L2.iteF ?_
        exact ⟨b2, acc, vacc, rest, back k5 E5, k5 D _ (s4 D _ h3) dpot, (d3.to fun b o q z => ⟨s4 b o q, z⟩).keep E4 k5, kk k5, hr, ha, by omega⟩
      · cases hr
    · have ei : i = ds.length := by omega
      subst ei
      rw [List.drop_length] at hr
      cases hr
      refine .inl ⟨w2 (Nat.le_refl _), hQ _ H3 (fun b o h z => kp b o (k1 b o h z) z) ⟨D, vacc, rfl, nH, E3, h3, ?_⟩⟩
      rw [← ha, List.append_nil]
      exact d3
  · cases hm
theorem q_lc (hc : X.calm = true) (hN : X.N.Nodup) (hsl : ∀ i ∈ p.slots, i ∈ own.map (·.2)) (hi : PI X tg iter (tMI X.K mi)) (ok : L2.BlkOk X.N X.env.scope scope own)
    (hg : ∀ (s : PySem.Shared) (H : Hp) (C : Addr) (cl : List (PySem.Str × Addr)) (fp : List Addr), PG (X.blk s H scope (PySem.compEnvC scope cl C X.env) fp) tg (gP X.K p)) (ht : ∀ (s : PySem.Shared) (H : Hp) (C : Addr) (cl : List (PySem.Str × Addr)) (fp : List Addr), L2.PTs (X.blk s H scope (PySem.compEnvC scope cl C X.env) fp) ifs (tMT X.K mc))
    (he : ∀ (s : PySem.Shared) (H : Hp) (C : Addr) (cl : List (PySem.Str × Addr)) (fp : List Addr), PE (X.blk s H scope (PySem.compEnvC scope cl C X.env) fp) elt (tM X.K me)) (hs : ∀ x, PySem.foldedSetIterable iter X.env x = pure x := by intro _; rfl) :
    PE X (.ListComp elt [⟨tg, iter, ifs, 0⟩] scope pos) (tM X.K (mLc mi p (own.map (·.2)) mc me)) :=
  PE_imp (L2.pe_lc hc hN hi ok hg ht he hs) (lc_imp hsl)
/-- no test -/
theorem ts_nil : L2.PTs X [] (tMT X.K (mC (.bool true))) := ⟨fun pins s σ H Q I ⟨B, pot, os, env, st, E, b, st', hm, hQ⟩ => by
  cases hm
  exact L2.pts_nil.run pins s σ H Q I (hQ H Keep.refl E)⟩
theorem ts_one {c : PySem.Expr} (h : PT X c (tMT X.K mc)) : L2.PTs X [c] (tMT X.K mc) := L2.pts_one h
end
end BP

namespace BP
open L2 (V Hp HO St TE TT TA TS TG TI It Ends Cx PE PT PW PA PS PSs PG PI Inv upd upd_same upd_ne OpR UnR CallR Same VK XK Sp Room Vals RelV FnScope PK CX0 E0)
/-! ### statements -/
/-- what stands of the heap at the frame's (a loop's) start -/
structure Base0 (W : Addr → Prop) (pot : Option Addr) (os : List (Option Addr)) (H0 H : Hp) : Prop where
  same : ∀ b o, H0 b = some o → ¬ W b → H b = some o
  wr : ∀ a, some a ∈ os → W a ∨ H0 a = none
  wp : ∀ p, pot = some p → W p
section
variable {W : Addr → Prop} {pot : Option Addr} {os os' : List (Option Addr)} {H0 H H1 : Hp}
theorem Base0.step (b : Base0 W pot os H0 H) (k : Keep pot H H1) : Base0 W pot os H0 H1 :=
  ⟨fun a o h n => k a o (b.same a o h n) fun z => n (b.wp a z), b.wr, b.wp⟩
theorem Base0.sub (b : Base0 W pot os H0 H) (s : ∀ a, some a ∈ os' → some a ∈ os) : Base0 W pot os' H0 H :=
  ⟨b.same, fun a h => b.wr a (s a h), b.wp⟩
theorem Base0.fresh (b : Base0 W pot os H0 H) {a : Addr} (n : H a = none) : W a ∨ H0 a = none := by
  by_cases z : W a
  · exact .inl z
  · right
    cases q : H0 a with
    | none => rfl
    | some o =>
      rw [b.same a o q z] at n
      cases n
theorem Base0.put (b : Base0 W pot os H0 H) {i : Nat} {a : Addr} (n : W a ∨ H0 a = none) : Base0 W pot (os.set i (some a)) H0 H :=
  ⟨b.same, fun c h => by
    rcases List.mem_or_eq_of_mem_set h with h | h
    · exact b.wr c h
    · cases h
      exact n, b.wp⟩
theorem Base0.chg (b : Base0 W pot os H0 H) {a : Addr} {o : HO} (h : some a ∈ os) : Base0 W pot os H0 (upd H a o) := by
  refine ⟨fun c u q n => ?_, b.wr, b.wp⟩
  have ne : c ≠ a := fun z => by
    rw [z] at q n
    rcases b.wr a h with y | y
    · exact n y
    · rw [q] at y
      cases y
  rw [upd_ne ne]
  exact b.same c u q n
end
theorem set_none_mem {os : List (Option Addr)} {i : Nat} {a : Addr} (h : some a ∈ os.set i none) : some a ∈ os := by
  rcases List.mem_or_eq_of_mem_set h with h | h
  · exact h
  · cases h
/-- what holds behind: the frame goes on; it is left -/
def After (K : PySem.W.Frag) (B W : Addr → Prop) (pot : Option Addr) (H0 : Hp) (E : Ends) : Out → Prop
  | .nx env st => ∀ σ H os, ERep K B pot os H σ env st → Base0 W pot os H0 H → E.nx σ H
  | .rt d st => ∀ v H, (∀ b o, H0 b = some o → ¬ W b → H b = some o) → Dr K H B v d → (∀ p, pot = some p → H p = some (.lst (st.map V.int))) → E.rt v H
  | .ro ds st => ∀ a vs H, (∀ b o, H0 b = some o → ¬ W b → H b = some o) → (W a ∨ H0 a = none) → ¬ B a → H a = some (.lst vs) → DrAll K H (plus B a) vs ds → (∀ p, pot = some p → H p = some (.lst (st.map V.int))) → E.rt (.ref a) H
def tMS (K : PySem.W.Frag) (s : MS) : TS := fun E σ H => ∃ B W pot H0 os env st, ERep K B pot os H σ env st ∧ Base0 W pot os H0 H ∧ ∃ o, s env st = .ok o ∧ After K B W pot H0 E o
section
variable {X : Cx} {a b c : PySem.Expr} {ma mb mc me : ME} {pos : PySem.Pos} {s s' : MS} {stm : PySem.Stmt} {rest : List PySem.Stmt}
theorem s_nil : PSs X [] (tMS X.K sNil) := PSs_imp L2.pss_nil fun D σ H ⟨B, W, pot, H0, os, env, st, E, b0, o, hm, h⟩ => by
  cases hm
  exact h σ H os E b0
theorem s_one (h : PS X stm (tMS X.K s)) : PSs X [stm] (tMS X.K s) := L2.pss_one h
theorem s_cons (h : PS X stm (tMS X.K s)) (h2 : PSs X rest (tMS X.K s')) : PSs X (stm :: rest) (tMS X.K (sSeq s s')) :=
  PSs_imp (L2.pss_cons h h2) fun D σ H ⟨B, W, pot, H0, os, env, st, E, b0, o, hm, h⟩ => by
    obtain ⟨x, ex, hm⟩ := R.bind_ok hm
    refine ⟨B, W, pot, H0, os, env, st, E, b0, x, ex, ?_⟩
    cases x with
    | nx env1 st1 => exact fun σ1 H1 os1 E1 b1 => ⟨B, W, pot, H0, os1, env1, st1, E1, b1, o, hm, h⟩
    | rt d st1 =>
      cases hm
      exact h
    | ro d st1 =>
      cases hm
      exact h
theorem s_never : PS X stm (tMS X.K sNever) := PS_imp L2.ps_never fun D σ H ⟨B, W, pot, H0, os, env, st, E, b0, o, hm, h⟩ => nomatch hm
/-- an own list is no more changed -/
theorem s_frz (i : Nat) {sts : List PySem.Stmt} (h : PSs X sts (tMS X.K s)) : PSs X sts (tMS X.K (sFrz i s)) :=
  PSs_imp h fun D σ H ⟨B, W, pot, H0, os, env, st, E, b0, o, hm, h⟩ => by
    unfold sFrz at hm
    split at hm
    · rename_i ds hd
      exact ⟨B, W, pot, H0, _, _, st, E.frz hd, b0.sub fun _ => set_none_mem, o, hm, h⟩
    · exact ⟨B, W, pot, H0, os, env, st, E, b0, o, hm, h⟩
theorem s_pass : PS X (.Pass pos) (tMS X.K sNil) := PS_imp L2.ps_pass fun D σ H ⟨B, W, pot, H0, os, env, st, E, b0, o, hm, h⟩ => by
  cases hm
  exact h σ H os E b0
theorem EPost.any {K : PySem.W.Frag} {B : Addr → Prop} {pot : Option Addr} {os : List (Option Addr)} {H H1 : Hp} {σ : St} {env : Env} {st st' : Pt} {v : V} {e : EV} (E : ERep K B pot os H σ env st) (h : EPost K B pot os H H1 σ env st' v e) : ERep K B pot os H1 σ env st' := by
  cases e with
  | no => exact h.elim
  | pt => exact h.elim
  | fz _ => exact h.elim
  | im d => exact h.1
  | bo ds => exact h.1
  | ow ds =>
    obtain ⟨p, vs, _, _, E1, _⟩ := h
    exact E1.less (fun b z => .inl z) fun q z => (E.pot q z).1
theorem s_expr (ha : PE X a (tM X.K ma)) (hs : PySem.swapsWith a none pos.line X.env = pure false := by rfl) : PS X (.Expr a pos) (tMS X.K (sExpr ma)) :=
  PS_imp (L2.ps_expr ha hs) fun D σ H ⟨B, W, pot, H0, os, env, st, E, b0, o, hm, h⟩ => by
    obtain ⟨x, ex, hm⟩ := R.bind_ok hm
    cases hm
    exact ⟨B, pot, os, env, st, E, _, _, ex, fun v H1 k1 p1 => h σ H1 os (p1.any E) (b0.step k1)⟩
theorem putE_at {env env1 : Env} {i : Nat} {x : EV} (h : putE env i x = .ok env1) : isPt (getE env i) = false ∧ env1 = setE env i x := by
  unfold putE at h
  split at h
  · cases h
  · rename_i q
    cases h
    exact ⟨by simpa using q, rfl⟩
theorem set_imp {i : Nat} : ∀ D σ H, tMS X.K (sSet i ma) D σ H → L2.tAsg (tM X.K ma) (L2.gName i) D σ H := fun D σ H ⟨B, W, pot, H0, os, env, st, E, b0, o, hm, h⟩ => by
  obtain ⟨x, ex, hm⟩ := R.bind_ok hm
  obtain ⟨u, eu, hm⟩ := R.bind_ok hm
  obtain ⟨env1, en, hm⟩ := R.bind_ok hm
  cases hm
  obtain ⟨n1, rfl⟩ := putE_at en
  refine ⟨B, pot, os, env, st, E, _, _, ex, fun v H1 k1 p1 => ?_⟩
  obtain ⟨E1, w1⟩ := p1.val E eu
  exact h _ H1 _ (E1.setI n1 w1) ((b0.step k1).sub fun _ => set_none_mem)
theorem s_set (i : Nat) {x : PySem.Str} {pos' : PySem.Pos} (hN : X.N.Nodup) (hi : X.N[i]? = some x) (hx : L2.Loc X.env.scope x) (ha : PE X a (tM X.K ma)) (hs : PySem.swapsWith a (some (.Name x pos')) pos.line X.env = pure false := by rfl) (hf : X.fn x = true ∨ X.env.scope.names.lookup x = some .local := by first | exact .inl rfl | exact .inr rfl) :
    PS X (.Assign [.Name x pos'] a pos) (tMS X.K (sSet i ma)) := PS_imp (L2.ps_set hN hi hx ha hs hf) set_imp
theorem own_imp2 {i : Nat} : ∀ D σ H, tMS X.K (sOwn i ma) D σ H → L2.tAsg (tM X.K ma) (L2.gName i) D σ H := fun D σ H ⟨B, W, pot, H0, os, env, st, E, b0, o, hm, h⟩ => by
  obtain ⟨x, ex, hm⟩ := R.bind_ok hm
  split at hm
  · rename_i ds hd
    obtain ⟨env1, en, hm⟩ := R.bind_ok hm
    cases hm
    obtain ⟨n1, rfl⟩ := putE_at en
    refine ⟨B, pot, os, env, st, E, _, _, ex, fun v H1 k1 p1 => ?_⟩
    rw [hd] at p1
    obtain ⟨p, vs, rfl, n, E1, e1, e2⟩ := p1
    by_cases il : i < env.length
    · exact h _ H1 _ (E.setO n E1 n1 il e1 e2) ((b0.step k1).put (b0.fresh n))
    · have z1 : setE env i (.ow ds) = env := setE_out _ _ _ (by omega)
      have z2 : σ.set i (some (.ref p)) = σ := by
        have := E.l1
        exact List.set_eq_of_length_le (by omega)
      show D.nx (σ.set i (some (.ref p))) H1
      rw [z2]
      rw [z1] at h
      exact h σ H1 os (EPost.any E (e := .ow ds) ⟨p, vs, rfl, n, E1, e1, e2⟩) (b0.step k1)
  · cases hm
theorem s_own (i : Nat) {x : PySem.Str} {pos' : PySem.Pos} (hN : X.N.Nodup) (hi : X.N[i]? = some x) (hx : L2.Loc X.env.scope x) (ha : PE X a (tM X.K ma)) (hs : PySem.swapsWith a (some (.Name x pos')) pos.line X.env = pure false := by rfl) (hf : X.fn x = true ∨ X.env.scope.names.lookup x = some .local := by first | exact .inl rfl | exact .inr rfl) :
    PS X (.Assign [.Name x pos'] a pos) (tMS X.K (sOwn i ma)) := PS_imp (L2.ps_set hN hi hx ha hs hf) own_imp2
/-- name = [.. for ..] on one line -/
theorem s_setLc (i : Nat) {y : PySem.Str} {py : PySem.Pos} {elt tg iter : PySem.Expr} {ifs : List PySem.Expr} {scope : PySem.Scope} {own : List (PySem.Str × Nat)} {p : Pat} {mi : MI} {lpos : PySem.Pos} (hc : X.calm = true) (hN : X.N.Nodup) (hy : X.N[i]? = some y) (hyl : X.env.scope.names.lookup y = some .local)
    (hsw : PySem.swapsWith (.ListComp elt [⟨tg, iter, ifs, 0⟩] scope lpos) (some (.Name y py)) pos.line X.env = pure true) (hsl : ∀ i ∈ p.slots, i ∈ own.map (·.2)) (hi : PI X tg iter (tMI X.K mi)) (ok : L2.BlkOk X.N X.env.scope scope own)
    (hg : ∀ (s : PySem.Shared) (H : Hp) (C : Addr) (cl : List (PySem.Str × Addr)) (fp : List Addr), PG (X.blk s H scope (PySem.compEnvC scope cl C X.env) fp) tg (gP X.K p)) (ht : ∀ (s : PySem.Shared) (H : Hp) (C : Addr) (cl : List (PySem.Str × Addr)) (fp : List Addr), L2.PTs (X.blk s H scope (PySem.compEnvC scope cl C X.env) fp) ifs (tMT X.K mc))
    (he : ∀ (s : PySem.Shared) (H : Hp) (C : Addr) (cl : List (PySem.Str × Addr)) (fp : List Addr), PE (X.blk s H scope (PySem.compEnvC scope cl C X.env) fp) elt (tM X.K me)) (hs : ∀ x, PySem.foldedSetIterable iter X.env x = pure x := by intro _; rfl) :
    PS X (.Assign [.Name y py] (.ListComp elt [⟨tg, iter, ifs, 0⟩] scope lpos) pos) (tMS X.K (sSet i (mLc mi p (own.map (·.2)) mc me))) :=
  PS_imp (L2.ps_setLc hc hN hy hyl hsw hi ok hg ht he hs) fun D σ H h => lc_imp hsl _ _ _ (set_imp D σ H h)
theorem s_ownLc (i : Nat) {y : PySem.Str} {py : PySem.Pos} {elt tg iter : PySem.Expr} {ifs : List PySem.Expr} {scope : PySem.Scope} {own : List (PySem.Str × Nat)} {p : Pat} {mi : MI} {lpos : PySem.Pos} (hc : X.calm = true) (hN : X.N.Nodup) (hy : X.N[i]? = some y) (hyl : X.env.scope.names.lookup y = some .local)
    (hsw : PySem.swapsWith (.ListComp elt [⟨tg, iter, ifs, 0⟩] scope lpos) (some (.Name y py)) pos.line X.env = pure true) (hsl : ∀ i ∈ p.slots, i ∈ own.map (·.2)) (hi : PI X tg iter (tMI X.K mi)) (ok : L2.BlkOk X.N X.env.scope scope own)
    (hg : ∀ (s : PySem.Shared) (H : Hp) (C : Addr) (cl : List (PySem.Str × Addr)) (fp : List Addr), PG (X.blk s H scope (PySem.compEnvC scope cl C X.env) fp) tg (gP X.K p)) (ht : ∀ (s : PySem.Shared) (H : Hp) (C : Addr) (cl : List (PySem.Str × Addr)) (fp : List Addr), L2.PTs (X.blk s H scope (PySem.compEnvC scope cl C X.env) fp) ifs (tMT X.K mc))
    (he : ∀ (s : PySem.Shared) (H : Hp) (C : Addr) (cl : List (PySem.Str × Addr)) (fp : List Addr), PE (X.blk s H scope (PySem.compEnvC scope cl C X.env) fp) elt (tM X.K me)) (hs : ∀ x, PySem.foldedSetIterable iter X.env x = pure x := by intro _; rfl) :
    PS X (.Assign [.Name y py] (.ListComp elt [⟨tg, iter, ifs, 0⟩] scope lpos) pos) (tMS X.K (sOwn i (mLc mi p (own.map (·.2)) mc me))) :=
  PS_imp (L2.ps_setLc hc hN hy hyl hsw hi ok hg ht he hs) fun D σ H h => lc_imp hsl _ _ _ (own_imp2 D σ H h)
theorem s_pat {tg : PySem.Expr} {p : Pat} (ha : PE X a (tM X.K ma)) (hg : PG X tg (gP X.K p)) (hs : PySem.swapsWithSole [tg] a pos.line X.env = pure false := by rfl) (hw : PySem.swappedStores [tg] a X.env = pure none := by rfl) (h1 : (PySem.assignEach [tg] X.env).map (·.2) = [PySem.assign tg X.env] := by rfl) :
    PS X (.Assign [tg] a pos) (tMS X.K (sPat p ma)) :=
  PS_imp (L2.ps_asg ha hg hs hw h1) fun D σ H ⟨B, W, pot, H0, os, env, st, E, b0, o, hm, h⟩ => by
    obtain ⟨x, ex, hm⟩ := R.bind_ok hm
    obtain ⟨u, eu, hm⟩ := R.bind_ok hm
    obtain ⟨env1, en, hm⟩ := R.bind_ok hm
    cases hm
    refine ⟨B, pot, os, env, st, E, _, _, ex, fun v H1 k1 p1 => ?_⟩
    obtain ⟨E1, w1⟩ := p1.val E eu
    exact gP_ok p E1 w1 en fun os' σ' E' sub _ _ => h σ' H1 os' E' ((b0.step k1).sub sub)
/-! ### a, b = .., .. -/
/-- a value that waits for its store -/
def KP (K : PySem.W.Frag) (B0 B : Addr → Prop) (pot : Option Addr) (os : List (Option Addr)) (H : Hp) (v : V) : EV → Prop
  | .im d => Dr K H (av B os) v d
  | .ow ds => ∃ p vs, v = .ref p ∧ B p ∧ ¬ B0 p ∧ ¬ some p ∈ os ∧ pot ≠ some p ∧ H p = some (.lst vs) ∧ DrAll K H (av B os) vs ds
  | _ => False
end
section
variable {K : PySem.W.Frag} {B B0 B1 B2 : Addr → Prop} {pot : Option Addr} {os os1 : List (Option Addr)} {H H1 : Hp} {σ : St} {env env1 : Env} {st st' : Pt} {v : V} {e u : EV} {i : Nat}
theorem keepE_KP {ob : Bool} (E : ERep K B pot os H σ env st) (p : EPost K B pot os H H1 σ env st' v e) (h : keepE ob e = .ok u) : ∃ B1, (∀ b, B b → B1 b) ∧ (∀ b, B1 b → B b ∨ H b = none) ∧ ERep K B1 pot os H1 σ env st' ∧ KP K B B1 pot os H1 v u := by
  unfold keepE at h
  split at h
  · split at h
    · cases h
      obtain ⟨p, vs, rfl, n, E1, e1, e2⟩ := p
      refine ⟨plus B p, fun b z => .inl z, fun b z => ?_, E1, p, vs, rfl, .inr rfl, fun z => E.off n (.inl z), fun z => E.off n (.inr z), fun z => ?_, e1, e2⟩
      · rcases z with z | z
        · exact .inl z
        · rw [z]
          exact .inr n
      · obtain ⟨_, y⟩ := E.pot p z
        rw [n] at y
        cases y
    · cases h
  · obtain ⟨d, ed, h⟩ := R.bind_ok h
    cases h
    obtain ⟨E1, w1⟩ := p.val E ed
    exact ⟨B, fun b z => z, fun b z => .inl z, E1, w1⟩
theorem KP.keep (E : ERep K B pot os H σ env st) (k : Keep pot H H1) (s : ∀ b, B b → B1 b) (n : ∀ b, B1 b → B b ∨ H b = none) (h : KP K B0 B pot os H v u) : KP K B0 B1 pot os H1 v u := by
  have kk : ∀ b o, H b = some o → ¬ av B os b → H1 b = some o ∧ ¬ av B1 os b := fun b o q z => ⟨k b o q fun y => z (.inl (E.pot b y).1), fun y => by
    rcases y with y | y
    · rcases n b y with y | y
      · exact z (.inl y)
      · rw [q] at y
        cases y
    · exact z (.inr y)⟩
  cases u with
  | no => exact h.elim
  | pt => exact h.elim
  | fz _ => exact h.elim
  | bo _ => exact h.elim
  | im d => exact Dr.to kk h
  | ow ds =>
    obtain ⟨p, vs, rfl, h1, h2, h3, h4, h5, h6⟩ := h
    exact ⟨p, vs, rfl, s p h1, h2, h3, h4, k p _ h5 h4, h6.to kk⟩
/-- what an own list's address may not be -/
def KP.adr (v : V) (u : EV) (a : Addr) : Prop := (∃ ds, u = .ow ds) ∧ v = .ref a
/-- the store: the address leaves B -/
theorem KP.put (E : ERep K B pot os H σ env st) (s : ∀ b, B0 b → B b) (bp : ∀ p, pot = some p → B0 p) (h : KP K B0 B pot os H v u) (hp : putE env i u = .ok env1) :
    ∃ B1 os1, (∀ b, B0 b → B1 b) ∧ (∀ b, B1 b → B b) ∧ ERep K B1 pot os1 H (σ.set i (some v)) env1 st ∧ (∀ a, some a ∈ os1 → some a ∈ os ∨ (B a ∧ ¬ B0 a)) ∧ (∀ a, av B1 os1 a → av B os a) ∧ (∀ a, KP.adr v u a ∨ (¬ KP.adr v u a ∧ (B a → B1 a) ∧ (¬ some a ∈ os → ¬ some a ∈ os1))) := by
  obtain ⟨n1, rfl⟩ := putE_at hp
  by_cases il : i < env.length
  case neg =>
    have z2 : σ.set i (some v) = σ := by
      have := E.l1
      exact List.set_eq_of_length_le (by omega)
    rw [z2, setE_out _ _ _ (by omega)]
    exact ⟨B, os, s, fun _ z => z, E, fun a z => .inl z, fun _ z => z, fun a => (Classical.em (KP.adr v u a)).imp (fun z => z) fun z => ⟨z, fun z => z, fun z => z⟩⟩
  cases u with
  | no => exact h.elim
  | pt => exact h.elim
  | fz _ => exact h.elim
  | bo _ => exact h.elim
  | im d =>
    refine ⟨B, _, s, fun _ z => z, E.setI n1 h, fun a z => .inl (set_none_mem z), fun a z => av_set a z, fun a => .inr ⟨fun z => ?_, fun z => z, fun z y => z (set_none_mem y)⟩⟩
    obtain ⟨⟨_, z⟩, _⟩ := z
    cases z
  | ow ds =>
    obtain ⟨p, vs, rfl, h1, h2, h3, h4, h5, h6⟩ := h
    refine ⟨fun b => B b ∧ b ≠ p, os.set i (some p), fun b z => ⟨s b z, fun y => h2 (by rw [← y]; exact z)⟩, fun b z => z.1, ?_, fun a z => ?_, fun a z => ?_, fun a => ?_⟩
    · have l1 := E.l1
      have l2 := E.l2
      have sub : ∀ a, av (fun b => B b ∧ b ≠ p) (os.set i (some p)) a → av B os a := fun a h => by
        rcases h with h | h
        · exact .inl h.1
        · rcases List.mem_or_eq_of_mem_set h with h | h
          · exact .inr h
          · cases h
            exact .inl h1
      have kk : ∀ b o, H b = some o → ¬ av B os b → H b = some o ∧ ¬ av (fun b => B b ∧ b ≠ p) (os.set i (some p)) b := fun b o h z => ⟨h, fun y => z (sub b y)⟩
      have np : ∀ j, os[j]? ≠ some (some p) := fun j q => h3 (List.mem_of_getElem? q)
      have at_ : ∀ {j : Nat} {a : Addr}, (os.set i (some p))[j]? = some (some a) → (j = i ∧ a = p) ∨ (j ≠ i ∧ os[j]? = some (some a)) := fun {j a} h => by
        by_cases z : j = i
        · subst z
          rw [List.getElem?_set_self (by omega)] at h
          exact .inl ⟨rfl, (Option.some.inj (Option.some.inj h)).symm⟩
        · rw [List.getElem?_set_ne (fun y => z y.symm)] at h
          exact .inr ⟨z, h⟩
      refine ⟨fun b hb => E.bt b hb.1, by rw [List.length_set, setE_len]; exact l1, by rw [List.length_set, setE_len]; exact l2, fun j d h => ?_, fun j es h => ?_, fun j es h => ?_, fun j ns h => ?_, fun j a h => ?_, fun j k a h h' => ?_, fun j h => ?_, fun q h => ?_⟩
      case refine_4 =>
        by_cases z : j = i
        · rw [z, getE_same _ _ _ il] at h
          cases h
        · rw [getE_ne _ _ _ _ z] at h
          obtain ⟨a, e1, e2⟩ := E.fz j ns h
          exact ⟨a, by rw [List.getElem?_set_ne (fun y => z y.symm)]; exact e1, e2⟩
      · by_cases z : j = i
        · rw [z, getE_same _ _ _ il] at h
          cases h
        · rw [getE_ne _ _ _ _ z] at h
          obtain ⟨x, e1, e2⟩ := E.slot j d h
          exact ⟨x, by rw [List.getElem?_set_ne (fun y => z y.symm)]; exact e1, e2.to kk⟩
      · by_cases z : j = i
        · rw [z, getE_same _ _ _ il] at h
          cases h
          rw [z]
          exact ⟨p, vs, by rw [List.getElem?_set_self (by omega)], by rw [List.getElem?_set_self (by omega)], h5, h6.to kk⟩
        · rw [getE_ne _ _ _ _ z] at h
          obtain ⟨a, us, e1, e2, e3, e4⟩ := E.own j es h
          exact ⟨a, us, by rw [List.getElem?_set_ne (fun y => z y.symm)]; exact e1, by rw [List.getElem?_set_ne (fun y => z y.symm)]; exact e2, e3, e4.to kk⟩
      · by_cases z : j = i
        · rw [z, getE_same _ _ _ il] at h
          cases h
        · rw [getE_ne _ _ _ _ z] at h
          exact E.nb j es h
      · rcases at_ h with ⟨rfl, rfl⟩ | ⟨z, h⟩
        · exact ⟨fun y => y.2 rfl, ds, getE_same _ _ _ il⟩
        · obtain ⟨e1, es, e2⟩ := E.ad j a h
          exact ⟨fun y => e1 y.1, es, by rw [getE_ne _ _ _ _ z]; exact e2⟩
      · rcases at_ h with ⟨rfl, rfl⟩ | ⟨z, h⟩
        · rcases at_ h' with ⟨rfl, _⟩ | ⟨z', h'⟩
          · rfl
          · exact absurd h' (np k)
        · rcases at_ h' with ⟨_, z2⟩ | ⟨z', h'⟩
          · rw [z2] at h
            exact absurd h (np j)
          · exact E.inj j k a h h'
      · by_cases z : j = i
        · rw [z, getE_same _ _ _ il] at h
          cases h
        · rw [getE_ne _ _ _ _ z] at h
          obtain ⟨p, e1, e2⟩ := E.pt j h
          exact ⟨p, e1, by rw [List.getElem?_set_ne (fun y => z y.symm)]; exact e2⟩
      · obtain ⟨e3, e4⟩ := E.pot q h
        exact ⟨⟨e3, fun y => h4 (by rw [h, y])⟩, e4⟩
    · rcases List.mem_or_eq_of_mem_set z with z | z
      · exact .inl z
      · cases z
        exact .inr ⟨h1, h2⟩
    · rcases z with z | z
      · exact .inl z.1
      · rcases List.mem_or_eq_of_mem_set z with z | z
        · exact .inr z
        · cases z
          exact .inl h1
    · by_cases z : a = p
      · exact .inl ⟨⟨_, rfl⟩, by rw [z]⟩
      · refine .inr ⟨fun y => z (V.ref.inj y.2).symm, fun y => ⟨y, z⟩, fun y q => ?_⟩
        rcases List.mem_or_eq_of_mem_set q with q | q
        · exact y q
        · cases q
          exact z rfl
/-- another one still waits -/
theorem KP.other {w : V} {t : EV} (h : KP K B0 B pot os H w t) (s1 : ∀ b, B1 b → B b) (av1 : ∀ a, av B1 os1 a → av B os a) (sep : ∀ a, KP.adr v u a ∨ (¬ KP.adr v u a ∧ (B a → B1 a) ∧ (¬ some a ∈ os → ¬ some a ∈ os1))) (ne : ∀ a, KP.adr w t a → ¬ KP.adr v u a) : KP K B0 B1 pot os1 H w t := by
  have kk : ∀ b o, H b = some o → ¬ av B os b → H b = some o ∧ ¬ av B1 os1 b := fun b o q z => ⟨q, fun y => z (av1 b y)⟩
  cases t with
  | no => exact h.elim
  | pt => exact h.elim
  | fz _ => exact h.elim
  | bo _ => exact h.elim
  | im d => exact Dr.to kk h
  | ow ds =>
    obtain ⟨p, vs, rfl, h1, h2, h3, h4, h5, h6⟩ := h
    rcases sep p with z | ⟨_, z1, z2⟩
    · exact absurd z (ne p ⟨⟨_, rfl⟩, rfl⟩)
    · exact ⟨p, vs, rfl, z1 h1, h2, z2 h3, h4, h5, h6.to kk⟩
end
section
variable {X : Cx} {a b c : PySem.Expr} {ma mb mc me : ME} {pos : PySem.Pos}
theorem KP.isB {K : PySem.W.Frag} {B0 B : Addr → Prop} {pot : Option Addr} {os : List (Option Addr)} {H : Hp} {v : V} {u : EV} (h : KP K B0 B pot os H v u) {a : Addr} (z : KP.adr v u a) : B a ∧ ¬ B0 a ∧ ¬ some a ∈ os ∧ ∃ o, H a = some o := by
  obtain ⟨⟨ds, rfl⟩, rfl⟩ := z
  obtain ⟨p, vs, h0, h1, h2, h3, h4, h5, h6⟩ := h
  cases h0
  exact ⟨h1, h2, h3, _, h5⟩
theorem av_mono {B B1 : Addr → Prop} {os : List (Option Addr)} (s : ∀ b, B b → B1 b) : ∀ a, av B os a → av B1 os a := fun a h => by
  rcases h with h | h
  · exact .inl (s a h)
  · exact .inr h
theorem s_par2 (i j : Nat) (oi oj : Bool) {x y : PySem.Str} {px py pt : PySem.Pos} {kt k2 pt2} (hc : X.calm = true) (hN : X.N.Nodup) (hi : X.N[i]? = some x) (hj : X.N[j]? = some y) (hij : i ≠ j)
    (hx : X.env.scope.names.lookup x = some .local) (hy : X.env.scope.names.lookup y = some .local) (ha : PE X a (tM X.K ma)) (hb : PE X b (tM X.K mb))
    (hw : PySem.swappedStores [.Tuple [.Name x px, .Name y py] kt pt] (.Tuple [a, b] k2 pt2) X.env = pure (some [x, y]))
    (h1 : PySem.starEach [a, b] X.env = (false, PySem.eval a X.env) :: PySem.starEach [b] X.env := by rfl) (h2 : PySem.starEach [b] X.env = (false, PySem.eval b X.env) :: PySem.starEach [] X.env := by rfl)
    (hs : PySem.swapsWithSole [.Tuple [.Name x px, .Name y py] kt pt] (.Tuple [a, b] k2 pt2) pos.line X.env = pure false := by rfl) :
    PS X (.Assign [.Tuple [.Name x px, .Name y py] kt pt] (.Tuple [a, b] k2 pt2) pos) (tMS X.K (sPar2 i j oi oj ma mb)) := by
  refine PS_imp (L2.ps_par hc hN hi hj hij hx hy (L2.pa_cons ha (L2.pa_cons hb L2.pa_nil h2) h1) hw hs) fun D σ H ⟨B, W, pot, H0, os, env, st, E, b0, o, hm, h⟩ => ?_
  obtain ⟨x1, ex, hm⟩ := R.bind_ok hm
  obtain ⟨u, eu, hm⟩ := R.bind_ok hm
  obtain ⟨y1, ey, hm⟩ := R.bind_ok hm
  obtain ⟨t, et, hm⟩ := R.bind_ok hm
  obtain ⟨env1, en1, hm⟩ := R.bind_ok hm
  obtain ⟨env2, en2, hm⟩ := R.bind_ok hm
  cases hm
  refine ⟨B, pot, os, env, st, E, _, _, ex, fun v H1 k1 p1 => ?_⟩
  obtain ⟨B1, s1, n1, E1, w1⟩ := keepE_KP E p1 eu
  refine ⟨B1, pot, os, env, _, E1, _, _, ey, fun w H2 k2 p2 => ?_⟩
  obtain ⟨B2, s2, n2, E2, w2⟩ := keepE_KP E1 p2 et
  have w1' := w1.keep E1 k2 s2 n2
  have w2' : KP X.K B B2 pot os H2 w t := by
    cases t with
    | no => exact w2.elim
    | pt => exact w2.elim
    | fz _ => exact w2.elim
    | bo _ => exact w2.elim
    | im d => exact w2
    | ow ds =>
      obtain ⟨p, vs, h0, h1, h2, h3⟩ := w2
      exact ⟨p, vs, h0, h1, fun z => h2 (s1 p z), h3⟩
  have ne : ∀ a, KP.adr w t a → ¬ KP.adr v u a := fun a z y => (w2.isB z).2.1 (w1.isB y).1
  have bp : ∀ p, pot = some p → B p := fun p z => (E.pot p z).1
  have fr : ∀ a, B2 a ∧ ¬ B a → H a = none := fun a z => by
    rcases n2 a z.1 with y | y
    · rcases n1 a y with y | y
      · exact absurd y z.2
      · exact y
    · exact E1.back k1 y
  refine ⟨v, w, rfl, ?_⟩
  obtain ⟨B3, o3, a1, a2, E3, a3, a4, a5⟩ := w1'.put E2 (fun b z => s2 b (s1 b z)) bp en1
  have w3 := w2'.other a2 a4 a5 ne
  obtain ⟨B4, o4, c1, c2, E4, c3, c4, c5⟩ := w3.put E3 a1 bp en2
  refine h _ H2 o4 (E4.less c1 bp) ⟨fun b o q z => (b0.step (k1.trans k2)).same b o q z, fun a z => ?_, b0.wp⟩
  rcases c3 a z with z | z
  · rcases a3 a z with z | z
    · exact b0.wr a z
    · exact b0.fresh (fr a z)
  · exact b0.fresh (fr a ⟨a2 a z.1, z.2⟩)
theorem KP.base {K : PySem.W.Frag} {B B0 B' : Addr → Prop} {pot : Option Addr} {os : List (Option Addr)} {H : Hp} {v : V} {u : EV} (h : KP K B0 B pot os H v u) (s : ∀ b, B' b → B0 b) : KP K B' B pot os H v u := by
  cases u with
  | no => exact h.elim
  | pt => exact h.elim
  | fz _ => exact h.elim
  | bo _ => exact h.elim
  | im d => exact h
  | ow ds =>
    obtain ⟨p, vs, h0, h1, h2, h3⟩ := h
    exact ⟨p, vs, h0, h1, fun z => h2 (s p z), h3⟩
theorem s_par3 (i j k : Nat) (oi oj ok : Bool) {x y z : PySem.Str} {px py pz pt : PySem.Pos} {kt k2 pt2} (hc : X.calm = true) (hN : X.N.Nodup) (hi : X.N[i]? = some x) (hj : X.N[j]? = some y) (hk : X.N[k]? = some z) (hij : i ≠ j) (hik : i ≠ k) (hjk : j ≠ k)
    (hx : X.env.scope.names.lookup x = some .local) (hy : X.env.scope.names.lookup y = some .local) (hz : X.env.scope.names.lookup z = some .local) (ha : PE X a (tM X.K ma)) (hb : PE X b (tM X.K mb)) (hcc : PE X c (tM X.K mc))
    (hw : PySem.swappedStores [.Tuple [.Name x px, .Name y py, .Name z pz] kt pt] (.Tuple [a, b, c] k2 pt2) X.env = pure (some [x, y, z]))
    (h1 : PySem.starEach [a, b, c] X.env = (false, PySem.eval a X.env) :: PySem.starEach [b, c] X.env := by rfl) (h2 : PySem.starEach [b, c] X.env = (false, PySem.eval b X.env) :: PySem.starEach [c] X.env := by rfl) (h3 : PySem.starEach [c] X.env = (false, PySem.eval c X.env) :: PySem.starEach [] X.env := by rfl)
    (hs : PySem.swapsWithSole [.Tuple [.Name x px, .Name y py, .Name z pz] kt pt] (.Tuple [a, b, c] k2 pt2) pos.line X.env = pure false := by rfl) :
    PS X (.Assign [.Tuple [.Name x px, .Name y py, .Name z pz] kt pt] (.Tuple [a, b, c] k2 pt2) pos) (tMS X.K (sPar3 i j k oi oj ok ma mb mc)) := by
  refine PS_imp (L2.ps_par3 hc hN hi hj hk hij hik hjk hx hy hz (L2.pa_cons ha (L2.pa_cons hb (L2.pa_cons hcc L2.pa_nil h3) h2) h1) hw hs) fun D σ H ⟨B, W, pot, H0, os, env, st, E, b0, o, hm, h⟩ => ?_
  obtain ⟨x1, ex, hm⟩ := R.bind_ok hm
  obtain ⟨u, eu, hm⟩ := R.bind_ok hm
  obtain ⟨y1, ey, hm⟩ := R.bind_ok hm
  obtain ⟨t, et, hm⟩ := R.bind_ok hm
  obtain ⟨z1, ez, hm⟩ := R.bind_ok hm
  obtain ⟨r, er, hm⟩ := R.bind_ok hm
  obtain ⟨env1, en1, hm⟩ := R.bind_ok hm
  obtain ⟨env2, en2, hm⟩ := R.bind_ok hm
  obtain ⟨env3, en3, hm⟩ := R.bind_ok hm
  cases hm
  refine ⟨B, pot, os, env, st, E, _, _, ex, fun v H1 k1 p1 => ?_⟩
  obtain ⟨B1, s1, n1, E1, w1⟩ := keepE_KP E p1 eu
  refine ⟨B1, pot, os, env, _, E1, _, _, ey, fun w H2 k2 p2 => ?_⟩
  obtain ⟨B2, s2, n2, E2, w2⟩ := keepE_KP E1 p2 et
  refine ⟨B2, pot, os, env, _, E2, _, _, ez, fun q H3 k3 p3 => ?_⟩
  obtain ⟨B3, s3, n3, E3, w3⟩ := keepE_KP E2 p3 er
  have u1 := (w1.keep E1 k2 s2 n2).keep E2 k3 s3 n3
  have u2 := w2.keep E2 k3 s3 n3
  have ne1 : ∀ a, KP.adr w t a → ¬ KP.adr v u a := fun a z y => (w2.isB z).2.1 (w1.isB y).1
  have ne2 : ∀ a, KP.adr q r a → ¬ KP.adr v u a := fun a z y => (w3.isB z).2.1 (s2 a (w1.isB y).1)
  have ne3 : ∀ a, KP.adr q r a → ¬ KP.adr w t a := fun a z y => (w3.isB z).2.1 (w2.isB y).1
  have u2' := u2.base s1
  have u3' := w3.base fun b z => s2 b (s1 b z)
  have bp : ∀ p, pot = some p → B p := fun p z => (E.pot p z).1
  have fr : ∀ a, B3 a ∧ ¬ B a → H a = none := fun a z => by
    rcases n3 a z.1 with y | y
    · rcases n2 a y with y | y
      · rcases n1 a y with y | y
        · exact absurd y z.2
        · exact y
      · exact E1.back k1 y
    · exact E1.back k1 (E2.back k2 y)
  refine ⟨v, w, q, rfl, ?_⟩
  obtain ⟨B4, o4, a1, a2, E4, a3, a4, a5⟩ := u1.put E3 (fun b z => s3 b (s2 b (s1 b z))) bp en1
  have g2 := u2'.other a2 a4 a5 ne1
  have g3 := u3'.other a2 a4 a5 ne2
  obtain ⟨B5, o5, c1, c2, E5, c3, c4, c5⟩ := g2.put E4 a1 bp en2
  have g4 := g3.other c2 c4 c5 ne3
  obtain ⟨B6, o6, d1, d2, E6, d3, d4, d5⟩ := g4.put E5 c1 bp en3
  refine h _ H3 o6 (E6.less d1 bp) ⟨fun b o q z => (b0.step ((k1.trans k2).trans k3)).same b o q z, fun a z => ?_, b0.wp⟩
  rcases d3 a z with z | z
  · rcases c3 a z with z | z
    · rcases a3 a z with z | z
      · exact b0.wr a z
      · exact b0.fresh (fr a z)
    · exact b0.fresh (fr a ⟨a2 a z.1, z.2⟩)
  · exact b0.fresh (fr a ⟨a2 a (c2 a z.1), z.2⟩)
end
end BP

namespace BP
open L2 (V Hp HO St TE TT TA TS TG TI It Ends Cx PE PT PW PA PS PSs PG PI Inv upd upd_same upd_ne OpR UnR CallR Same VK XK Sp Room Vals RelV FnScope PK CX0 E0)
section
variable {X : Cx} {a b c : PySem.Expr} {ma mb mc me : ME} {pos : PySem.Pos} {s s' : MS} {stm : PySem.Stmt} {rest : List PySem.Stmt}
theorem rt_ok {K : PySem.W.Frag} {B W : Addr → Prop} {pot : Option Addr} {os : List (Option Addr)} {H0 H : Hp} {σ : St} {env : Env} {st : Pt} {En : Ends} {v : V} {d : D} (E : ERep K B pot os H σ env st) (b0 : Base0 W pot os H0 H) (w : Dr K H (av B os) v d) (h : After K B W pot H0 En (.rt d st)) : En.rt v H :=
  h v H b0.same (w.to fun b o q z => ⟨q, fun y => z (.inl y)⟩) fun p z => (E.pot p z).2
theorem s_ret (ha : PE X a (tM X.K ma)) : PS X (.Return (some a) pos) (tMS X.K (sRet ma)) :=
  PS_imp (L2.ps_ret ha) fun D σ H ⟨B, W, pot, H0, os, env, st, E, b0, o, hm, h⟩ => by
    obtain ⟨x, ex, hm⟩ := R.bind_ok hm
    obtain ⟨u, eu, hm⟩ := R.bind_ok hm
    cases hm
    refine ⟨B, pot, os, env, st, E, _, _, ex, fun v H1 k1 p1 => ?_⟩
    obtain ⟨E1, w1⟩ := p1.val E eu
    exact rt_ok E1 (b0.step k1) w1 h
theorem s_retN : PS X (.Return none pos) (tMS X.K sRetN) :=
  PS_imp L2.ps_retN fun D σ H ⟨B, W, pot, H0, os, env, st, E, b0, o, hm, h⟩ => by
    cases hm
    exact rt_ok E b0 .non h
theorem s_if {c : PySem.Expr} {sa sb : List PySem.Stmt} (hc : PT X c (tMT X.K mc)) (h1 : PSs X sa (tMS X.K s)) (h2 : PSs X sb (tMS X.K s')) : PS X (.If c sa sb pos) (tMS X.K (sIf mc s s')) :=
  PS_imp (L2.ps_if hc h1 h2) fun D σ H ⟨B, W, pot, H0, os, env, st, E, b0, o, hm, h⟩ => by
    obtain ⟨⟨x1, x2⟩, ex, hm⟩ := R.bind_ok hm
    dsimp only at hm
    split at hm
    · refine ⟨B, pot, os, env, st, E, _, _, ex, fun H1 k1 E1 => ?_⟩
      refine L2.iteT ?_
      exact ⟨B, W, pot, H0, os, env, _, E1, b0.step k1, o, hm, h⟩
    · refine ⟨B, pot, os, env, st, E, _, _, ex, fun H1 k1 E1 => ?_⟩
      refine L2.iteF ?_
      exact ⟨B, W, pot, H0, os, env, _, E1, b0.step k1, o, hm, h⟩
    · cases hm
/-! ### an own list is changed -/
theorem s_setI (i : Nat) {xo e v : PySem.Expr} {me mv : ME} {p2 : PySem.Pos} (ho : PE X xo (L2.tVar i)) (he : PE X e (tM X.K me)) (hv : PE X v (tM X.K mv))
    (hs : PySem.swapsWithSole [.Subscript xo e p2] v pos.line X.env = pure false := by rfl) (hw : PySem.swappedStores [.Subscript xo e p2] v X.env = pure none := by rfl) (h1 : (PySem.assignEach [.Subscript xo e p2] X.env).map (·.2) = [PySem.assign (.Subscript xo e p2) X.env] := by rfl)
    (h2 : ∀ v, PySem.assign (.Subscript xo e p2) X.env v = (do
      let ov ← PySem.holding [v] (PySem.eval xo X.env)
      let iv ← PySem.holding [v, ov] (PySem.eval e X.env)
      PySem.standAt p2
      PySem.holding [v, ov, iv] (PySem.setItem ov iv v)
      PySem.release [v, ov, iv] []) := by intro _; rfl) :
    PS X (.Assign [.Subscript xo e p2] v pos) (tMS X.K (sSetI i me mv)) :=
  PS_imp (L2.ps_asg hv (L2.pg_sub ho he L2.set_list h2) hs hw h1) fun D σ H ⟨B, W, pot, H0, os, env, st, E, b0, o, hm, h⟩ => by
    obtain ⟨y, ey, hm⟩ := R.bind_ok hm
    obtain ⟨u, eu, hm⟩ := R.bind_ok hm
    obtain ⟨⟨x1, x2⟩, ex, hm⟩ := R.bind_ok hm
    dsimp only at hm
    split at hm
    · rename_i ds k hd
      split at hm
      · rename_i j hj
        cases hm
        refine ⟨B, pot, os, env, st, E, _, _, ey, fun w H1 k1 p1 => ?_⟩
        obtain ⟨E1, w1⟩ := p1.val E eu
        obtain ⟨a0, vs0, e1, e2, _, _⟩ := E1.own _ _ hd
        refine ⟨_, e2, B, pot, os, env, _, E1, _, _, ex, fun w2 H2 k2 p2 => ?_⟩
        obtain ⟨E2, q2⟩ := p2
        cases q2
        obtain ⟨a1, vs, e3, e4, e5, e6⟩ := E2.own _ _ hd
        rw [e1] at e3
        cases e3
        have hj' : L2.ixN vs.length k = some j := by rw [e6.length]; exact hj
        refine ⟨a0, vs, k, j, rfl, rfl, e5, hj', ?_⟩
        exact h σ _ os (E2.chg hd e1 (e6.set (w1.keep E1 k2) j)) ((b0.step (k1.trans k2)).chg (List.mem_of_getElem? e1))
      · cases hm
    · cases hm
theorem s_append (i : Nat) {xo v : PySem.Expr} {mv : ME} {apos cpos : PySem.Pos} (ho : PE X xo (L2.tVar i)) (hv : PE X v (tM X.K mv))
    (hbase : PySem.attributeBase xo "append" X.env (PySem.eval xo X.env) = PySem.eval xo X.env := by rfl)
    (hfew : ((PySem.backTo cpos (PySem.starEach [v] X.env)).all (fun x => !x.1) && (PySem.backToKw cpos (PySem.keywordEach [] X.env)).all (fun x => x.1.isSome)
      && decide ([v].length + ([] : List PySem.Keyword).length + (if ([] : List PySem.Keyword).isEmpty then 0 else 1) < 30)) = true := by rfl)
    (hline : (apos.endLine == cpos.line) = true := by rfl) (hs : PySem.starEach [v] X.env = (false, PySem.eval v X.env) :: PySem.starEach [] X.env := by rfl) (hplain : (PySem.backTo cpos (PySem.starEach [] X.env)).any (·.1) = false := by rfl)
    (hsw : PySem.swapsWith (.Call (.Attribute xo "append" apos) [v] [] cpos) none pos.line X.env = pure false := by rfl) :
    PS X (.Expr (.Call (.Attribute xo "append" apos) [v] [] cpos) pos) (tMS X.K (sAppend i mv)) :=
  PS_imp (L2.ps_expr (L2.pe_bm PySem.F.plainAttrs_list PySem.F.slot_list_append PySem.F.type_list_append L2.mt_append ho (L2.pa_cons hv L2.pa_nil hs) hbase hfew hline hs hplain) hsw) fun D σ H ⟨B, W, pot, H0, os, env, st, E, b0, o, hm, h⟩ => by
    obtain ⟨y, ey, hm⟩ := R.bind_ok hm
    obtain ⟨u, eu, hm⟩ := R.bind_ok hm
    split at hm
    · rename_i ds hd
      split at hm
      · rename_i hl
        cases hm
        obtain ⟨a0, vs0, e1, e2, e0, _⟩ := E.own _ _ hd
        refine ⟨_, e2, .inl ⟨rfl, vs0, .inl (.inl e0)⟩, B, pot, os, env, st, E, _, _, ey, fun w H1 k1 p1 => ?_⟩
        obtain ⟨E1, w1⟩ := p1.val E eu
        obtain ⟨a1, vs, e3, e4, e5, e6⟩ := E1.own _ _ hd
        rw [e1] at e3
        cases e3
        have hl2 := e6.length
        have l1 : LIM = 1000000 := rfl
        have l2 : PySem.sizeLine = 16777216 := rfl
        refine ⟨a0, vs, w, rfl, rfl, e5, by omega, ?_⟩
        exact h σ _ os (E1.chg hd e1 (e6.append (.cons w1 .nil))) ((b0.step k1).chg (List.mem_of_getElem? e1))
      · cases hm
    · cases hm
theorem s_extend (i : Nat) {xo v : PySem.Expr} {mv : ME} {apos cpos : PySem.Pos} (ho : PE X xo (L2.tVar i)) (hv : PE X v (tM X.K mv))
    (hbase : PySem.attributeBase xo "extend" X.env (PySem.eval xo X.env) = PySem.eval xo X.env := by rfl)
    (hfew : ((PySem.backTo cpos (PySem.starEach [v] X.env)).all (fun x => !x.1) && (PySem.backToKw cpos (PySem.keywordEach [] X.env)).all (fun x => x.1.isSome)
      && decide ([v].length + ([] : List PySem.Keyword).length + (if ([] : List PySem.Keyword).isEmpty then 0 else 1) < 30)) = true := by rfl)
    (hline : (apos.endLine == cpos.line) = true := by rfl) (hs : PySem.starEach [v] X.env = (false, PySem.eval v X.env) :: PySem.starEach [] X.env := by rfl) (hplain : (PySem.backTo cpos (PySem.starEach [] X.env)).any (·.1) = false := by rfl)
    (hsw : PySem.swapsWith (.Call (.Attribute xo "extend" apos) [v] [] cpos) none pos.line X.env = pure false := by rfl) :
    PS X (.Expr (.Call (.Attribute xo "extend" apos) [v] [] cpos) pos) (tMS X.K (sExtend i mv)) :=
  PS_imp (L2.ps_expr (L2.pe_bm PySem.F.plainAttrs_list PySem.F.slot_list_extend PySem.F.type_list_extend L2.mt_extend ho (L2.pa_cons hv L2.pa_nil hs) hbase hfew hline hs hplain) hsw) fun D σ H ⟨B, W, pot, H0, os, env, st, E, b0, o, hm, h⟩ => by
    obtain ⟨y, ey, hm⟩ := R.bind_ok hm
    obtain ⟨u, eu, hm⟩ := R.bind_ok hm
    split at hm
    · rename_i ds es hd
      split at hm
      · rename_i hl
        cases hm
        obtain ⟨a0, vs0, e1, e2, e0, _⟩ := E.own _ _ hd
        refine ⟨_, e2, .inl ⟨rfl, vs0, .inl (.inl e0)⟩, B, pot, os, env, st, E, _, _, ey, fun w H1 k1 p1 => ?_⟩
        obtain ⟨E1, w1⟩ := p1.val E eu
        obtain ⟨a1, vs, e3, e4, e5, e6⟩ := E1.own _ _ hd
        rw [e1] at e3
        cases e3
        cases w1 with
        | lst q1 q2 q3 =>
          have hl2 := e6.length
          have hl3 := q3.length
          have l1 : LIM = 1000000 := rfl
          have l2 : PySem.sizeLine = 16777216 := rfl
          refine ⟨a0, _, vs, _, rfl, rfl, e5, q2, by omega, ?_⟩
          exact h σ _ os (E1.chg hd e1 (e6.append q3)) ((b0.step k1).chg (List.mem_of_getElem? e1))
      · cases hm
    · cases hm
theorem s_pop (i : Nat) {xo : PySem.Expr} {apos cpos : PySem.Pos} (ho : PE X xo (L2.tVar i))
    (hbase : PySem.attributeBase xo "pop" X.env (PySem.eval xo X.env) = PySem.eval xo X.env := by rfl) (hline : (apos.endLine == cpos.line) = true := by rfl)
    (hsw : PySem.swapsWith (.Call (.Attribute xo "pop" apos) [] [] cpos) none pos.line X.env = pure false := by rfl) :
    PS X (.Expr (.Call (.Attribute xo "pop" apos) [] [] cpos) pos) (tMS X.K (sPop i)) :=
  PS_imp (L2.ps_expr (L2.pe_bm0 PySem.F.plainAttrs_list PySem.F.slot_list_pop PySem.F.type_list_pop L2.mt_pop ho hbase hline) hsw) fun D σ H ⟨B, W, pot, H0, os, env, st, E, b0, o, hm, h⟩ => by
    unfold sPop at hm
    split at hm
    · rename_i ds hd
      split at hm
      · rename_i hne
        cases hm
        obtain ⟨a0, vs0, e1, e2, e0, e3⟩ := E.own _ _ hd
        have hl := e3.length
        have hpos : 0 < ds.length := List.length_pos_iff.mpr hne
        refine ⟨_, e2, .inl ⟨rfl, vs0, .inl (.inl e0)⟩, a0, vs0, vs0[vs0.length - 1]'(by omega), rfl, rfl, e0, List.getElem?_eq_getElem _, ?_⟩
        exact h σ _ os (E.chg hd e1 e3.dropLast) (b0.chg (List.mem_of_getElem? e1))
      · cases hm
    · cases hm
/-! ### loops -/
theorem s_for {tg iter : PySem.Expr} {body : List PySem.Stmt} {p : Pat} {mi : MI} (hxe : X.xe = fun _ _ => False) (hc : X.calm = true) (hi : PI X tg iter (tMI X.K mi)) (hg : PG X tg (gP X.K p)) (hb : PSs X body (tMS X.K s))
    (hs : ∀ x, PySem.foldedSetIterable iter X.env x = pure x := by intro _; rfl) : PS X (.For tg iter body [] pos) (tMS X.K (sFor mi p s)) :=
  PS_imp (L2.ps_for (by rw [hxe]; exact PySem.PassesOwn.never) hc hi hg hb hs) fun D σ H ⟨B, W, pot, H0, os, env, st, E, b0, o, hm, h⟩ => by
    obtain ⟨⟨ds, st1⟩, ex, hm⟩ := R.bind_ok hm
    dsimp only at hm
    refine ⟨B, pot, os, env, st, E, _, _, ex, fun J H1 k1 E1 wk => ?_⟩
    have b1 := b0.step k1
    have thru : ∀ {H' : Hp}, (∀ b o, H1 b = some o → ¬ (pot = some b ∨ some b ∈ os) → H' b = some o) → ∀ b o, H0 b = some o → ¬ W b → H' b = some o := fun {H'} q b o e n => q b o (b1.same b o e n) fun z => by
      rcases z with z | z
      · exact n (b1.wp b z)
      · rcases b1.wr b z with z | z
        · exact n z
        · rw [e] at z
          cases z
    have thrw : ∀ {os' : List (Option Addr)}, (∀ a, some a ∈ os' → (pot = some a ∨ some a ∈ os) ∨ H1 a = none) → ∀ a, some a ∈ os' → W a ∨ H0 a = none := fun {os'} q a e => by
      rcases q a e with (z | z) | z
      · exact .inl (b1.wp a z)
      · exact b1.wr a z
      · exact b1.fresh z
    refine ⟨fun i m σ3 H3 => m = ds.length - i ∧ i ≤ ds.length ∧ ∃ os3 env3 st3, ERep X.K B pot os3 H3 σ3 env3 st3 ∧ Base0 (fun a => pot = some a ∨ some a ∈ os) pot os3 H1 H3 ∧ forL p s (ds.drop i) env3 st3 = .ok o, ⟨ds.length, rfl, Nat.zero_le _, os, env, st1, E1, ⟨fun _ _ q _ => q, fun _ q => .inl (.inr q), fun _ q => .inl q⟩, hm⟩, ?_⟩
    rintro i m σ3 H3 ⟨rfl, hi, os3, env3, st3, E3, b3, hr⟩
    have kA : ∀ b o, H1 b = some o → ¬ av B os b → H3 b = some o := fun b o h z => b3.same b o h fun y => z (by
      rcases y with y | y
      · exact .inl (E1.pot b y).1
      · exact .inr y)
    obtain ⟨w1, w2, w3⟩ := wk i H3 kA
    by_cases hlt : i < ds.length
    · refine .inr ⟨w1 hlt, fun σ4 H4 => ∃ os4 env4 st4, ERep X.K B pot os4 H4 σ4 env4 st4 ∧ Base0 (fun a => pot = some a ∨ some a ∈ os) pot os4 H1 H4 ∧ forL p s (ds.drop (i + 1)) env4 st4 = .ok o, fun σ4 H4 h4 => ⟨ds.length - (i + 1), by omega, rfl, hlt, h4⟩, fun x H4 y => ?_⟩
      obtain ⟨s4, d, ed, dr⟩ := w3 x H4 y hlt
      have hdrop : ds.drop i = d :: ds.drop (i + 1) := by
        obtain ⟨q1, q2⟩ := List.getElem?_eq_some_iff.mp ed
        rw [← q2]
        exact (List.drop_eq_getElem_cons hlt)
      rw [hdrop] at hr
      obtain ⟨env1, e1, hr⟩ := R.bind_ok hr
      obtain ⟨o1, e2, hr⟩ := R.bind_ok hr
      have E4 := E3.ext s4
      have dx : Dr X.K H4 (av B os3) x d := dr (av B os3) (fun a q => by
        rcases q with q | q
        · exact .inl (.inl q)
        · rcases b3.wr a q with (q | q) | q
          · exact .inl (.inl (E1.pot a q).1)
          · exact .inl (.inr q)
          · exact .inr q) E3.tr
      refine gP_ok p E4 dx e1 fun os' σ' E' sub _ _ => ?_
      have b4 : Base0 (fun a => pot = some a ∨ some a ∈ os) pot os' H1 H4 := ⟨fun b o q n => s4 b o (b3.same b o q n), fun a q => b3.wr a (sub a q), b3.wp⟩
      refine ⟨B, _, pot, H1, os', env1, st3, E', b4, o1, e2, ?_⟩
      cases o1 with
      | nx env2 st2 => exact fun σ5 H5 os5 E5 b5 => ⟨os5, env2, st2, E5, b5, hr⟩
      | rt d2 st2 =>
        cases hr
        exact fun v H5 q1 q2 q3 => h v H5 (thru q1) q2 q3
      | ro d2 st2 =>
        cases hr
        exact fun a vs H5 q1 q2 q3 q4 q5 q6 => h a vs H5 (thru q1) (by
          rcases q2 with (z | z) | z
          · exact .inl (b1.wp a z)
          · exact b1.wr a z
          · exact b1.fresh z) q3 q4 q5 q6
    · have ei : i = ds.length := by omega
      subst ei
      rw [List.drop_length] at hr
      cases hr
      exact .inl ⟨w2 (Nat.le_refl _), h σ3 H3 os3 E3 ⟨thru b3.same, thrw b3.wr, b0.wp⟩⟩
theorem s_while {body : List PySem.Stmt} (fuel : Env → Nat) (hxe : X.xe = fun _ _ => False) (hc : PT X c (tMT X.K mc)) (hb : PSs X body (tMS X.K s)) : PS X (.While c body [] pos) (tMS X.K (sWhile fuel mc s)) :=
  PS_imp (L2.ps_while (by rw [hxe]; exact PySem.PassesOwn.never) hc hb) fun D σ H ⟨B, W, pot, H0, os, env, st, E, b0, o, hm, h⟩ => by
    refine ⟨fun m σ3 H3 => ∃ os3 env3 st3, ERep X.K B pot os3 H3 σ3 env3 st3 ∧ Base0 W pot os3 H0 H3 ∧ whileL mc s m env3 st3 = .ok o, ⟨fuel env, os, env, st, E, b0, hm⟩, ?_⟩
    rintro m σ3 H3 ⟨os3, env3, st3, E3, b3, hr⟩
    cases m with
    | zero => cases hr
    | succ m =>
      obtain ⟨⟨x1, x2⟩, ex, hr⟩ := R.bind_ok hr
      dsimp only at hr
      split at hr
      · obtain ⟨o1, e2, hr⟩ := R.bind_ok hr
        refine ⟨B, pot, os3, env3, st3, E3, _, _, ex, fun H4 k4 E4 => ?_⟩
        refine L2.iteT ?_
        refine ⟨fun σ5 H5 => ∃ os3 env3 st3, ERep X.K B pot os3 H5 σ5 env3 st3 ∧ Base0 W pot os3 H0 H5 ∧ whileL mc s m env3 st3 = .ok o, fun σ5 H5 h5 => ⟨m, Nat.lt_succ_self m, h5⟩, B, W, pot, H0, os3, env3, _, E4, b3.step k4, o1, e2, ?_⟩
        cases o1 with
        | nx env2 st2 => exact fun σ5 H5 os5 E5 b5 => ⟨os5, env2, st2, E5, b5, hr⟩
        | rt d2 st2 =>
          cases hr
          exact h
        | ro d2 st2 =>
          cases hr
          exact h
      · cases hr
        refine ⟨B, pot, os3, env3, st3, E3, _, _, ex, fun H4 k4 E4 => ?_⟩
        refine L2.iteF ?_
        exact h σ3 H4 os3 E4 (b3.step k4)
      · cases hr
end
/-! ### a def -/
section
theorem getE_im : ∀ (ds : List D) (r : Env) (i : Nat), i < ds.length → ∃ d, ds[i]? = some d ∧ getE (ds.map EV.im ++ r) i = .im d
  | [], _, _, h => absurd h (Nat.not_lt_zero _)
  | d :: ds, r, 0, _ => ⟨d, rfl, rfl⟩
  | d :: ds, r, i + 1, h => getE_im ds r i (Nat.lt_of_succ_lt_succ h)
theorem getE_after : ∀ (ds : List D) (r : Env) (i : Nat), ds.length ≤ i → getE (ds.map EV.im ++ r) i = getE r (i - ds.length)
  | [], _, _, _ => rfl
  | d :: ds, r, 0, h => absurd h (Nat.not_succ_le_zero _)
  | d :: ds, r, i + 1, h => by
    show getE (ds.map EV.im ++ r) i = _
    rw [getE_after ds r i (Nat.le_of_succ_le_succ h), List.length_cons, Nat.succ_sub_succ]
theorem getE_no : ∀ (n i : Nat), getE (List.replicate n .no) i = .no
  | 0, _ => rfl
  | n + 1, 0 => rfl
  | n + 1, i + 1 => getE_no n i
theorem startE_at {n : Nat} {ds : List D} {i : Nat} : (∃ d, ds[i]? = some d ∧ getE (startE n ds) i = .im d) ∨ getE (startE n ds) i = .no := by
  unfold startE
  by_cases h : i < ds.length
  · exact .inl (getE_im ds _ i h)
  · right
    rw [getE_after _ _ _ (by omega)]
    exact getE_no _ _
theorem startE_len {n : Nat} {ds : List D} (h : ds.length ≤ n) : (startE n ds).length = n := by
  unfold startE
  rw [List.length_append, List.length_map, List.length_replicate]
  omega
theorem rep_no {n j : Nat} {a : Addr} : (List.replicate n (none : Option Addr))[j]? ≠ some (some a) := fun h => by
  have := List.mem_of_getElem? h
  rw [List.mem_replicate] at this
  cases this.2
theorem rep_no2 {n : Nat} {a : Addr} : ¬ some a ∈ List.replicate n (none : Option Addr) := fun h => by
  rw [List.mem_replicate] at h
  cases h.2
theorem av_rep {B : Addr → Prop} {n : Nat} : ∀ a, av B (List.replicate n none) a → B a := fun a h => by
  rcases h with h | h
  · exact h
  · exact absurd h rep_no2
theorem rep_start {K : PySem.W.Frag} {B : Addr → Prop} {H : Hp} {N : List PySem.Str} {vs : List V} {ds : List D} (bt : ∀ b, B b → ∃ o, H b = some o) (h : DrAll K H B vs ds) (hl : ds.length ≤ N.length) : ERep K B none (List.replicate N.length none) H (L2.start N vs) (startE N.length ds) [] := by
  have hv := h.length
  refine ⟨bt, ?_, ?_, fun i d e => ?_, fun i es e => ?_, fun i es e => ?_, fun i ns e => ?_, fun i a e => absurd e rep_no, fun i j a e _ => absurd e rep_no, fun i e => ?_, fun p e => nomatch e⟩
  · rw [startE_len hl]
    unfold L2.start
    rw [List.length_append, List.length_map, List.length_replicate]
    omega
  · rw [startE_len hl, List.length_replicate]
  · rcases startE_at (n := N.length) (ds := ds) (i := i) with ⟨d2, e1, e2⟩ | e2
    · rw [e2] at e
      cases e
      obtain ⟨x, e3, e4⟩ := (h.get i).2 d e1
      refine ⟨x, ?_, e4.to fun b o q z => ⟨q, fun y => z (av_rep b y)⟩⟩
      unfold L2.start
      obtain ⟨l, _⟩ := List.getElem?_eq_some_iff.mp e3
      rw [List.getElem?_append_left (by rw [List.length_map]; exact l), List.getElem?_map, e3]
      rfl
    · rw [e2] at e
      cases e
  · rcases startE_at (n := N.length) (ds := ds) (i := i) with ⟨d2, e1, e2⟩ | e2 <;> (rw [e2] at e; cases e)
  · rcases startE_at (n := N.length) (ds := ds) (i := i) with ⟨d2, e1, e2⟩ | e2 <;> (rw [e2] at e; cases e)
  · rcases startE_at (n := N.length) (ds := ds) (i := i) with ⟨d2, e1, e2⟩ | e2 <;> (rw [e2] at e; cases e)
  · rcases startE_at (n := N.length) (ds := ds) (i := i) with ⟨d2, e1, e2⟩ | e2 <;> (rw [e2] at e; cases e)
theorem rep_startD {K : PySem.W.Frag} {B : Addr → Prop} {H : Hp} {x : PySem.Str} {N : List PySem.Str} {vs : List V} {ds : List D} {p : Addr} {st : Pt} (bt : ∀ b, B b → ∃ o, H b = some o) (bp : B p) (hp : H p = some (.lst (st.map V.int))) (h : DrAll K H B vs ds) (hl : ds.length ≤ N.length) :
    ERep K B (some p) (List.replicate (N.length + 1) none) H (L2.start (x :: N) (.ref p :: vs)) (.pt :: startE N.length ds) st := by
  have hv := h.length
  have es : L2.start (x :: N) (.ref p :: vs) = some (.ref p) :: L2.start N vs := by
    unfold L2.start
    rw [List.length_cons, List.length_cons, Nat.succ_sub_succ]
    rfl
  have E := rep_start (N := N) bt h hl
  rw [es]
  refine ⟨bt, ?_, ?_, fun i d e => ?_, fun i es e => ?_, fun i es e => ?_, fun i ns e => ?_, fun i a e => absurd e rep_no, fun i j a e _ => absurd e rep_no, fun i e => ?_, fun q e => ?_⟩
  · rw [List.length_cons, List.length_cons, E.l1]
  · rw [List.length_cons, startE_len hl, List.length_replicate]
  · cases i with
    | zero => cases e
    | succ i =>
      obtain ⟨x, e1, e2⟩ := E.slot i d e
      exact ⟨x, e1, e2.to fun b o q z => ⟨q, fun y => z (.inl (av_rep b y))⟩⟩
  · cases i with
    | zero => cases e
    | succ i =>
      obtain ⟨a, _, e1, _⟩ := E.own i es e
      exact absurd e1 rep_no
  · cases i with
    | zero => cases e
    | succ i => exact E.nb i es e
  · cases i with
    | zero => cases e
    | succ i => exact E.fz i ns e
  · cases i with
    | zero => exact ⟨p, rfl, rfl⟩
    | succ i =>
      obtain ⟨_, z, _⟩ := E.pt i e
      cases z
  · cases e
    exact ⟨bp, hp⟩
end
section
variable {P : PySem.Program} {w : PySem.World} {K : PySem.W.Frag} {mg : PySem.Str → Option PySem.Value} {base : PySem.Heap}
/-- a def, by its body -/
theorem fnP {k a : Nat} {x : PySem.Str} {N ps : List PySem.Str} {sd : PySem.Stmt} {f : Addr} {fd : PySem.FuncData} {s : MS} {qn : PySem.Str} (hf : mg x = some (.ref f)) (F : L2.FunD K qn qn (L2.defArgs sd) (L2.defBody sd) (L2.defScope sd) [] [] f fd) (hb : L2.Binds K fd ps []) (S : FnScope N ps (L2.defScope sd)) (ha : ps.length = a) (hn : a ≤ N.length)
    (body : ∀ (cdv : PySem.Value) (A : PySem.Around) (outer : List PySem.Env) (s0 : PySem.Shared) (H : Hp) (E : XK), Room k (A.deeper (PyProof.Rows.envOfC qn (L2.defScope sd) s0.heap.objs.size f cdv)) → A.guards = some [] →
      PSs (L2.cxOf CX0 P w K mg base N qn (L2.defScope sd) f cdv A outer s0 H E).nox (L2.defBody sd) (tMS K s)) : PFn P w K mg base (k + 1) x ps sd (runP a N.length s) := by
  refine ⟨f, fd, qn, hf, F, hb, fnG_of F S (fun vs H Q E h => ?_) fun cdv A outer s0 H vs Q E hr hg h => ⟨_, (body cdv A outer s0 H E hr hg).nox, ?_⟩⟩
  · obtain ⟨B, ds, d, bt, h1, h2, _⟩ := h
    unfold runP at h2
    split at h2
    · rename_i q
      rw [h1.length, q, ha]
    · cases h2
  · obtain ⟨B, ds, d, bt, h1, h2, h3⟩ := h
    unfold runP at h2
    split at h2
    · rename_i q
      obtain ⟨o, e1, e2⟩ := R.bind_ok h2
      refine ⟨B, fun _ => False, none, H, _, _, _, rep_start bt h1 (by omega), ⟨fun _ _ q _ => q, fun a q => absurd q rep_no2, fun _ q => nomatch q⟩, o, e1, ?_⟩
      cases o with
      | nx env st =>
        cases e2
        exact fun σ1 H1 os1 E1 b1 => h3 .non H1 (fun b o q => b1.same b o q id) .non
      | rt d1 st =>
        cases e2
        exact fun v H1 q1 q2 _ => h3 v H1 (fun b o q => q1 b o q id) q2
      | ro d1 st =>
        cases e2
        exact fun a vs H1 q1 q2 q3 q4 q5 _ => h3 (.ref a) H1 (fun b o q => q1 b o q id) (.lst q3 q4 (q5.to fun b o q z => ⟨q, fun y => z (.inl y)⟩))
    · cases h2
/-- a def that draws -/
theorem fnD {k a : Nat} {x y : PySem.Str} {N ps : List PySem.Str} {sd : PySem.Stmt} {f : Addr} {fd : PySem.FuncData} {s : MS} {qn : PySem.Str} (hf : mg x = some (.ref f)) (F : L2.FunD K qn qn (L2.defArgs sd) (L2.defBody sd) (L2.defScope sd) [] [] f fd) (hb : L2.Binds K fd ps []) (S : FnScope (y :: N) ps (L2.defScope sd)) (ha : ps.length = a) (hn : a ≤ N.length + 1)
    (body : ∀ (cdv : PySem.Value) (A : PySem.Around) (outer : List PySem.Env) (s0 : PySem.Shared) (H : Hp) (E : XK), Room k (A.deeper (PyProof.Rows.envOfC qn (L2.defScope sd) s0.heap.objs.size f cdv)) → A.guards = some [] →
      PSs (L2.cxOf CX0 P w K mg base (y :: N) qn (L2.defScope sd) f cdv A outer s0 H E).nox (L2.defBody sd) (tMS K s)) : PDn P w K mg base (k + 1) x ps sd (runD a (N.length + 1) s) := by
  refine ⟨f, fd, qn, hf, F, hb, fnG_of F S (fun vs H Q E h => ?_) fun cdv A outer s0 H vs Q E hr hg h => ⟨_, (body cdv A outer s0 H E hr hg).nox, ?_⟩⟩
  · obtain ⟨B, p, st, us, ds, d, st', rfl, bt, bp, hp, h1, h2, _⟩ := h
    unfold runD at h2
    split at h2
    · rename_i q
      rw [List.length_cons, h1.length, q, ha]
    · cases h2
  · obtain ⟨B, p, st, us, ds, d, st', rfl, bt, bp, hp, h1, h2, h3⟩ := h
    unfold runD at h2
    split at h2
    · rename_i q
      obtain ⟨o, e1, e2⟩ := R.bind_ok h2
      refine ⟨B, fun b => b = p, some p, H, _, _, _, rep_startD bt bp hp h1 (by omega), ⟨fun _ _ q _ => q, fun a q => absurd q rep_no2, fun _ q => (Option.some.inj q).symm⟩, o, e1, ?_⟩
      cases o with
      | nx env st =>
        cases e2
        exact fun σ1 H1 os1 E1 b1 => h3 .non H1 (fun b o q n => b1.same b o q n) (E1.pot p rfl).2 .non
      | rt d1 st =>
        cases e2
        exact fun v H1 q1 q2 q3 => h3 v H1 q1 (q3 p rfl) q2
      | ro d1 st =>
        cases e2
        exact fun a vs H1 q1 q2 q3 q4 q5 q6 => h3 (.ref a) H1 q1 (q6 p rfl) (.lst q3 q4 (q5.to fun b o q z => ⟨q, fun y => z (.inl y)⟩))
    · cases h2
end
end BP

namespace BP
open L2 (V Hp HO St TE TT TA TS TG TI It Ends Cx PE PT PW PA PS PSs PG PI Inv upd upd_same upd_ne OpR UnR CallR Same VK XK Sp Room Vals RelV FnScope PK CX0 E0)
/-! ### the pot, in slot 0 -/
@[simp] def mPot (i : Nat) : ME := fun env st => match getE env 0, st[i]? with
  | .pt, some n => .ok (.im (.int n), st)
  | _, _ => .st
/-- pot[i] = e -/
@[simp] def sPot (i : Nat) (e : ME) : MS := fun env st => (e env st).bind fun x => match getE env 0, x.1 with
  | .pt, .im (.int n) => if i < x.2.length then .ok (.nx env (x.2.set i n)) else .st
  | _, _ => .st
/-- pot[0], name = e -/
@[simp] def sDm (j : Nat) (e : ME) : MS := fun env st => (e env st).bind fun x => match getE env 0, x.1 with
  | .pt, .im (.tuple [.int q, .int r]) => if 0 < x.2.length then (putE env j (.im (.int r))).bind fun env1 => .ok (.nx env1 (x.2.set 0 q)) else .st
  | _, _ => .st
@[simp] def bDm : OB
  | [.int a, .int b] => if 0 < b ∧ b < 1000000 then .ok (.im (.tuple [.int (a / b), .int (a % b)])) else .st
  | _ => .st
/-! ### the script -/
@[simp] def mLenF (i : Nat) : ME := fun env st => match getE env i with
  | .fz ns => .ok (.im (.int ns.length), st)
  | _ => .st
@[simp] def mIxF (i : Nat) (e : ME) : ME := fun env st => (e env st).bind fun x => match getE env i, x.1 with
  | .fz ns, .im (.int k) => (match atD ns k with
    | some n => .ok (.im (.int n), x.2)
    | none => .st)
  | _, _ => .st
section
variable {X : Cx} {a b c : PySem.Expr} {ma mb mc me : ME} {pos : PySem.Pos}
theorem cm_divmod : CallM X (.builtin "divmod") bDm := by
  refine ⟨_, L2.call_divmodW, fun A pot H xs ds z t h e Q q => ?_⟩
  unfold bDm at e
  split at e
  · split at e
    · rename_i hb
      cases e
      obtain ⟨x, y, rfl, w1, w2⟩ := vw2 h
      cases w1.int
      cases w2.int
      exact ⟨_, _, rfl, ⟨hb.1, PyProof.noPylong_small (by omega)⟩, fun p n => q _ _ (Same.new n) (z_tup t n (.cons (.int _) (.cons (.int _) .nil)))⟩
    · cases e
  · cases e
theorem q_pot (i : Nat) {k : Int} {y : PySem.Str} {j : Nat} {py p2 : PySem.Pos} (h0 : PE X (.Name y py) (L2.tVar 0)) (hk : k = (i : Int) := by rfl) : PE X (.Subscript (.Name y py) (.Constant (.int k) j p2) pos) (tM X.K (mPot i)) := by
  subst hk
  refine PE_imp (L2.pe_ix L2.ix_list h0 L2.pe_int fun _ _ => rfl) fun σ H Q ⟨B, pot, os, env, st, E, e, st', hm, hQ⟩ => ?_
  unfold mPot at hm
  split at hm
  · rename_i n hp hn
    cases hm
    obtain ⟨p, hp, e1⟩ := E.pt 0 hp
    obtain ⟨_, e4⟩ := E.pot p hp
    refine ⟨_, e1, p, st.map V.int, i, .int n, rfl, rfl, .inl (.inl e4), ?_, hQ _ H Keep.refl ⟨E, .int n⟩⟩
    obtain ⟨hl, _⟩ := List.getElem?_eq_some_iff.mp hn
    unfold L2.atI L2.ixN
    rw [if_pos (Int.natCast_nonneg i), if_pos (by rw [List.length_map]; omega)]
    show (st.map V.int)[Int.toNat (i : Int)]? = _
    rw [Int.toNat_natCast, List.getElem?_map, hn]
    rfl
  · cases hm
theorem ERep.potSet {K : PySem.W.Frag} {B : Addr → Prop} {p : Addr} {os : List (Option Addr)} {H : Hp} {σ : St} {env : Env} {st : Pt} {i : Nat} {n : Int} (E : ERep K B (some p) os H σ env st) : ERep K B (some p) os (upd H p (.lst ((st.map V.int).set i (.int n)))) σ env (st.set i n) ∧ Keep (some p) H (upd H p (.lst ((st.map V.int).set i (.int n)))) := by
  have k : Keep (some p) H (upd H p (.lst ((st.map V.int).set i (.int n)))) := fun b o h z => by
    rw [upd_ne fun y => z (by rw [y])]
    exact h
  refine ⟨E.keep k fun q hq => ?_, k⟩
  cases hq
  rw [upd_same, List.map_set]
theorem ixN_nat {n i : Nat} (h : i < n) : L2.ixN n (i : Int) = some i := by
  unfold L2.ixN
  rw [if_pos (Int.natCast_nonneg i), if_pos (by omega), Int.toNat_natCast]
theorem s_potset (i : Nat) {k : Int} {y : PySem.Str} {j : Nat} {py p2 p3 : PySem.Pos} (h0 : PE X (.Name y py) (L2.tVar 0)) (ha : PE X a (tM X.K ma))
    (hs : PySem.swapsWithSole [.Subscript (.Name y py) (.Constant (.int k) j p2) p3] a pos.line X.env = pure false := by rfl) (hw : PySem.swappedStores [.Subscript (.Name y py) (.Constant (.int k) j p2) p3] a X.env = pure none := by rfl)
    (h1 : (PySem.assignEach [.Subscript (.Name y py) (.Constant (.int k) j p2) p3] X.env).map (·.2) = [PySem.assign (.Subscript (.Name y py) (.Constant (.int k) j p2) p3) X.env] := by rfl) (hk : k = (i : Int) := by rfl) :
    PS X (.Assign [.Subscript (.Name y py) (.Constant (.int k) j p2) p3] a pos) (tMS X.K (sPot i ma)) := by
  subst hk
  exact PS_imp (L2.ps_asg ha (L2.pg_sub h0 L2.pe_int L2.set_list) hs hw h1) fun D σ H ⟨B, W, pot, H0, os, env, st, E, b0, o, hm, h⟩ => by
    obtain ⟨⟨x1, x2⟩, ex, hm⟩ := R.bind_ok hm
    dsimp only at hm
    split at hm
    · rename_i n hp
      split at hm
      · rename_i hl
        cases hm
        refine ⟨B, pot, os, env, st, E, _, _, ex, fun w H1 k1 p1 => ?_⟩
        obtain ⟨E1, w1⟩ := p1
        cases w1
        obtain ⟨p, rfl, e1⟩ := E1.pt 0 hp
        obtain ⟨_, e4⟩ := E1.pot p rfl
        refine ⟨_, e1, p, x2.map V.int, i, i, rfl, rfl, e4, ixN_nat (by rw [List.length_map]; exact hl), ?_⟩
        obtain ⟨E2, k2⟩ := E1.potSet (i := i) (n := n)
        exact h σ _ os E2 ((b0.step k1).step k2)
      · cases hm
    · cases hm
theorem s_potdm (j : Nat) {y x : PySem.Str} {jj kk : Nat} {py p2 p3 px pt : PySem.Pos} (hc : X.calm = true) (hN : X.N.Nodup) (hi : X.N[j]? = some x) (hx : L2.Loc X.env.scope x) (h0 : PE X (.Name y py) (L2.tVar 0)) (ha : PE X a (tM X.K ma)) (hf : X.fn x = true ∨ X.env.scope.names.lookup x = some .local := by first | exact .inl rfl | exact .inr rfl)
    (hs : PySem.swapsWithSole [.Tuple [.Subscript (.Name y py) (.Constant (.int 0) jj p2) p3, .Name x px] kk pt] a pos.line X.env = pure false := by rfl) (hw : PySem.swappedStores [.Tuple [.Subscript (.Name y py) (.Constant (.int 0) jj p2) p3, .Name x px] kk pt] a X.env = pure none := by rfl)
    (h1 : (PySem.assignEach [.Tuple [.Subscript (.Name y py) (.Constant (.int 0) jj p2) p3, .Name x px] kk pt] X.env).map (·.2) = [PySem.assign (.Tuple [.Subscript (.Name y py) (.Constant (.int 0) jj p2) p3, .Name x px] kk pt) X.env] := by rfl)
    (g1 : (PySem.assignEach [.Subscript (.Name y py) (.Constant (.int 0) jj p2) p3, .Name x px] X.env).map (·.2) = PySem.assign (.Subscript (.Name y py) (.Constant (.int 0) jj p2) p3) X.env :: (PySem.assignEach [.Name x px] X.env).map (·.2) := by rfl)
    (g2 : (PySem.assignEach [.Name x px] X.env).map (·.2) = PySem.assign (.Name x px) X.env :: (PySem.assignEach [] X.env).map (·.2) := by rfl)
    (hn : (PySem.assignEach [.Subscript (.Name y py) (.Constant (.int 0) jj p2) p3, .Name x px] X.env).length = 2 := by rfl) (hst : (PySem.assignEach [.Subscript (.Name y py) (.Constant (.int 0) jj p2) p3, .Name x px] X.env).findIdx? (·.1) = none := by rfl) :
    PS X (.Assign [.Tuple [.Subscript (.Name y py) (.Constant (.int 0) jj p2) p3, .Name x px] kk pt] a pos) (tMS X.K (sDm j ma)) :=
  PS_imp (L2.ps_asg ha (L2.pg_tup hc (L2.pgs_cons (L2.pg_sub h0 L2.pe_int L2.set_list) (L2.pgs_cons (L2.pg_name hN hi hx hf) L2.pgs_nil g2) g1) hn hst) hs hw h1) fun D σ H ⟨B, W, pot, H0, os, env, st, E, b0, o, hm, h⟩ => by
    obtain ⟨⟨x1, x2⟩, ex, hm⟩ := R.bind_ok hm
    dsimp only at hm
    split at hm
    · rename_i q r hp
      split at hm
      · rename_i hl
        obtain ⟨env1, en, hm⟩ := R.bind_ok hm
        cases hm
        obtain ⟨n1, rfl⟩ := putE_at en
        refine ⟨B, pot, os, env, st, E, _, _, ex, fun w H1 k1 p1 => ?_⟩
        obtain ⟨E1, w1⟩ := p1
        obtain ⟨p, rfl, e1⟩ := E1.pt 0 hp
        obtain ⟨_, e4⟩ := E1.pot p rfl
        cases w1 with
        | tup h2 h3 =>
          cases h3 with
          | cons h4 h5 =>
            cases h4
            cases h5 with
            | cons h6 h7 =>
              cases h6
              cases h7
              refine ⟨_, [V.int q, V.int r], rfl, ?_, rfl, V.int q, [V.int r], rfl, V.ref p, e1, p, x2.map V.int, (0 : Nat), 0, rfl, rfl, e4, ixN_nat (by rw [List.length_map]; exact hl), V.int r, [], rfl, rfl, ?_⟩
              · rcases h2 with h2 | h2
                · exact .inl (.inl h2.2)
                · exact .inr h2
              · obtain ⟨E2, k2⟩ := E1.potSet (i := 0) (n := q)
                exact h _ _ _ (E2.setI n1 (.int r)) (((b0.step k1).step k2).sub fun _ => set_none_mem)
      · cases hm
    · cases hm
theorem q_lenF (i : Nat) {y : PySem.Str} {p py : PySem.Pos} (h0 : PE X (.Name y py) (L2.tVar i)) (hg : L2.Gl X "len") (hm : X.mg "len" = none) (hv : PySem.bootBuiltins "len" = some (.builtin "len"))
    (hs : PySem.starEach [.Name y py] X.env = (false, PySem.eval (.Name y py) X.env) :: PySem.starEach [] X.env := by rfl) (hp : (PySem.backTo pos (PySem.starEach [] X.env)).any (·.1) = false := by rfl) :
    PE X (.Call (.Name "len" p) [.Name y py] [] pos) (tM X.K (mLenF i)) :=
  PE_imp (L2.pe_callB L2.call_len_seq hg hm hv (L2.pa_cons h0 L2.pa_nil hs) (by decide) (by decide) hs hp) fun σ H Q ⟨B, pot, os, env, st, E, e, st', hm, hQ⟩ => by
    unfold mLenF at hm
    split at hm
    · rename_i ns hn
      cases hm
      obtain ⟨a, e1, e2⟩ := E.fz i ns hn
      refine ⟨_, e1, a, ns.map V.int, rfl, .inl e2.sq, ?_⟩
      rw [List.length_map]
      exact hQ _ H Keep.refl ⟨E, .int _⟩
    · cases hm
theorem q_ixF (i : Nat) {y : PySem.Str} {py : PySem.Pos} (h0 : PE X (.Name y py) (L2.tVar i)) (ha : PE X a (tM X.K ma)) (hs : L2.PlainIx a := by exact fun _ _ => rfl) : PE X (.Subscript (.Name y py) a pos) (tM X.K (mIxF i ma)) :=
  PE_imp (L2.pe_ix L2.ix_list h0 ha hs) fun σ H Q ⟨B, pot, os, env, st, E, e, st', hm, hQ⟩ => by
    obtain ⟨⟨x1, x2⟩, ex, hm⟩ := R.bind_ok hm
    dsimp only at hm
    split at hm
    · rename_i ns k hn
      split at hm
      · rename_i n hk
        cases hm
        obtain ⟨a, e1, e2⟩ := E.fz i ns hn
        refine ⟨_, e1, B, pot, os, env, st, E, _, _, ex, fun v H1 k1 p1 => ?_⟩
        obtain ⟨E1, w1⟩ := p1
        cases w1
        obtain ⟨a1, e3, e4⟩ := E1.fz i ns hn
        rw [e1] at e3
        cases e3
        refine ⟨a, ns.map V.int, k, .int n, rfl, rfl, e4.sq, ?_, hQ _ H1 k1 ⟨E1, .int n⟩⟩
        unfold atD at hk
        obtain ⟨j, h1, h2⟩ := Option.bind_eq_some_iff.mp hk
        unfold L2.atI
        rw [List.length_map]
        show (ixD ns.length k).bind _ = _
        rw [h1]
        show (ns.map V.int)[j]? = _
        rw [List.getElem?_map, h2]
        rfl
      · cases hm
    · cases hm
end
/-! ### list.count, trees -/
def rCountD (K : PySem.W.Frag) : V → List V → Hp → VK → Prop := fun x xs H Q => ∃ (a : Addr) (y : V) (d : D) (ds : List D), x = V.ref a ∧ xs = [y] ∧ L2.Dp K H (V.ref a) (.list ds) ∧ L2.Dp K H y d ∧
  PySem.SeqAt.shaped (.list ds) = true ∧ PySem.SeqAt.shaped d = true ∧ Q (.int (ds.countP fun z => PySem.PyData.eqv z d : Nat)) H
section
open PySem PySem.Spec PyProof.Rows L2
theorem mt_countD {X : Cx} (hu : X.A.units + 65 < cLine) : MtR X "list.count" (rCountD X.K) := by
  intro pins s σ H x xs v us Q I rx rxs h
  obtain ⟨a, y, d, ds, rfl, rfl, hl, hy, sl, sd, q⟩ := h
  cases rx
  cases rxs with
  | cons ry rt =>
    rename_i uy ut
    cases rt
    obtain ⟨bs, r1⟩ := Dp.reads I d y uy hy ry
    have hxs : PyData.canLayAll0 ds = true := SeqAt.canLay_of_shaped sl
    have hroom : X.A.units + 1 + min (PyData.depthAll ds) d.depth < cLine := room_in_shaped sd hu
    cases hl with
    | lst hs ha =>
      obtain ⟨its, rv, ⟨⟨cls, dd, data, sls⟩, n, ho, hc, hdn, hdt⟩, hlen⟩ := I.list hs
      simp only at hc hdt
      subst hc hdt
      obtain ⟨as, h4⟩ := Dp.readsAll I ds _ its ha rv
      have hmap : its.map (SeqAt.readOf s.heap) = ds := SeqAt.readsAll_map ds its as hxs h4
      refine call_meets PySem.F.slot_list_count ⟨_, ho, rfl⟩ PySem.F.entry_list_count (PySem.F.args_list_count_2 _ _)
        (SeqAt.list_countAt a its.toArray n dd sls uy (fun u => PyData.eqv (SeqAt.readOf s.heap u) d)) ⟨ho, SeqAt.items_eqAt (vs := its.toArray) (show ReadsAll s.heap its.toArray.toList ds as from h4) r1 hxs (SeqAt.canLay_of_shaped sd) hroom, ?_⟩
      have ec : its.toArray.toList.countP (fun u => PyData.eqv (SeqAt.readOf s.heap u) d) = ds.countP fun z => PyData.eqv z d := by
        rw [← hmap, List.countP_map]
        rfl
      refine ⟨.int (ds.countP fun z => PyData.eqv z d : Nat), H, I.tok _, ⟨s.toks, ?_⟩, q⟩
      show Value.int ((its.toArray.toList.countP _ : Nat) : Int) s.toks = Value.int ((ds.countP fun z => PyData.eqv z d : Nat) : Int) s.toks
      rw [ec]
end
@[simp] def oCount : O2
  | .list ds, d => if PySem.SeqAt.shaped (.list ds) && PySem.SeqAt.shaped d then .ok (.im (.int (ds.countP fun z => PySem.PyData.eqv z d : Nat))) else .st
  | _, _ => .st
section
variable {X : Cx} {a b c : PySem.Expr} {ma mb mc me : ME} {pos : PySem.Pos}
theorem q_count {apos : PySem.Pos} (hu : X.A.units + 65 < PySem.cLine) (ha : PE X a (tM X.K ma)) (hb : PE X b (tM X.K mb))
    (hbase : PySem.attributeBase a "count" X.env (PySem.eval a X.env) = PySem.eval a X.env := by rfl)
    (hfew : ((PySem.backTo pos (PySem.starEach [b] X.env)).all (fun x => !x.1) && (PySem.backToKw pos (PySem.keywordEach [] X.env)).all (fun x => x.1.isSome)
      && decide ([b].length + ([] : List PySem.Keyword).length + (if ([] : List PySem.Keyword).isEmpty then 0 else 1) < 30)) = true := by rfl)
    (hline : (apos.endLine == pos.line) = true := by rfl) (hs : PySem.starEach [b] X.env = (false, PySem.eval b X.env) :: PySem.starEach [] X.env := by rfl) (hplain : (PySem.backTo pos (PySem.starEach [] X.env)).any (·.1) = false := by rfl) :
    PE X (.Call (.Attribute a "count" apos) [b] [] pos) (tM X.K (mBin oCount ma mb)) :=
  PE_imp (L2.pe_bm PySem.F.plainAttrs_list PySem.F.slot_list_count PySem.F.type_list_count (mt_countD hu) ha (L2.pa_cons hb L2.pa_nil hs) hbase hfew hline hs hplain) fun σ H Q ⟨B, pot, os, env, st, E, e, st', hm, hQ⟩ => by
    obtain ⟨x, ex, hm⟩ := R.bind_ok hm
    obtain ⟨u, eu, hm⟩ := R.bind_ok hm
    obtain ⟨y, ey, hm⟩ := R.bind_ok hm
    obtain ⟨w, ew, hm⟩ := R.bind_ok hm
    obtain ⟨z, ez, hm⟩ := R.bind_ok hm
    cases hm
    refine ⟨B, pot, os, env, st, E, _, _, ex, fun v1 H1 k1 p1 => ?_⟩
    obtain ⟨E1, w1⟩ := p1.view E eu
    unfold oCount at ez
    split at ez
    · split at ez
      · rename_i hsh
        cases ez
        rw [Bool.and_eq_true] at hsh
        obtain ⟨a1, vs1, rfl, q1, q2⟩ := w1.list
        refine ⟨.inl ⟨rfl, vs1, .inl (.inl q1)⟩, B, pot, os, env, _, E1, _, _, ey, fun v2 H2 k2 p2 => ?_⟩
        obtain ⟨E2, w2⟩ := p2.view E1 ew
        have w3 := w1.keep E1 k2
        exact ⟨a1, v2, _, _, rfl, rfl, w3.dp hsh.1, w2.dp hsh.2, hsh.1, hsh.2, hQ _ H2 (k1.trans k2) ⟨E2, .int _⟩⟩
      · cases ez
    · cases ez
end
end BP

namespace BP
open PySem PySem.Spec
open PyProof.Rows
open L2 (V Hp HO TE TT TA TS TG TI It Ends Cx PE PT PW PA PS PSs PG PI Inv upd upd_same upd_ne OpR UnR CallR Same VK XK Sp Room Vals RelV FnScope PK CX0 E0)
section
variable {X : Cx} {a b c : PySem.Expr} {ma mb mc me : ME} {pos : PySem.Pos}
theorem q_dict0 : PE X (.Dict [] [] pos) (tM X.K (mC (.dict []))) :=
  PE_imp L2.pe_dnewK fun σ H Q ⟨B, pot, os, env, st, E, e, st', hm, hQ⟩ => by
    cases hm
    intro p n
    have s : Same H (upd H p (.dK [])) := Same.new n
    refine hQ _ _ (fun b o h _ => s b o h) ⟨E.ext s, ?_⟩
    exact Dr.dic (kvs := []) (ds := []) (E.off n) upd_same .nil
/-! ### calls with keywords -/
@[simp] def permL {α : Type} (g : List Nat) (xs : List α) : List α := g.filterMap fun i => xs[i]?
theorem DrAll.perm {K : W.Frag} {H : Hp} {A : PySem.Addr → Prop} {vs : List V} {ds : List D} (h : DrAll K H A vs ds) : ∀ g : List Nat, DrAll K H A (permL g vs) (permL g ds)
  | [] => .nil
  | i :: g => by
    have ih := DrAll.perm h g
    unfold permL at ih ⊢
    rw [List.filterMap_cons, List.filterMap_cons]
    cases e : vs[i]? with
    | none =>
      have e2 : ds[i]? = none := by
        rw [List.getElem?_eq_none_iff, ← h.length, ← List.getElem?_eq_none_iff]
        exact e
      rw [e2]
      exact ih
    | some v =>
      obtain ⟨d, e2, e3⟩ := (h.get i).1 v e
      rw [e2]
      exact .cons e3 ih
theorem vals_get : ∀ {vs : List V} {us : List Value} (i : Nat), Vals vs us → (∀ v, vs[i]? = some v → ∃ u, us[i]? = some u ∧ RelV v u) ∧ (vs[i]? = none → us[i]? = none)
  | _, _, _, .nil => ⟨fun v h => by simp at h, fun _ => by simp⟩
  | _, _, 0, .cons r _ => ⟨fun v h => by
      cases h
      exact ⟨_, rfl, r⟩, fun h => by simp at h⟩
  | _, _, i + 1, .cons _ t => vals_get i t
theorem vals_perm {vs : List V} {us : List Value} (h : Vals vs us) : ∀ g : List Nat, Vals (permL g vs) (permL g us)
  | [] => .nil
  | i :: g => by
    have ih := vals_perm h g
    unfold permL at ih ⊢
    rw [List.filterMap_cons, List.filterMap_cons]
    cases e : vs[i]? with
    | none =>
      rw [(vals_get i h).2 e]
      exact ih
    | some v =>
      obtain ⟨u, e2, e3⟩ := (vals_get i h).1 v e
      rw [e2]
      exact .cons e3 ih
@[simp] def mCallK (f : PF) (as ks : MA) (g : List Nat) : ME := fun env st => (as env st).bind fun x => (ks env x.2).bind fun y => (f (permL g (x.1 ++ y.1))).bind fun z => .ok (.im z, y.2)
section
variable {CX : Cxe} {k : Nat} {f : PySem.Addr} {fd : FuncData} {ps : List Str} {sp : Sp} {E : XK} {x : Str} {p : Pos} {t tk : TA}
/-- keywords alone -/
theorem callGK0 {ks : List Str} {g : {α : Type} → List α → List α → List α} {kws : List Keyword} (F : FnG X.prog X.w X.K X.mg X.base CX k f fd ps sp) (hr : Room k X.A) (hgd : X.A.guards = some []) (hg : L2.Gl X x) (hm : X.mg x = some (.ref f)) (hk : W.keepIn X.K (.ref f) = true)
    (hb : ∀ (s : Shared) (us ws : List Value), us.length = 0 → ws.length = ks.length → BindsTo s fd ⟨us, ks.zip ws⟩ (ps.zip (g us ws))) (hrel : ∀ {vs zs : List V} {us ws : List Value}, Vals vs us → Vals zs ws → Vals (g vs zs) (g us ws)) (hx : Lets CX X E)
    (hkw : PK X kws tk) (hall : (backToKw pos (keywordEach kws X.env)).all (·.1.isSome) = true) (hks : (backToKw pos (keywordEach kws X.env)).filterMap (·.1) = ks)
    (hd : (x == ("__debug__" : Str)) = false) (hp : ((backTo pos (starEach [] X.env)).any (·.1) || (backToKw pos (keywordEach kws X.env)).any (·.1.isNone)) = false) :
    PE X (.Call (.Name x p) [] kws pos) fun σ H Q => tk σ H fun zs H2 => zs.length = ks.length ∧ sp (g [] zs) H2 Q E := by
  refine ⟨fun pins s σ H Q I h => wpAny_Call_Name_kw (L2.ld_glob I hg hm ?_ hd)⟩
  refine W.callWith_KW0 (h₀ := X.base) I.ok.mod.kin hk hall ?_ hp
  refine L2.thn (hkw.run pos pins s σ H _ I h) fun ws s2 ⟨zs, H2, I2, rz, l2, q2⟩ => ⟨I2.kIn, ?_⟩
  rw [hks]
  refine wpAny_call (codeAny_mono (runG F hr hgd hx I2 (hb s2 [] ws rfl (rz.length.symm.trans l2)) (hrel .nil rz) q2) fun r s' hq => ?_)
  cases r with
  | error e => exact hq
  | ok fl =>
    cases fl with
    | ret u => exact hq
    | next => exact hq.elim
    | brk => exact hq.elim
    | cont => exact hq.elim
end
theorem funD_kb {K : W.Frag} {x : Str} {params : Arguments} {body : List Stmt} {scope : Scope} {f : PySem.Addr} {fd : FuncData} {ps ks : List Str} {n : Nat} {g : List Nat} (F : L2.FunD K x x params body scope [] [] f fd)
    (h : ∀ (kV doc pm : Value) (an : Option PySem.Addr) (cdv ct : Value) (us ws : List Value), us.length = n → ws.length = ks.length → bindArgs (W.fnOf x x params body scope .none kV doc pm an cdv ct) ⟨us, ks.zip ws⟩ = pure (ps.zip (permL g (us ++ ws)))) (s : Shared) (us ws : List Value) (l1 : us.length = n) (l2 : ws.length = ks.length) :
    BindsTo s fd ⟨us, ks.zip ws⟩ (ps.zip (permL g (us ++ ws))) := by
  obtain ⟨oc, od, dV, kV, doc, pm, an, cdv, ct, osl, rfl, lk, hcd, hD, hK⟩ := F.ex
  rcases hD with ⟨_, rfl⟩ | ⟨e, _⟩
  · exact .of_eq (h kV doc pm an cdv ct us ws l1 l2)
  · exact absurd rfl e
theorem q_callK {k j : Nat} {x : PySem.Str} {ps : List PySem.Str} {sd : PySem.Stmt} {m : PF} {ms mk : MA} {es : List PySem.Expr} {kws : List Keyword} {p : PySem.Pos} (n : Nat) (ks : List Str) (g : List Nat) (F : PFn X.prog X.w X.K X.mg X.base k x ps sd m) (hr : Room j X.A) (hgd : X.A.guards = some []) (hg : L2.Gl X x) (ha : PA X (a :: es) (tAA X.K ms)) (hkw : PK X kws (tAA X.K mk))
    (hb : ∀ (qn : Str) (kV doc pm : Value) (an : Option PySem.Addr) (cdv ct : Value) (us ws : List Value), us.length = n → ws.length = ks.length → bindArgs (W.fnOf qn qn (L2.defArgs sd) (L2.defBody sd) (L2.defScope sd) .none kV doc pm an cdv ct) ⟨us, ks.zip ws⟩ = pure (ps.zip (permL g (us ++ ws))))
    (hn : ∀ env st r, ms env st = .ok r → r.1.length = n) (hn2 : ∀ env st r, mk env st = .ok r → r.1.length = ks.length)
    (hk : k ≤ j := by decide) (hall : (backToKw pos (keywordEach kws X.env)).all (·.1.isSome) = true := by rfl) (hks : (backToKw pos (keywordEach kws X.env)).filterMap (·.1) = ks := by rfl) (hd : (x == ("__debug__" : PySem.Str)) = false := by decide) (he : PySem.starEach (a :: es) X.env = (false, PySem.eval a X.env) :: PySem.starEach es X.env := by rfl)
    (hp : ((backTo pos (starEach (a :: es) X.env)).any (·.1) || (backToKw pos (keywordEach kws X.env)).any (·.1.isNone)) = false := by rfl) :
    PE X (.Call (.Name x p) (a :: es) kws pos) (tM X.K (mCallK m ms mk g)) := by
  obtain ⟨f, fd, qn, e1, e2, e3, G⟩ := F.ex
  refine PE_imp (callGK (n := n) (ks := ks) (g := fun us ws => permL g (us ++ ws)) G (hr.mono hk) hgd hg e1 e2.kp (funD_kb e2 (hb qn)) (fun r1 r2 => vals_perm (r1.append r2) g) lets0 ha hkw hall hks hd he hp) fun σ H Q ⟨B, pot, os, env, st, E, e, st', hm, hQ⟩ => ?_
  obtain ⟨y, ey, hm⟩ := R.bind_ok hm
  obtain ⟨y2, ey2, hm⟩ := R.bind_ok hm
  obtain ⟨z, ez, hm⟩ := R.bind_ok hm
  cases hm
  refine ⟨B, pot, os, env, st, E, _, _, ey, fun vs H1 k1 E1 w1 => ⟨B, pot, os, env, _, E1, _, _, ey2, fun zs H2 k2 E2 w2 => ⟨?_, ?_, av B os, _, z, E2.tr, ((w1.keep E1 k2).append w2).perm g, ez, fun v H' s q => ?_⟩⟩⟩
  · rw [w1.length]
    exact hn _ _ _ ey
  · rw [w2.length]
    exact hn2 _ _ _ ey2
  · obtain ⟨k3, q3⟩ := EPost.of E2 (k1.trans k2) s (e := .im z) q
    exact hQ v H' k3 q3
theorem q_callK0 {k j : Nat} {x : PySem.Str} {ps : List PySem.Str} {sd : PySem.Stmt} {m : PF} {mk : MA} {kws : List Keyword} {p : PySem.Pos} (ks : List Str) (g : List Nat) (F : PFn X.prog X.w X.K X.mg X.base k x ps sd m) (hr : Room j X.A) (hgd : X.A.guards = some []) (hg : L2.Gl X x) (hkw : PK X kws (tAA X.K mk))
    (hb : ∀ (qn : Str) (kV doc pm : Value) (an : Option PySem.Addr) (cdv ct : Value) (us ws : List Value), us.length = 0 → ws.length = ks.length → bindArgs (W.fnOf qn qn (L2.defArgs sd) (L2.defBody sd) (L2.defScope sd) .none kV doc pm an cdv ct) ⟨us, ks.zip ws⟩ = pure (ps.zip (permL g (us ++ ws))))
    (hn2 : ∀ env st r, mk env st = .ok r → r.1.length = ks.length)
    (hk : k ≤ j := by decide) (hall : (backToKw pos (keywordEach kws X.env)).all (·.1.isSome) = true := by rfl) (hks : (backToKw pos (keywordEach kws X.env)).filterMap (·.1) = ks := by rfl) (hd : (x == ("__debug__" : PySem.Str)) = false := by decide)
    (hp : ((backTo pos (starEach [] X.env)).any (·.1) || (backToKw pos (keywordEach kws X.env)).any (·.1.isNone)) = false := by rfl) :
    PE X (.Call (.Name x p) [] kws pos) (tM X.K (mCallK m aNil mk g)) := by
  obtain ⟨f, fd, qn, e1, e2, e3, G⟩ := F.ex
  refine PE_imp (callGK0 (ks := ks) (g := fun us ws => permL g (us ++ ws)) G (hr.mono hk) hgd hg e1 e2.kp (funD_kb e2 (hb qn)) (fun r1 r2 => vals_perm (r1.append r2) g) lets0 hkw hall hks hd hp) fun σ H Q ⟨B, pot, os, env, st, E, e, st', hm, hQ⟩ => ?_
  obtain ⟨y, ey, hm⟩ := R.bind_ok hm
  obtain ⟨y2, ey2, hm⟩ := R.bind_ok hm
  obtain ⟨z, ez, hm⟩ := R.bind_ok hm
  cases hm
  cases ey
  refine ⟨B, pot, os, env, _, E, _, _, ey2, fun zs H2 k2 E2 w2 => ⟨?_, av B os, _, z, E2.tr, w2.perm g, ez, fun v H' s q => ?_⟩⟩
  · rw [w2.length]
    exact hn2 _ _ _ ey2
  · obtain ⟨k3, q3⟩ := EPost.of E2 k2 s (e := .im z) q
    exact hQ v H' k3 q3
theorem aNil_len (env : Env) (st : Pt) (r : List D × Pt) (h : aNil env st = .ok r) : r.1.length = 0 := by
  cases h
  rfl
theorem aCons_len {m : ME} {ms : MA} {n : Nat} (hs : ∀ env st r, ms env st = .ok r → r.1.length = n) (env : Env) (st : Pt) (r : List D × Pt) (h : aCons m ms env st = .ok r) : r.1.length = n + 1 := by
  obtain ⟨x, ex, h⟩ := R.bind_ok h
  obtain ⟨u, eu, h⟩ := R.bind_ok h
  obtain ⟨y, ey, h⟩ := R.bind_ok h
  cases h
  exact congrArg (· + 1) (hs _ _ _ ey)
end
/-! ### a def that makes the pot of the script -/
def tMOw (K : W.Frag) (s : MS) (m : ME) : TS := fun En σ H => ∃ H0 os env st, ERep K (fun _ => False) none os H σ env st ∧ Base0 (fun _ => False) none os H0 H ∧ ∃ env1 st1 es st2, s env st = .ok (.nx env1 st1) ∧ m env1 st1 = .ok (.ow es, st2) ∧
  ∀ p vs H', Same H0 H' → H0 p = none → H' p = some (.lst vs) → DrAll K H' (fun _ => False) vs es → En.rt (.ref p) H'
section
variable {X : Cx} {a b c : PySem.Expr} {ma mb mc me : ME} {pos : PySem.Pos} {s s' : MS} {stm : Stmt} {rest : List Stmt}
theorem so_ret (ha : PE X a (tM X.K ma)) : PSs X [.Return (some a) pos] (tMOw X.K sNil ma) :=
  PSs_imp (L2.pss_one (L2.ps_ret ha)) fun D σ H ⟨H0, os, env, st, E, b0, env1, st1, es, st2, hs, hm, h⟩ => by
    cases hs
    refine ⟨_, none, os, _, _, E, _, _, hm, fun v H1 k1 p1 => ?_⟩
    obtain ⟨p, vs, rfl, n, E1, e1, e2⟩ := p1
    refine h p vs H1 (fun b o q => (b0.step k1).same b o q id) ?_ e1 (e2.to fun b o q z => ⟨q, id⟩)
    rcases b0.fresh n with z | z
    · exact z.elim
    · exact z
theorem so_cons (h1 : PS X stm (tMS X.K s)) (h2 : PSs X rest (tMOw X.K s' ma)) : PSs X (stm :: rest) (tMOw X.K (sSeq s s') ma) :=
  PSs_imp (L2.pss_cons h1 h2) fun D σ H ⟨H0, os, env, st, E, b0, env1, st1, es, st2, hs, hm, h⟩ => by
    obtain ⟨x, ex, hs⟩ := R.bind_ok hs
    refine ⟨_, _, none, H0, os, env, st, E, b0, x, ex, ?_⟩
    cases x with
    | nx env3 st3 => exact fun σ1 H1 os1 E1 b1 => ⟨H0, os1, env3, st3, E1, b1, env1, st1, es, st2, hs, hm, h⟩
    | rt d st3 => cases hs
    | ro d st3 => cases hs
end
@[simp] def runO (a n : Nat) (s : MS) (m : ME) : List Int → List D → R (List Int) := fun ns ds => if ds.length + 1 = a then (s (.fz ns :: startE (n - 1) ds) []).bind fun o => match o with
  | .nx env st => (m env st).bind fun x => match x.1 with
    | .ow es => (match intsOf es with
      | some out => .ok out
      | none => .st)
    | _ => .st
  | _ => .st
  else .st
@[simp] def runF (n : Nat) (s : MS) : List Int → R D := fun ns => (s (.fz ns :: startE (n - 1) []) []).bind fun o => match o with
  | .nx _ _ => .ok .none
  | .rt d _ => .ok d
  | .ro d _ => .ok (.list d)
def spO (K : W.Frag) (m : List Int → List D → R (List Int)) : Sp := fun vs H Q _ => ∃ a ns us ds out, vs = .ref a :: us ∧ FzL K H a (ns.map V.int) ∧ DrAll K H (fun _ => False) us ds ∧ m ns ds = .ok out ∧ ∀ p H', Same H H' → H p = none → H' p = some (.lst (out.map V.int)) → Q (.ref p) H'
def spF (K : W.Frag) (m : List Int → R D) : Sp := fun vs H Q _ => ∃ a ns d, vs = [.ref a] ∧ FzL K H a (ns.map V.int) ∧ m ns = .ok d ∧ ∀ v H', Dr K H' (fun _ => False) v d → Q v H'
theorem rep_startF {K : W.Frag} {H : Hp} {x : Str} {N : List Str} {vs : List V} {ds : List D} {p : PySem.Addr} {ns : List Int} (hp : FzL K H p (ns.map V.int)) (h : DrAll K H (fun _ => False) vs ds) (hl : ds.length ≤ N.length) :
    ERep K (fun _ => False) none (List.replicate (N.length + 1) none) H (L2.start (x :: N) (.ref p :: vs)) (.fz ns :: startE N.length ds) [] := by
  have hv := h.length
  have es : L2.start (x :: N) (.ref p :: vs) = some (.ref p) :: L2.start N vs := by
    unfold L2.start
    rw [List.length_cons, List.length_cons, Nat.succ_sub_succ]
    rfl
  have E := rep_start (N := N) (fun _ z => z.elim) h hl
  rw [es]
  refine ⟨fun _ z => z.elim, ?_, ?_, fun i d e => ?_, fun i es e => ?_, fun i es e => ?_, fun i ns e => ?_, fun i a e => absurd e rep_no, fun i j a e _ => absurd e rep_no, fun i e => ?_, fun q e => nomatch e⟩
  · rw [List.length_cons, List.length_cons, E.l1]
  · rw [List.length_cons, startE_len hl, List.length_replicate]
  · cases i with
    | zero => cases e
    | succ i =>
      obtain ⟨x, e1, e2⟩ := E.slot i d e
      exact ⟨x, e1, e2.to fun b o q z => ⟨q, fun y => z (.inl (av_rep b y))⟩⟩
  · cases i with
    | zero => cases e
    | succ i =>
      obtain ⟨a, _, e1, _⟩ := E.own i es e
      exact absurd e1 rep_no
  · cases i with
    | zero => cases e
    | succ i => exact E.nb i es e
  · cases i with
    | zero =>
      cases e
      exact ⟨p, rfl, hp⟩
    | succ i => exact E.fz i ns e
  · cases i with
    | zero => cases e
    | succ i => exact E.pt i e
section
variable {P : PySem.Program} {w : PySem.World} {K : PySem.W.Frag} {mg : PySem.Str → Option PySem.Value} {base : PySem.Heap}
structure POn (P : PySem.Program) (w : PySem.World) (K : PySem.W.Frag) (mg : PySem.Str → Option PySem.Value) (base : PySem.Heap) (k : Nat) (x : PySem.Str) (ps : List PySem.Str) (st : PySem.Stmt) (m : List Int → List D → R (List Int)) : Prop where
  ex : ∃ f fd, mg x = some (.ref f) ∧ L2.FunD K x x (L2.defArgs st) (L2.defBody st) (L2.defScope st) [] [] f fd ∧ L2.Binds K fd ps [] ∧ FnG P w K mg base CX0 k f fd ps (spO K m)
theorem fnO {k a : Nat} {x y : PySem.Str} {N ps : List PySem.Str} {sd : PySem.Stmt} {f : PySem.Addr} {fd : PySem.FuncData} {s : MS} {m : ME} (hf : mg x = some (.ref f)) (F : L2.FunD K x x (L2.defArgs sd) (L2.defBody sd) (L2.defScope sd) [] [] f fd) (hb : L2.Binds K fd ps []) (S : FnScope (y :: N) ps (L2.defScope sd)) (ha : ps.length = a) (hn : a ≤ N.length + 1)
    (body : ∀ (cdv : PySem.Value) (A : PySem.Around) (outer : List PySem.Env) (s0 : PySem.Shared) (H : Hp) (E : XK), Room k (A.deeper (PyProof.Rows.envOfC x (L2.defScope sd) s0.heap.objs.size f cdv)) → A.guards = some [] →
      PSs (L2.cxOf CX0 P w K mg base (y :: N) x (L2.defScope sd) f cdv A outer s0 H E).nox (L2.defBody sd) (tMOw K s m)) : POn P w K mg base (k + 1) x ps sd (runO a (N.length + 1) s m) := by
  refine ⟨f, fd, hf, F, hb, fnG_of F S (fun vs H Q E h => ?_) fun cdv A outer s0 H vs Q E hr hg h => ⟨_, (body cdv A outer s0 H E hr hg).nox, ?_⟩⟩
  · obtain ⟨p, ns, us, ds, out, rfl, hp, h1, h2, _⟩ := h
    unfold runO at h2
    split at h2
    · rename_i q
      rw [List.length_cons, h1.length, q, ha]
    · cases h2
  · obtain ⟨p, ns, us, ds, out, rfl, hp, h1, h2, h3⟩ := h
    unfold runO at h2
    split at h2
    · rename_i q
      obtain ⟨o, e1, e2⟩ := R.bind_ok h2
      cases o with
      | rt d st => cases e2
      | ro d st => cases e2
      | nx env st =>
        obtain ⟨⟨x1, x2⟩, e3, e4⟩ := R.bind_ok e2
        dsimp only at e4
        split at e4
        · rename_i es
          split at e4
          · rename_i out2 ho
            cases e4
            refine ⟨H, _, _, _, rep_startF hp h1 (by omega), ⟨fun _ _ q _ => q, fun a q => absurd q rep_no2, fun _ q => nomatch q⟩, env, st, es, x2, e1, e3, fun p vs H' q1 q2 q3 q4 => h3 p H' q1 q2 ?_⟩
            rw [q3, ints_of (vs := vs) ho q4]
          · cases e4
        · cases e4
    · cases h2
/-- the law's def -/
theorem fnF {k : Nat} {x y : PySem.Str} {N : List PySem.Str} {sd : PySem.Stmt} {f : PySem.Addr} {fd : PySem.FuncData} {s : MS} (F : L2.FunD K x x (L2.defArgs sd) (L2.defBody sd) (L2.defScope sd) [] [] f fd) (S : FnScope (y :: N) [y] (L2.defScope sd))
    (body : ∀ (cdv : PySem.Value) (A : PySem.Around) (outer : List PySem.Env) (s0 : PySem.Shared) (H : Hp) (E : XK), Room k (A.deeper (PyProof.Rows.envOfC x (L2.defScope sd) s0.heap.objs.size f cdv)) → A.guards = some [] →
      PSs (L2.cxOf CX0 P w K mg base (y :: N) x (L2.defScope sd) f cdv A outer s0 H E).nox (L2.defBody sd) (tMS K s)) : FnG P w K mg base CX0 (k + 1) f fd [y] (spF K (runF (N.length + 1) s)) := by
  refine fnG_of F S (fun vs H Q E h => ?_) fun cdv A outer s0 H vs Q E hr hg h => ⟨_, (body cdv A outer s0 H E hr hg).nox, ?_⟩
  · obtain ⟨p, ns, d, rfl, _⟩ := h
    rfl
  · obtain ⟨p, ns, d, rfl, hp, h2, h3⟩ := h
    unfold runF at h2
    obtain ⟨o, e1, e2⟩ := R.bind_ok h2
    refine ⟨fun _ => False, fun _ => False, none, H, _, _, _, rep_startF hp .nil (Nat.zero_le _), ⟨fun _ _ q _ => q, fun a q => absurd q rep_no2, fun _ q => nomatch q⟩, o, e1, ?_⟩
    cases o with
    | nx env st =>
      cases e2
      exact fun σ1 H1 os1 E1 b1 => h3 .non H1 .non
    | rt d1 st =>
      cases e2
      exact fun v H1 q1 q2 _ => h3 v H1 q2
    | ro d1 st =>
      cases e2
      exact fun a vs H1 q1 q2 q3 q4 q5 _ => h3 (.ref a) H1 (.lst q3 q4 (q5.to fun b o q z => ⟨q, fun y => z (.inl y)⟩))
end
/-! ### law_right(law_pot(script, k)) -/
@[simp] def mRP (fP : List Int → List D → R (List Int)) (i : Nat) (as : MA) (fR : PD) : ME := fun env st => match getE env i with
  | .fz ns => (as env st).bind fun x => (fP ns x.1).bind fun pot => (fR [] pot).bind fun z => .ok (.im z.1, x.2)
  | _ => .st
section
variable {X : Cx} {pos : PySem.Pos}
theorem q_right (i : Nat) {k k2 j : Nat} {x y z : Str} {ps ps2 : List Str} {sd sd2 : Stmt} {fP : List Int → List D → R (List Int)} {fR : PD} {ms : MA} {es : List PySem.Expr} {p1 p2 p3 pos2 : Pos} (F : PDn X.prog X.w X.K X.mg X.base k x ps sd fR) (G : POn X.prog X.w X.K X.mg X.base k2 y ps2 sd2 fP) (hr : Room j X.A) (hgd : X.A.guards = some [])
    (hg : L2.Gl X x) (hg2 : L2.Gl X y) (h0 : PE X (.Name z p3) (L2.tVar i)) (ha : PA X es (tAA X.K ms)) (hk : k ≤ j := by decide) (hk2 : k2 ≤ j := by decide) (hd : (x == ("__debug__" : PySem.Str)) = false := by decide) (hd2 : (y == ("__debug__" : PySem.Str)) = false := by decide)
    (he : starEach [.Call (.Name y p2) (.Name z p3 :: es) [] pos2] X.env = (false, eval (.Call (.Name y p2) (.Name z p3 :: es) [] pos2) X.env) :: starEach [] X.env := by rfl) (hp : (backTo pos (starEach [] X.env)).any (·.1) = false := by rfl)
    (he2 : starEach (.Name z p3 :: es) X.env = (false, eval (.Name z p3) X.env) :: starEach es X.env := by rfl) (hp2 : (backTo pos2 (starEach es X.env)).any (·.1) = false := by rfl) :
    PE X (.Call (.Name x p1) [.Call (.Name y p2) (.Name z p3 :: es) [] pos2] [] pos) (tM X.K (mRP fP i ms fR)) := by
  obtain ⟨f, fd, qn, e1, e2, e3, F⟩ := F.ex
  obtain ⟨f2, fd2, e4, e5, e6, G⟩ := G.ex
  refine PE_imp (callG F (hr.mono hk) hgd hg e1 e2.kp e3 lets0 (L2.pa_cons (callG G (hr.mono hk2) hgd hg2 e4 e5.kp e6 lets0 (L2.pa_cons h0 ha he2) hd2 he2 hp2) L2.pa_nil he) hd he hp) fun σ H Q ⟨B, pot, os, env, st, E, e, st', hm, hQ⟩ => ?_
  unfold mRP at hm
  split at hm
  · rename_i ns hn
    obtain ⟨y1, ey, hm⟩ := R.bind_ok hm
    obtain ⟨out, eo, hm⟩ := R.bind_ok hm
    obtain ⟨⟨d, st1⟩, er, hm⟩ := R.bind_ok hm
    cases hm
    obtain ⟨a, a1, _⟩ := E.fz i ns hn
    refine ⟨_, a1, B, pot, os, env, st, E, _, _, ey, fun vs H1 k1 E1 w1 => ?_⟩
    obtain ⟨a', a2, a3⟩ := E1.fz i ns hn
    rw [a1] at a2
    cases a2
    refine ⟨a, ns, vs, _, out, rfl, a3, w1.to fun b o q z => ⟨q, id⟩, eo, fun p H2 s n hp => ?_⟩
    have tr : ∀ b, plus (av B os) p b → ∃ o, H2 b = some o := fun b z => by
      rcases z with z | z
      · obtain ⟨o, e⟩ := E1.tr b z
        exact ⟨o, s b o e⟩
      · rw [z]
        exact ⟨_, hp⟩
    refine ⟨plus (av B os) p, p, out, [], [], d, st1, rfl, tr, .inr rfl, hp, .nil, er, fun v H3 q1 q2 q3 => ?_⟩
    have s13 : Same H1 H3 := fun b o q => q1 b o (s b o q) fun z => by
      rw [z, n] at q
      cases q
    refine hQ v H3 (fun b o q z => s13 b o (k1 b o q z)) ⟨E1.ext s13, q3.to fun b o q z => ⟨q, fun y => z (.inl y)⟩⟩
  · cases hm
end
end BP

namespace BP
/-! ### draws -/
def PotOk (st : Pt) : Prop := ∃ a b : Int, st = [a, b] ∧ 0 ≤ b ∧ b < 2 ^ 40
def DrawOk (f : PD) : Prop := ∀ (m : Int) (st : Pt), 0 < m → m < 1000000 → PotOk st → ∃ d st', f [.int m] st = .ok (.int d, st') ∧ 0 ≤ d ∧ d < m ∧ PotOk st'
def C_draw (A C M M2 E : Int) : MS := (sSeq (sIf (mBin oGt (mPot 0) (mC (.int 0))) (sSeq (sDm 2 (mB bDm (vCons (mPot 0) (vCons (mVar 1) vNil))))
  (sRet (mVar 2))) sNil)
  (sSeq (sPot 1 (mBin oMod (mB bInt (vCons (mBin oAdd (mBin oMul (mPot 1) (mC (.int A))) (mC (.int C))) vNil)) (mC (.int M))))
  (sRet (mBin oMod (mB bInt (vCons (mBin oDiv (mBin oMod (mB bInt (vCons (mBin oMul (mPot 1) (mPot 1)) vNil)) (mC (.int M2))) (mC (.int E))) vNil)) (mVar 1)))))
theorem natAbs_lt {a : Int} {n : Nat} (h0 : 0 ≤ a) (h : a < (n : Nat)) : a.natAbs < n := by omega
theorem C_draw_ok {A C M M2 E : Int} (hA : 0 ≤ A ∧ A < 2 ^ 40) (hM : 0 < M ∧ M < 2 ^ 40) (hM2 : 0 < M2) (hE : 0 < E ∧ E < 2 ^ 40) : DrawOk (runD 2 3 (C_draw A C M M2 E)) := by
  intro m st hm hm2 ⟨a, b, e, hb, hb2⟩
  subst e
  have hm0 : ¬ m = 0 := by omega
  have hM0 : ¬ M = 0 := by omega
  have hM20 : ¬ M2 = 0 := by omega
  have hE0 : ¬ E = 0 := by omega
  by_cases ha : 0 < a
  · refine ⟨a % m, [a / m, b], ?_, Int.emod_nonneg _ hm0, Int.emod_lt_of_pos _ hm, a / m, b, rfl, hb, hb2⟩
    simp [C_draw, ha, hm, hm2]
  · have k1 : mulOk b A = true := mulOk_of 40 40 (natAbs_lt hb (by omega)) (natAbs_lt hA.1 (by omega)) (by omega)
    have e1 : ∀ x : Int, x.fmod M = x % M := fun x => Int.fmod_eq_emod_of_nonneg _ (by omega)
    have e2 : ∀ x : Int, x.fmod M2 = x % M2 := fun x => Int.fmod_eq_emod_of_nonneg _ (by omega)
    have e3 : ∀ x : Int, x.fdiv E = x / E := fun x => Int.fdiv_eq_ediv_of_nonneg _ (by omega)
    have e4 : ∀ x : Int, x.fmod m = x % m := fun x => Int.fmod_eq_emod_of_nonneg _ (by omega)
    have n1 := Int.emod_nonneg (b * A + C) hM0
    have n2 := Int.emod_lt_of_pos (b * A + C) hM.1
    generalize hB : (b * A + C) % M = B at n1 n2
    have k2 : mulOk B B = true := mulOk_of 40 40 (natAbs_lt n1 (by omega)) (natAbs_lt n1 (by omega)) (by omega)
    have k3 : ∀ x : Int, PySem.Builtin.divisionGoesByPylong x E = false := fun x => divOk_of (Nat.lt_of_lt_of_le (natAbs_lt (n := 2 ^ 40) (Int.le_of_lt hE.1) (by omega)) (Nat.pow_le_pow_right (by decide) (by omega)))
    refine ⟨(B * B % M2 / E) % m, [a, B], ?_, Int.emod_nonneg _ hm0, Int.emod_lt_of_pos _ hm, a, B, rfl, n1, by omega⟩
    simp [C_draw, ha, k1, e1, hM0, hB, k2, hM20, e2, hE0, k3, e3, hm0, e4]
end BP

namespace BP
open PySem PySem.Spec
open PyProof.Rows
open L2 (V Hp HO TE TT TA TS TG TI It Ends Cx PE PT PW PA PS PSs PG PI Inv upd upd_same upd_ne OpR UnR CallR Same VK XK Sp Room Vals RelV FnScope PK CX0 E0)
theorem u64 {k : Nat} {A : Around} (r : Room k A) : A.units + 64 < cLine := by have := r.un; omega
theorem u65 {k : Nat} {A : Around} (r : Room k A) : A.units + 65 < cLine := by have := r.un; omega
/-! ### the head's Hook: defs, globals, constants, sys.modules -/
mutual
def kd (K : W.Frag) : Value → D → Bool
  | .none, .none => true
  | .bool a, .bool b => a == b
  | .int i _, .int j => decide (i = j)
  | .str x _, .str y => decide (x = y)
  | .ref a, .tuple ds => (match K.lookup a with
    | some ⟨.type c, _, .seq its _, _⟩ => decide (c = "tuple") && (decide (its.size ≤ sizeLine) && kdAll K its.toList ds)
    | _ => false)
  | _, _ => false
def kdAll (K : W.Frag) : List Value → List D → Bool
  | [], [] => true
  | u :: us, d :: ds => kd K u d && kdAll K us ds
  | _, _ => false
end
mutual
theorem kd_ok {K : W.Frag} : ∀ (d : D) (u : Value), kd K u d = true → ∃ v, RelV v u ∧ ∀ H A, Dr K H A v d
  | .none, u, h => by
    cases u <;> simp [kd] at h
    exact ⟨.non, rfl, fun _ _ => .non⟩
  | .bool b, u, h => by
    cases u <;> simp [kd] at h
    subst h
    exact ⟨.bl _, rfl, fun _ _ => .bl _⟩
  | .int i, u, h => by
    cases u <;> simp [kd] at h
    subst h
    exact ⟨.int _, ⟨_, rfl⟩, fun _ _ => .int _⟩
  | .str i, u, h => by
    cases u <;> simp [kd] at h
    subst h
    exact ⟨.str _, ⟨_, rfl⟩, fun _ _ => .str _⟩
  | .tuple ds, u, h => by
    cases u with
    | ref a =>
      simp only [kd] at h
      split at h
      · rename_i c od its n sl hl
        simp only [Bool.and_eq_true, decide_eq_true_eq] at h
        obtain ⟨h1, h2, h3⟩ := h
        obtain ⟨vs, rv, hd⟩ := kdAll_ok ds its.toList h3
        exact ⟨.ref a, rfl, fun H A => .tup (.inr ⟨_, its, n, hl, by rw [h1], rfl, h2, rv⟩) (hd H A)⟩
      · cases h
    | _ => simp [kd] at h
  | .list ds, u, h => by cases u <;> simp [kd] at h
  | .dict ds, u, h => by cases u <;> simp [kd] at h
theorem kdAll_ok {K : W.Frag} : ∀ (ds : List D) (us : List Value), kdAll K us ds = true → ∃ vs, Vals vs us ∧ ∀ H A, DrAll K H A vs ds
  | [], us, h => by
    cases us with
    | nil => exact ⟨[], .nil, fun _ _ => .nil⟩
    | cons _ _ => simp [kdAll] at h
  | d :: ds, us, h => by
    cases us with
    | nil => simp [kdAll] at h
    | cons u us =>
      simp only [kdAll, Bool.and_eq_true] at h
      obtain ⟨v, r1, h1⟩ := kd_ok d u h.1
      obtain ⟨vs, r2, h2⟩ := kdAll_ok ds us h.2
      exact ⟨v :: vs, .cons r1 r2, fun H A => .cons (h1 H A) (h2 H A)⟩
end
def kst (K : W.Frag) (p : Str × D) : Bool := match W.nsIn K mainGlobals p.1 with
  | some (some u) => kd K u p.2
  | _ => false
theorem kst_ok {K : W.Frag} {h : Heap} {mg : Str → Option Value} (X : K.In h) (G : h.Ns mainGlobals mg) {x : Str} {d : D} (c : kst K (x, d) = true) : Kst K mg x d := by
  unfold kst at c
  split at c
  · rename_i u e
    obtain ⟨v, r, hd⟩ := kd_ok _ _ c
    exact ⟨u, v, W.mg_of X G e, r, hd⟩
  · cases c
def sysB (g : PySem.Addr → Option Obj) : Bool := match g sysModules with
  | some ⟨_, _, .dict _ _, _⟩ => true
  | _ => false
theorem sysB_ok {g : PySem.Addr → Option Obj} (h : sysB g = true) : ∃ o es ep, g sysModules = some o ∧ o.data = .dict es ep := by
  unfold sysB at h
  split at h
  · rename_i e
    exact ⟨_, _, _, e, rfl⟩
  · cases h
abbrev AlM : Type := He.AlD × Bool
def obsM (n : Nat) (fa : List He.Fa) (fn : List He.DefD) (tu : List (Str × D)) (g : PySem.Addr → Option Obj) : AlM := (He.obsDG n fa fn g, sysB g && tu.all fun p => kst (He.frG g (He.asD g n)) p)
def SaysM (fa : List He.Fa) (fn : List He.DefD) (tu : List (Str × D)) (K : W.Frag) : Prop := He.SaysD fa fn K ∧ ∀ p ∈ tu, kst K p = true
def hookM (n : Nat) (fa : List He.Fa) (fn : List He.DefD) (tu : List (Str × D)) : PySem.W.Hook where
  α := AlM
  obs := fun s => obsM n fa fn tu s.heap.get?
  val := fun _ => (He.valD fn, true)
  says := fun _ h => (∃ o es ep, h.get? sysModules = some o ∧ o.data = .dict es ep) ∧ ∃ K : PySem.W.Frag, K.In h ∧ SaysM fa fn tu K
  of := fun _ _ e => by
    have e1 := congrArg (fun z : AlM => z.1) e
    have e2 := congrArg (fun z : AlM => z.2) e
    have e2 := Bool.and_eq_true_iff.mp (show (sysB _ && _) = true from e2)
    exact ⟨sysB_ok e2.1, _, He.frG_in, e1, fun p hp => List.all_eq_true.mp e2.2 p hp⟩
  keeps := fun _ _ _ ⟨⟨o, es, ep, h1, h2⟩, K, hK, c⟩ k => ⟨⟨o, es, ep, k _ _ h1, h2⟩, K, PySem.W.Frag.In.keeps hK k, c⟩
theorem obsM_eq {n : Nat} {fa : List He.Fa} {fn : List He.DefD} {tu : List (Str × D)} {g : PySem.Addr → Option Obj} {s : Shared} (h : ∀ a, g a = s.heap.get? a) : obsM n fa fn tu g = (hookM n fa fn tu).obs s := by
  have e : g = s.heap.get? := funext h
  rw [e] <;> rfl
/-- what a law's defs take from the head -/
structure Facts (fa : List He.Fa) (fn : List He.DefD) (tu : List (Str × D)) (K : W.Frag) (mg : Str → Option Value) (base : Heap) : Prop where
  kin : K.In base
  ns : base.Ns mainGlobals mg
  sys : SysB base
  says : SaysM fa fn tu K
section
variable {fa : List He.Fa} {fn : List He.DefD} {tu : List (Str × D)} {K : W.Frag} {mg : Str → Option Value} {base : Heap}
theorem Facts.glo (c : Facts fa fn tu K mg base) (i : Nat) {x : Str} (h : fa[i]? = some (.glo x) := by rfl) : mg x = some (.ref (He.ga K x)) := He.glo_ok c.kin c.ns (c.says.1.fact i h)
theorem Facts.free (c : Facts fa fn tu K mg base) (i : Nat) {x : Str} (h : fa[i]? = some (.free x) := by rfl) : mg x = none := He.free_ok c.kin c.ns (c.says.1.fact i h)
theorem Facts.kst (c : Facts fa fn tu K mg base) (i : Nat) {x : Str} {d : D} (h : tu[i]? = some (x, d) := by rfl) : Kst K mg x d := kst_ok c.kin c.ns (c.says.2 _ (List.mem_of_getElem? h))
end
theorem Hv.sq {K : W.Frag} {H : Hp} {a : PySem.Addr} {xs : List V} (hO : ∀ b u, H b = some u → ∃ o xs, u = .frz o (.lst xs)) (h : L2.SqL K H a xs) : FzL K H a xs := by
  rcases h with (h | ⟨o, h⟩) | h
  · obtain ⟨o, ys, z⟩ := hO _ _ h
    cases z
  · exact .inl ⟨o, h⟩
  · exact .inr h
end BP

namespace BP
open PySem PySem.Spec
open PyProof.Rows
open L2 (V Hp HO TE TT TA TS TG TI It Ends Cx PE PT PW PA PS PSs PG PI Inv upd upd_same upd_ne OpR UnR CallR Same VK XK Sp Room Vals RelV FnScope PK CX0 E0)
/-! ### a pot of one's own: name = law_pot(script, ..), and what follows -/
def noPt (j : Nat) (env : BP.Env) : Bool := (List.range env.length).all fun i => i == j || !isPt (getE env i)
@[simp] def sPotIn (j : Nat) (fP : List Int → List D → R (List Int)) (as : MA) (s : MS) : MS := fun env st => (as env st).bind fun x => match getE env 0 with
  | .fz ns => (fP ns x.1).bind fun out => if isLk (getE env j) = false ∧ (j < env.length ∧ noPt j env = true) then (s (setE env j .pt) out).bind fun o => match o with
      | .nx env2 _ => if noPt j env2 then .ok (.nx (setE env2 j .no) x.2) else .st
      | .rt d _ => .ok (.rt d x.2)
      | .ro d _ => .ok (.ro d x.2)
    else .st
  | _ => .st
section
variable {X : Cx} {pos : PySem.Pos} {s : MS} {rest : List Stmt}
theorem noPt_at {j : Nat} {env : BP.Env} (h : noPt j env = true) {i : Nat} (hi : i ≠ j) : getE env i ≠ .pt := fun e => by
  by_cases l : i < env.length
  · have := List.all_eq_true.mp h i (List.mem_range.mpr l)
    rw [e] at this
    simp [hi] at this
  · rw [getE_out _ _ (by omega)] at e
    cases e
theorem s_potIn (j : Nat) {k jj : Nat} {x y z : Str} {ps : List Str} {sd : Stmt} {fP : List Int → List D → R (List Int)} {ms : MA} {es : List PySem.Expr} {p1 p2 p3 pos2 : Pos} (hN : X.N.Nodup) (hi : X.N[j]? = some x) (hx : L2.Loc X.env.scope x) (G : POn X.prog X.w X.K X.mg X.base k y ps sd fP) (hr : Room jj X.A) (hgd : X.A.guards = some [])
    (hg : L2.Gl X y) (h0 : PE X (.Name z p3) (L2.tVar 0)) (ha : PA X es (tAA X.K ms)) (h2 : PSs X rest (tMS X.K s)) (hk : k ≤ jj := by decide) (hd : (y == ("__debug__" : PySem.Str)) = false := by decide)
    (he : starEach (.Name z p3 :: es) X.env = (false, eval (.Name z p3) X.env) :: starEach es X.env := by rfl) (hp : (backTo pos2 (starEach es X.env)).any (·.1) = false := by rfl)
    (hs : PySem.swapsWith (.Call (.Name y p2) (.Name z p3 :: es) [] pos2) (some (.Name x p1)) pos.line X.env = pure false := by rfl) (hf : X.fn x = true ∨ X.env.scope.names.lookup x = some .local := by first | exact .inl rfl | exact .inr rfl) :
    PSs X (.Assign [.Name x p1] (.Call (.Name y p2) (.Name z p3 :: es) [] pos2) pos :: rest) (tMS X.K (sPotIn j fP ms s)) := by
  obtain ⟨f, fd, e1, e2, e3, F⟩ := G.ex
  refine PSs_imp (L2.pss_cons (L2.ps_set hN hi hx (callG F (hr.mono hk) hgd hg e1 e2.kp e3 lets0 (L2.pa_cons h0 ha he) hd he hp) hs hf) h2) fun En σ H ⟨B, W, pot, H0, os, env, st, E, b0, o, hm, h⟩ => ?_
  obtain ⟨y1, ey, hm⟩ := R.bind_ok hm
  split at hm
  · rename_i ns hn
    obtain ⟨out, eo, hm⟩ := R.bind_ok hm
    split at hm
    · rename_i hj
      obtain ⟨hlk, hjl, hnp⟩ := hj
      obtain ⟨o1, e4, hm⟩ := R.bind_ok hm
      obtain ⟨a, a1, _⟩ := E.fz 0 ns hn
      refine ⟨_, a1, B, pot, os, env, st, E, _, _, ey, fun vs H1 k1 E1 w1 => ?_⟩
      obtain ⟨a', a2, a3⟩ := E1.fz 0 ns hn
      rw [a1] at a2
      cases a2
      refine ⟨a, ns, vs, _, out, rfl, a3, w1.to fun b o q z => ⟨q, id⟩, eo, fun p H2 s12 n hp2 => ?_⟩
      have b1 := b0.step k1
      have hpt : isPt (getE env j) = false := by
        cases q : isPt (getE env j) with
        | false => rfl
        | true =>
          rw [isLk_of_pt q] at hlk
          cases hlk
      have ojn : ∀ a, os[j]? ≠ some (some a) := fun a q => by
        obtain ⟨_, ds, e⟩ := E1.ad j a q
        rw [e] at hlk
        cases hlk
      have l1 := E1.l1
      have l2 := E1.l2
      have Em := E1.more s12 n hp2
      -- the frame with the pot
      have E2 : ERep X.K (plus B p) (some p) os H2 (σ.set j (some (.ref p))) (setE env j .pt) out := by
        refine ⟨Em.bt, by rw [List.length_set, setE_len]; exact l1, by rw [setE_len]; exact l2, fun i d e => ?_, fun i ds e => ?_, fun i ds e => ?_, fun i ns e => ?_, fun i a e => ?_, Em.inj, fun i e => ?_, fun q e => ?_⟩
        · by_cases z : i = j
          · rw [z, getE_same _ _ _ hjl] at e
            cases e
          · rw [getE_ne _ _ _ _ z] at e
            obtain ⟨x, q1, q2⟩ := Em.slot i d e
            exact ⟨x, by rw [List.getElem?_set_ne (fun y => z y.symm)]; exact q1, q2⟩
        · by_cases z : i = j
          · rw [z, getE_same _ _ _ hjl] at e
            cases e
          · rw [getE_ne _ _ _ _ z] at e
            obtain ⟨a, us, q1, q2, q3, q4⟩ := Em.own i ds e
            exact ⟨a, us, q1, by rw [List.getElem?_set_ne (fun y => z y.symm)]; exact q2, q3, q4⟩
        · by_cases z : i = j
          · rw [z, getE_same _ _ _ hjl] at e
            cases e
          · rw [getE_ne _ _ _ _ z] at e
            exact Em.nb i ds e
        · by_cases z : i = j
          · rw [z, getE_same _ _ _ hjl] at e
            cases e
          · rw [getE_ne _ _ _ _ z] at e
            obtain ⟨a, q1, q2⟩ := Em.fz i ns e
            exact ⟨a, by rw [List.getElem?_set_ne (fun y => z y.symm)]; exact q1, q2⟩
        · obtain ⟨q1, ds, q2⟩ := Em.ad i a e
          by_cases z : i = j
          · rw [z] at e
            exact absurd e (ojn a)
          · exact ⟨q1, ds, by rw [getE_ne _ _ _ _ z]; exact q2⟩
        · by_cases z : i = j
          · exact ⟨p, rfl, by rw [z, List.getElem?_set_self (by omega)]⟩
          · rw [getE_ne _ _ _ _ z] at e
            exact absurd e (noPt_at hnp z)
        · cases e
          exact ⟨.inr rfl, hp2⟩
      have notW : ∀ b o, H1 b = some o → b ≠ p := fun b o q z => by
        rw [z, n] at q
        cases q
      have thru : ∀ {H5 : Hp}, (∀ b o, H2 b = some o → ¬ (b = p ∨ some b ∈ os) → H5 b = some o) → ∀ b o, H0 b = some o → ¬ W b → H5 b = some o := fun {H5} q b o e nw => by
        have e1 := b1.same b o e nw
        refine q b o (s12 b o e1) fun z => ?_
        rcases z with z | z
        · exact notW b o e1 z
        · rcases b1.wr b z with z | z
          · exact nw z
          · rw [e] at z
            cases z
      have potAt : ∀ {H5 : Hp}, (∀ b o, H2 b = some o → ¬ (b = p ∨ some b ∈ os) → H5 b = some o) → ∀ q, pot = some q → H5 q = some (.lst (y1.2.map V.int)) := fun {H5} w q e => by
        have e1 := (E1.pot q e).2
        refine w q _ (s12 q _ e1) fun z => ?_
        rcases z with z | z
        · exact notW q _ e1 z
        · exact E1.own_pot z e
      show tMS X.K s En (σ.set j (some (.ref p))) H2
      refine ⟨plus B p, fun a => a = p ∨ some a ∈ os, some p, H2, os, _, out, E2, ⟨fun _ _ q _ => q, fun a q => .inl (.inr q), fun q z => .inl (Option.some.inj z).symm⟩, o1, e4, ?_⟩
      cases o1 with
      | rt d st2 =>
        cases hm
        exact fun v H5 q1 q2 _ => h v H5 (thru q1) (q2.to fun b o q z => ⟨q, fun y => z (.inl y)⟩) (potAt q1)
      | ro d st2 =>
        cases hm
        refine fun a vs H5 q1 q2 q3 q4 q5 _ => h a vs H5 (thru q1) ?_ (fun y => q3 (.inl y)) q4 (q5.to fun b o q z => ⟨q, fun y => z (by
          rcases y with y | y
          · exact .inl (.inl y)
          · exact .inr y)⟩) (potAt q1)
        rcases q2 with (z | z) | z
        · exact absurd (.inr z) q3
        · exact b1.wr a z
        · refine b1.fresh ?_
          cases q9 : H1 a with
          | none => rfl
          | some o =>
            rw [s12 a o q9] at z
            cases z
      | nx env2 st2 =>
        dsimp only at hm
        split at hm
        · rename_i hnp2
          cases hm
          intro σ5 H5 os5 E5 b5
          have sub : ∀ a, av B (os5.set j none) a → av (plus B p) os5 a := fun a q => by
            rcases q with q | q
            · exact .inl (.inl q)
            · exact .inr (set_none_mem q)
          have kk : ∀ b o, H5 b = some o → ¬ av (plus B p) os5 b → H5 b = some o ∧ ¬ av B (os5.set j none) b := fun b o q z => ⟨q, fun y => z (sub b y)⟩
          have getn : ∀ {i : Nat} {e : EV}, getE (setE env2 j .no) i = e → e ≠ .no → i ≠ j ∧ getE env2 i = e := fun {i e} q ne => by
            by_cases z : i = j
            · exfalso
              rw [z] at q
              by_cases l : j < env2.length
              · rw [getE_same _ _ _ l] at q
                exact ne q.symm
              · rw [getE_out _ _ (by rw [setE_len]; omega)] at q
                exact ne q.symm
            · rw [getE_ne _ _ _ _ z] at q
              exact ⟨z, q⟩
          refine h σ5 H5 (os5.set j none) ⟨fun b hb => E5.bt b (.inl hb), by rw [setE_len]; exact E5.l1, by rw [List.length_set, setE_len]; exact E5.l2, fun i d e => ?_, fun i ds e => ?_, fun i ds e => ?_, fun i ns e => ?_, fun i a e => ?_, fun i k a e e' => E5.inj i k a (set_none_at e).1 (set_none_at e').1, fun i e => ?_, fun q e => ?_⟩ ⟨thru b5.same, fun a q => ?_, b1.wp⟩
          · obtain ⟨z, e⟩ := getn e (fun y => nomatch y)
            obtain ⟨x, q1, q2⟩ := E5.slot i d e
            exact ⟨x, q1, q2.to kk⟩
          · obtain ⟨z, e⟩ := getn e (fun y => nomatch y)
            obtain ⟨a, us, q1, q2, q3, q4⟩ := E5.own i ds e
            exact ⟨a, us, by rw [List.getElem?_set_ne (fun y => z y.symm)]; exact q1, q2, q3, q4.to kk⟩
          · obtain ⟨z, e⟩ := getn e (fun y => nomatch y)
            exact E5.nb i ds e
          · obtain ⟨z, e⟩ := getn e (fun y => nomatch y)
            exact E5.fz i ns e
          · obtain ⟨q1, q2⟩ := set_none_at e
            obtain ⟨q3, ds, q4⟩ := E5.ad i a q1
            exact ⟨fun y => q3 (.inl y), ds, by rw [getE_ne _ _ _ _ q2]; exact q4⟩
          · obtain ⟨z, e⟩ := getn e (fun y => nomatch y)
            exact absurd e (noPt_at hnp2 z)
          · exact ⟨(E1.pot q e).1, potAt b5.same q e⟩
          · rcases b5.wr a (set_none_mem q) with (z | z) | z
            · rw [z]
              exact b1.fresh n
            · exact b1.wr a z
            · refine b1.fresh ?_
              cases q9 : H1 a with
              | none => rfl
              | some o =>
                rw [s12 a o q9] at z
                cases z
        · cases hm
    · cases hm
  · cases hm
end
end BP

namespace BP
open PySem PySem.Spec
open PyProof.Rows
open L2 (V Hp HO TE TT TA TS TG TI It Ends Cx PE PT PW PA PS PSs PG PI Inv upd upd_same upd_ne OpR UnR CallR Same VK XK Sp Room Vals RelV FnScope PK CX0 E0)
/-! ### lists given out as new -/
section
variable {X : Cx} {a b c : PySem.Expr} {ma mb mc me : ME} {pos : PySem.Pos}
theorem s_retF (ha : PE X a (tM X.K ma)) : PS X (.Return (some a) pos) (tMS X.K (sRetF ma)) :=
  PS_imp (L2.ps_ret ha) fun D σ H ⟨B, W, pot, H0, os, env, st, E, b0, o, hm, h⟩ => by
    obtain ⟨⟨x1, x2⟩, ex, hm⟩ := R.bind_ok hm
    dsimp only at hm
    split at hm
    · cases hm
      refine ⟨B, pot, os, env, st, E, _, _, ex, fun v H1 k1 p1 => ?_⟩
      obtain ⟨p, vs, rfl, n, E1, e1, e2⟩ := p1
      have b1 := b0.step k1
      exact h p vs H1 b1.same (b0.fresh n) (fun z => E.off n (.inl z)) e1 (e2.to fun b o q z => ⟨q, fun y => z (.inl y)⟩) fun q z => (E1.pot q z).2
    · cases hm
theorem s_retOwn (i : Nat) (h0 : PE X a (L2.tVar i)) : PS X (.Return (some a) pos) (tMS X.K (sRetOwn i)) :=
  PS_imp (L2.ps_ret h0) fun D σ H ⟨B, W, pot, H0, os, env, st, E, b0, o, hm, h⟩ => by
    unfold sRetOwn at hm
    split at hm
    · rename_i ds hd
      cases hm
      obtain ⟨a, vs, e1, e2, e3, e4⟩ := E.own _ _ hd
      refine ⟨_, e2, h a vs H b0.same (b0.wr a (List.mem_of_getElem? e1)) (E.ad i a e1).1 e3 (e4.to fun b o q z => ⟨q, fun y => z ?_⟩) fun q z => (E.pot q z).2⟩
      rcases y with y | y
      · exact .inl y
      · rw [y]
        exact .inr (List.mem_of_getElem? e1)
    · cases hm
end
def spPo (K : W.Frag) (m : PFo) : Sp := fun vs H Q _ => ∃ B ds es, (∀ b, B b → ∃ o, H b = some o) ∧ DrAll K H B vs ds ∧ m ds = .ok es ∧ ∀ p us H', Same H H' → H p = none → H' p = some (.lst us) → DrAll K H' (plus B p) us es → Q (.ref p) H'
structure PFnO (P : PySem.Program) (w : PySem.World) (K : PySem.W.Frag) (mg : PySem.Str → Option PySem.Value) (base : PySem.Heap) (k : Nat) (x : PySem.Str) (ps : List PySem.Str) (st : PySem.Stmt) (m : PFo) : Prop where
  ex : ∃ f fd q, mg x = some (.ref f) ∧ L2.FunD K q q (L2.defArgs st) (L2.defBody st) (L2.defScope st) [] [] f fd ∧ L2.Binds K fd ps [] ∧ FnG P w K mg base CX0 k f fd ps (spPo K m)
section
variable {P : PySem.Program} {w : PySem.World} {K : PySem.W.Frag} {mg : PySem.Str → Option PySem.Value} {base : PySem.Heap}
theorem fnPo {k a : Nat} {x : PySem.Str} {N ps : List PySem.Str} {sd : PySem.Stmt} {f : PySem.Addr} {fd : PySem.FuncData} {s : MS} {qn : PySem.Str} (hf : mg x = some (.ref f)) (F : L2.FunD K qn qn (L2.defArgs sd) (L2.defBody sd) (L2.defScope sd) [] [] f fd) (hb : L2.Binds K fd ps []) (S : FnScope N ps (L2.defScope sd)) (ha : ps.length = a) (hn : a ≤ N.length)
    (body : ∀ (cdv : PySem.Value) (A : PySem.Around) (outer : List PySem.Env) (s0 : PySem.Shared) (H : Hp) (E : XK), Room k (A.deeper (PyProof.Rows.envOfC qn (L2.defScope sd) s0.heap.objs.size f cdv)) → A.guards = some [] →
      PSs (L2.cxOf CX0 P w K mg base N qn (L2.defScope sd) f cdv A outer s0 H E).nox (L2.defBody sd) (tMS K s)) : PFnO P w K mg base (k + 1) x ps sd (runPo a N.length s) := by
  refine ⟨f, fd, qn, hf, F, hb, fnG_of F S (fun vs H Q E h => ?_) fun cdv A outer s0 H vs Q E hr hg h => ⟨_, (body cdv A outer s0 H E hr hg).nox, ?_⟩⟩
  · obtain ⟨B, ds, es, bt, h1, h2, _⟩ := h
    unfold runPo at h2
    split at h2
    · rename_i q
      rw [h1.length, q, ha]
    · cases h2
  · obtain ⟨B, ds, es, bt, h1, h2, h3⟩ := h
    unfold runPo at h2
    split at h2
    · rename_i q
      obtain ⟨o, e1, e2⟩ := R.bind_ok h2
      refine ⟨B, fun _ => False, none, H, _, _, _, rep_start bt h1 (by omega), ⟨fun _ _ q _ => q, fun a q => absurd q rep_no2, fun _ q => nomatch q⟩, o, e1, ?_⟩
      cases o with
      | nx env st => cases e2
      | rt d1 st => cases e2
      | ro d1 st =>
        cases e2
        exact fun a vs H1 q1 q2 q3 q4 q5 _ => h3 a vs H1 (fun b o q => q1 b o q id) (q2.resolve_left id) q4 q5
    · cases h2
end
section
variable {X : Cx} {a b c : PySem.Expr} {pos : PySem.Pos}
theorem q_callO {k j : Nat} {x : PySem.Str} {ps : List PySem.Str} {sd : PySem.Stmt} {m : PFo} {ms : MA} {es : List PySem.Expr} {p : PySem.Pos} (F : PFnO X.prog X.w X.K X.mg X.base k x ps sd m) (hr : Room j X.A) (hgd : X.A.guards = some []) (hg : L2.Gl X x) (ha : PA X (a :: es) (tAA X.K ms))
    (hk : k ≤ j := by decide) (hd : (x == ("__debug__" : PySem.Str)) = false := by decide) (he : PySem.starEach (a :: es) X.env = (false, PySem.eval a X.env) :: PySem.starEach es X.env := by rfl) (hp : (PySem.backTo pos (PySem.starEach es X.env)).any (·.1) = false := by rfl) :
    PE X (.Call (.Name x p) (a :: es) [] pos) (tM X.K (mCallO m ms)) := by
  obtain ⟨f, fd, qn, e1, e2, e3, G⟩ := F.ex
  refine PE_imp (callG G (hr.mono hk) hgd hg e1 e2.kp e3 lets0 ha hd he hp) fun σ H Q ⟨B, pot, os, env, st, E, e, st', hm, hQ⟩ => ?_
  obtain ⟨y, ey, hm⟩ := R.bind_ok hm
  obtain ⟨z, ez, hm⟩ := R.bind_ok hm
  cases hm
  refine ⟨B, pot, os, env, st, E, _, _, ey, fun vs H1 k1 E1 w1 => ⟨av B os, _, z, E1.tr, w1, ez, fun q us H' s n e1 e2 => ?_⟩⟩
  obtain ⟨k3, q3⟩ := EPost.of E1 k1 s (e := .ow z) ⟨q, us, rfl, n, e1, e2⟩
  exact hQ _ H' k3 q3
end
theorem FnG.imp {P : Program} {w : World} {K : W.Frag} {mg : Str → Option Value} {base : Heap} {CX : Cxe} {k : Nat} {f : PySem.Addr} {fd : FuncData} {ps : List Str} {sp sp' : Sp} (F : FnG P w K mg base CX k f fd ps sp) (h : ∀ vs H Q E, sp' vs H Q E → sp vs H Q E) : FnG P w K mg base CX k f fd ps sp' :=
  ⟨fun vs H Q E q => F.many vs H Q E (h _ _ _ _ q), fun A outer s H args us vs Q E a b c d e q => F.go A outer s H args us vs Q E a b c d e (h _ _ _ _ q)⟩
/-- seen as any value -/
theorem PFnO.pf {P : PySem.Program} {w : PySem.World} {K : PySem.W.Frag} {mg : PySem.Str → Option PySem.Value} {base : PySem.Heap} {k : Nat} {x : PySem.Str} {ps : List PySem.Str} {sd : PySem.Stmt} {m : PFo} (F : PFnO P w K mg base k x ps sd m) : PFn P w K mg base k x ps sd (fun ds => (m ds).bind fun es => .ok (.list es)) := by
  obtain ⟨f, fd, q, e1, e2, e3, G⟩ := F.ex
  refine ⟨f, fd, q, e1, e2, e3, G.imp fun vs H Q E ⟨B, ds, d, bt, h1, h2, h3⟩ => ?_⟩
  obtain ⟨es, e4, e5⟩ := R.bind_ok h2
  cases e5
  refine ⟨B, ds, es, bt, h1, e4, fun p us H' s n q1 q2 => h3 _ H' s (.lst (fun z => ?_) q1 (q2.to fun b o q z => ⟨q, fun y => z (.inl y)⟩))⟩
  obtain ⟨o, e⟩ := bt p z
  rw [n] at e
  cases e
end BP

namespace BP
/-! ### pots of a script -/
def C_potm (a b : Int) : MS := (sSeq (sSet 2 (mIf (mBin oLt (mVar 1) (mLenF 0)) (mB bAbs (vCons (mIxF 0 (mVar 1)) vNil)) (mBin oAdd (mBin oMul (mC (.int a)) (mVar 1)) (mC (.int b))))) sNil)
def C_potr (M1 A c1 c2 M2 : Int) : ME := (mLst (aCons (mB bMax (vCons (mC (.int 0)) (vCons (mBin oSub (mVar 2) (mBin oPow (mC (.int 10)) (mC (.int 18)))) vNil))) (aCons (mBin oAdd (mBin oMod (mB bInt (vCons (mBin oAdd (mBin oAdd (mBin oMul (mBin oMod (mB bInt (vCons (mVar 2) vNil)) (mC (.int M1))) (mC (.int A))) (mBin oMul (mC (.int c1)) (mVar 1))) (mC (.int c2))) vNil)) (mC (.int M2))) (mC (.int 1))) aNil)))
def PotsOk (F : List Int → List D → R (List Int)) : Prop := ∀ (ns : List Int) (k : Nat), k < 64 → ∃ out, F ns [.int (k : Int)] = .ok out ∧ PotOk out
theorem C_pot_ok {a b M1 A c1 c2 M2 : Int} (ha : 0 ≤ a ∧ a < 2 ^ 20) (hM1 : 0 < M1 ∧ M1 < 2 ^ 39) (hA : 0 ≤ A ∧ A < 2 ^ 30) (hc1 : 0 ≤ c1 ∧ c1 < 2 ^ 20) (hM2 : 0 < M2 ∧ M2 < 2 ^ 39) : PotsOk (runO 2 3 (C_potm a b) (C_potr M1 A c1 c2 M2)) := fun ns k hk => by
  have m1 : mulOk a (k : Int) = true := mulOk_of 20 20 (natAbs_lt ha.1 (by omega)) (by omega) (by decide)
  have m3 : mulOk c1 (k : Int) = true := mulOk_of 20 20 (natAbs_lt hc1.1 (by omega)) (by omega) (by decide)
  have z1 : ¬ M1 = 0 := by omega
  have z2 : ¬ M2 = 0 := by omega
  have q1 : ∀ x : Int, x.fmod M1 = x % M1 := fun x => Int.fmod_eq_emod_of_nonneg _ (by omega)
  have q2 : ∀ x : Int, x.fmod M2 = x % M2 := fun x => Int.fmod_eq_emod_of_nonneg _ (by omega)
  have m2 : ∀ c : Int, mulOk (c % M1) A = true := fun c => by
    have h1 := Int.emod_nonneg c z1
    have h2 := Int.emod_lt_of_pos c hM1.1
    exact mulOk_of 40 30 (natAbs_lt h1 (by omega)) (natAbs_lt hA.1 (by omega)) (by decide)
  have fin : ∀ c : Int, ∃ es out, C_potr M1 A c1 c2 M2 [.fz ns, .im (.int k), .im (.int c)] [] = .ok (.ow es, []) ∧ intsOf es = some out ∧ PotOk out := fun c => by
    have h1 := Int.emod_nonneg (c % M1 * A + c1 * (k : Int) + c2) z2
    have h2 := Int.emod_lt_of_pos (c % M1 * A + c1 * (k : Int) + c2) hM2.1
    refine ⟨[.int (if 0 < c - 10 ^ 18 then c - 10 ^ 18 else 0), .int ((c % M1 * A + c1 * (k : Int) + c2) % M2 + 1)], [if 0 < c - 10 ^ 18 then c - 10 ^ 18 else 0, (c % M1 * A + c1 * (k : Int) + c2) % M2 + 1], ?_, by simp, _, _, rfl, by omega, by omega⟩
    simp [C_potr, q1, q2, m3, m2, z1, z2]
  by_cases h : k < ns.length
  · have h' : (k : Int) < (ns.length : Int) := by omega
    obtain ⟨x, hx⟩ : ∃ x, atD ns (k : Int) = some x := by
      refine ⟨ns[k], ?_⟩
      unfold atD ixD
      rw [if_pos (Int.natCast_nonneg k), if_pos h']
      simp [h]
    obtain ⟨es, out, e1, e2, e3⟩ := fin (if x < 0 then -x else x)
    refine ⟨out, ?_, e3⟩
    simp [C_potm, m1, h', hx, e1, e2]
  · have h' : ¬ (k : Int) < (ns.length : Int) := by omega
    obtain ⟨es, out, e1, e2, e3⟩ := fin (a * (k : Int) + b)
    refine ⟨out, ?_, e3⟩
    simp [C_potm, m1, h', e1, e2]
/-! picks -/
def C_pick (f : PD) : MS := (sRet (mBin oIx (mVar 1) (mDraw f (aCons (mB bLen (vCons (mVar 1) vNil)) aNil))))
def PickOk (f : PD) : Prop := ∀ (xs : List D) (st : Pt), xs ≠ [] → xs.length < 1000000 → PotOk st → ∃ x st', f [.list xs] st = .ok (x, st') ∧ x ∈ xs ∧ PotOk st'
theorem C_pick_ok {f : PD} (h : DrawOk f) : PickOk (runD 2 2 (C_pick f)) := fun xs st hx hl hp => by
  have h0 : 0 < xs.length := List.length_pos_iff.mpr hx
  obtain ⟨d, st', e, d1, d2, hp'⟩ := h (xs.length : Int) st (by omega) (by omega) hp
  obtain ⟨i, rfl⟩ : ∃ i : Nat, d = i := ⟨d.toNat, by omega⟩
  have hi : i < xs.length := by omega
  refine ⟨xs[i], st', ?_, List.getElem_mem hi, hp'⟩
  have a1 : atD xs (i : Int) = some xs[i] := by
    unfold atD ixD
    rw [if_pos (Int.natCast_nonneg i), if_pos (by omega)]
    simp [hi]
  simp [C_pick, e, a1]
/-! a list drawn item by item -/
theorem lcL_draw {p : Pat} {e : ME} {env : Env} (P : D → Prop) : ∀ (ds : List D) (st : Pt), PotOk st → (∀ d ∈ ds, ∀ st, PotOk st → ∃ env1, p.set d env = .ok env1 ∧ ∃ x st', e env1 st = .ok (.im x, st') ∧ P x ∧ PotOk st') → ∃ xs st', lcL p (mC (.bool true)) e env ds st = .ok (xs, st') ∧ xs.length = ds.length ∧ (∀ x ∈ xs, P x) ∧ PotOk st'
  | [], st, hp, _ => ⟨[], st, by simp [lcL], rfl, by simp, hp⟩
  | d :: ds, st, hp, h => by
    obtain ⟨env1, e1, x, st1, e2, hx, hp1⟩ := h d List.mem_cons_self st hp
    obtain ⟨xs, st2, e3, hl, hxs, hp2⟩ := lcL_draw (p := p) (e := e) (env := env) P ds st1 hp1 fun z hz => h z (List.mem_cons_of_mem _ hz)
    refine ⟨x :: xs, st2, by simp [lcL, e1, e2, e3], by simp [hl], fun z hz => ?_, hp2⟩
    rcases List.mem_cons.mp hz with rfl | hz
    · exact hx
    · exact hxs z hz
theorem rows_of {n m : Nat} : ∀ {xs : List D}, (∀ x ∈ xs, ∃ q, x = qD q ∧ In n m q) → ∃ p, xs = pL p ∧ Inp n m p
  | [], _ => ⟨[], rfl, fun a ha => by simp at ha⟩
  | x :: xs, h => by
    obtain ⟨q, rfl, hq⟩ := h x List.mem_cons_self
    obtain ⟨p, rfl, hp⟩ := rows_of (xs := xs) fun z hz => h z (List.mem_cons_of_mem _ hz)
    refine ⟨q :: p, rfl, fun a ha => ?_⟩
    rcases List.mem_cons.mp ha with rfl | ha
    · exact hq
    · exact hp a ha
theorem rows_of' {P : Rat → Prop} : ∀ {xs : List D}, (∀ x ∈ xs, ∃ q, x = qD q ∧ P q) → ∃ p, xs = pL p ∧ ∀ a ∈ p, P a
  | [], _ => ⟨[], rfl, fun a ha => by simp at ha⟩
  | x :: xs, h => by
    obtain ⟨q, rfl, hq⟩ := h x List.mem_cons_self
    obtain ⟨p, rfl, hp⟩ := rows_of' (xs := xs) fun z hz => h z (List.mem_cons_of_mem _ hz)
    refine ⟨q :: p, rfl, fun a ha => ?_⟩
    rcases List.mem_cons.mp ha with rfl | ha
    · exact hq
    · exact hp a ha
/-! ### looks -/
def sm (q : Rat) : Bool := decide (q.num.natAbs ≤ 999) && decide (q.den ≤ 99)
theorem is_int_ok (i : Int) : F_is_integer [.int i] = .ok (.bool true) := by simp [F_is_integer, m_is_integer]
theorem is_fr_ok (q : Rat) : F_is_fraction_of [qD q] = .ok (.bool true) := by
  have g := divisor_ok q.num.natAbs q.den
  have r : q.num.natAbs.gcd q.den = 1 := q.reduced
  have hb : (1 : Int) ≤ (q.den : Int) := by have := q.den_pos; omega
  rw [r] at g
  simp [F_is_fraction_of, m_is_fraction_of, qD, is_int_ok, sh_i, eqv_i, hb, abs_if, g]
theorem is_sm_ok (q : Rat) : F_is_small [qD q] = .ok (.bool (sm q)) := by
  have f := is_fr_ok q
  have e1 : ((q.num.natAbs : Int) ≤ 999) ↔ q.num.natAbs ≤ 999 := by omega
  have e2 : ((q.den : Int) ≤ 99) ↔ q.den ≤ 99 := by omega
  unfold qD at f
  by_cases h : q.num.natAbs ≤ 999
  · have h' : (q.num.natAbs : Int) ≤ 999 := by omega
    simp [F_is_small, m_is_small, qD, f, abs_if, sm, h, h', e2]
  · have h' : ¬ (q.num.natAbs : Int) ≤ 999 := by omega
    simp [F_is_small, m_is_small, qD, f, abs_if, sm, h, h']
theorem all_pL (g : D → Bool) : ∀ p : List Rat, (pL p).all g = p.all fun q => g (qD q)
  | [] => rfl
  | a :: p => by simp [all_pL g p]
theorem lc_bools {e : ME} {env : Env} {st : Pt} {pt : Pat} (g : Rat → Bool) : ∀ {p : List Rat}, (∀ a ∈ p, ∃ env1, pt.set (qD a) env = .ok env1 ∧ e env1 st = .ok (.im (.bool (g a)), st)) → lcL pt (mC (.bool true)) e env (pL p) st = .ok (p.map fun a => .bool (g a), st)
  | [], _ => by simp [lcL]
  | a :: p, h => by
    obtain ⟨env1, e1, e2⟩ := h a List.mem_cons_self
    have ih := lc_bools (e := e) (env := env) (st := st) (pt := pt) g (p := p) fun x hx => h x (List.mem_cons_of_mem _ hx)
    simp [lcL, e1, e2, ih]
theorem boolsOf_q (g : Rat → Bool) : ∀ p : List Rat, boolsOf (p.map fun a => .bool (g a)) = some (p.map g)
  | [] => by simp
  | a :: p => by simp [boolsOf_q g p]
theorem bAll_q (p : List Rat) (g : Rat → Bool) : bAll [.list (p.map fun a => .bool (g a))] = bl (p.all g) := by
  rw [bAll_l, boolsOf_q]
  simp [List.all_map, Function.comp_def]
theorem is_list_ok {d : D} {p : List Rat} (h : Row d p) : F_is_list [d] = .ok (.bool true) := by
  rcases h with rfl | rfl <;> simp [F_is_list, m_is_list]
theorem are_sm_ok {d : D} {p : List Rat} (h : Row d p) (hl : p.length ≤ 1000) : F_are_small [d] = .ok (.bool (p.all sm)) := by
  have l := is_list_ok h
  have L := fun x : EV => lc_bools (e := mCall F_is_small (aCons (mVar 1) aNil)) (env := [x, .no]) (st := []) (pt := .nm 1) sm (p := p) fun a ha => ⟨[x, .im (qD a)], by simp, by simp [is_sm_ok]⟩
  have hl2 : p.length ≤ 1000000 := by omega
  rcases h with rfl | rfl <;> simp [F_are_small, m_are_small, l, mLc, hl2, L, bAll_q]
theorem check_poly_ok {d : D} {p : List Rat} (h : Row d p) (hl : p.length ≤ 5) (hs : p.all sm = true) : F_check_poly [d] = .ok .none := by
  have a := are_sm_ok h (by omega)
  have hl2 : ¬ (5 : Int) < (p.length : Int) := by omega
  rcases h with rfl | rfl <;> simp [F_check_poly, m_check_poly, a, hs, hl2]
theorem check_spot_ok {q : Rat} (hs : sm q = true) : F_check_spot [qD q] = .ok .none := by
  simp [F_check_spot, m_check_spot, is_sm_ok, hs]
theorem sm_fit {q : Rat} (h : sm q = true) : Fit q := by
  unfold sm at h
  rw [Bool.and_eq_true, decide_eq_true_iff, decide_eq_true_iff] at h
  exact ⟨Nat.lt_of_le_of_lt h.1 (by decide +kernel), Nat.lt_of_le_of_lt h.2 (by decide +kernel)⟩
theorem below_op {p q : Rat} (hp : Fit p) (hq : Fit q) : F_is_below [qD p, qD q] = .ok (.bool (decide (p < q))) := below_ok 4000 4000 p q hp hq (by decide)
theorem l_below_op {p q : Rat} (hp : Fit p) (hq : Fit q) : F__law_below [qD p, qD q] = .ok (.bool (decide (p < q))) := l_below_ok 4000 4000 p q hp hq (by decide)
theorem is_stretch_ok {low high : Rat} (h1 : sm low = true) (h2 : sm high = true) : F_is_stretch_of [.tuple [qD low, qD high]] = .ok (.bool (decide (low < high))) := by
  have b := below_op (sm_fit h1) (sm_fit h2)
  simp [F_is_stretch_of, m_is_stretch_of, sh_i, eqv_i, mLc, lcL, is_sm_ok, h1, h2, b, bAll_l]
theorem check_stretch_ok {low high : Rat} (h1 : sm low = true) (h2 : sm high = true) (h : low < high) : F_check_stretch [.tuple [qD low, qD high]] = .ok .none := by
  simp [F_check_stretch, m_check_stretch, is_stretch_ok h1 h2, h]
theorem check_row_ok {d : D} {p : List Rat} (h : Row d p) (hl1 : 1 ≤ p.length) (hl : p.length ≤ 9) (hs : p.all sm = true) : F_check_row [d] = .ok .none := by
  have a := are_sm_ok h (by omega)
  have l := is_list_ok h
  have l1 : (1 : Int) ≤ (p.length : Int) := by omega
  have l2 : (p.length : Int) ≤ 9 := by omega
  rcases h with rfl | rfl <;> simp [F_check_row, m_check_row, a, l, hs, l1, l2]
theorem is_within_ok {i a b : Int} (h1 : a ≤ i) (h2 : i ≤ b) : F_is_within [.int i, .int a, .int b] = .ok (.bool true) := by
  simp [F_is_within, m_is_within, is_int_ok, h1, h2]
/-! the law's own look -/
theorem l_sm_ok (q : Rat) : F__law_is_small [qD q] = .ok (.bool (sm q)) := by
  have e2 : ((q.den : Int) ≤ 99) ↔ q.den ≤ 99 := by omega
  by_cases h : q.num.natAbs ≤ 999
  · have h' : (q.num.natAbs : Int) ≤ 999 := by omega
    simp [F__law_is_small, m__law_is_small, qD, abs_if, sm, h, h', e2]
  · have h' : ¬ (q.num.natAbs : Int) ≤ 999 := by omega
    simp [F__law_is_small, m__law_is_small, qD, abs_if, sm, h, h']
theorem l_are_sm_ok {d : D} {p : List Rat} (h : Row d p) (hl : p.length ≤ 1000) : F__law_are_small [d] = .ok (.bool (p.all sm)) := by
  have L := fun x : EV => lc_bools (e := mCall F__law_is_small (aCons (mVar 1) aNil)) (env := [x, .no]) (st := []) (pt := .nm 1) sm (p := p) fun a ha => ⟨[x, .im (qD a)], by simp, by simp [l_sm_ok]⟩
  have hl2 : p.length ≤ 1000000 := by omega
  rcases h with rfl | rfl <;> simp [F__law_are_small, m__law_are_small, mLc, hl2, L, bAll_q]
/-! ### the law as a whole -/
def RightOk (F : PD) : Prop := ∀ st, PotOk st → ∃ st', F [] st = .ok (.bool true, st') ∧ PotOk st'
def C_lawB (m t : Int) (fP : List Int → List D → R (List Int)) (fR : PD) : MS := (sSeq (sFor (iRange1 (mB bMax (vCons (mC (.int 1)) (vCons (mB bMin (vCons (mC (.int m)) (vCons (mLenF 0) vNil))) vNil)))) (.nm 1) (sPotIn 2 fP (aCons (mVar 1) aNil) (sIf (mUn oNot (mB bAll (vCons (mLc (iRange1 (mC (.int t))) (.nm 3) [3] (mC (.bool true)) (mDrawAt 2 fR aNil)) vNil))) (sRet (mC (.bool false))) sNil)))
  (sRet (mC (.bool true))))
theorem all_true : ∀ {xs : List D}, (∀ x ∈ xs, x = .bool true) → bAll [.list xs] = bl true := fun {xs} h => by
  have k : ∀ xs : List D, (∀ x ∈ xs, x = .bool true) → ∃ bs, boolsOf xs = some bs ∧ bs.all id = true := fun xs => by
    induction xs with
    | nil => exact fun _ => ⟨[], rfl, rfl⟩
    | cons x xs ih =>
      intro h
      obtain ⟨bs, e1, e2⟩ := ih fun z hz => h z (List.mem_cons_of_mem _ hz)
      rw [h x List.mem_cons_self]
      exact ⟨true :: bs, by simp [e1], by simpa using e2⟩
  obtain ⟨bs, e1, e2⟩ := k xs h
  rw [bAll_l, e1]
  simp [e2]
theorem cells_ok {m : Int} (hm : 1 ≤ m ∧ m ≤ 63) (ns : List Int) : ∃ N : Nat, N ≤ 63 ∧ ∀ (r : Env) (st : Pt), (mB bMax (vCons (mC (.int 1)) (vCons (mB bMin (vCons (mC (.int m)) (vCons (mLenF 0) vNil))) vNil))) (.fz ns :: r) st = .ok (.im (.int (N : Int)), st) := by
  obtain ⟨N, hN, h0, h3⟩ : ∃ N : Int, (∀ (r : Env) (st : Pt), (mB bMax (vCons (mC (.int 1)) (vCons (mB bMin (vCons (mC (.int m)) (vCons (mLenF 0) vNil))) vNil))) (.fz ns :: r) st = .ok (.im (.int N), st)) ∧ 0 ≤ N ∧ N ≤ 63 := by
    refine ⟨_, fun r st => by simp; rfl, ?_, ?_⟩
    · split <;> split <;> omega
    · split <;> split <;> omega
  obtain ⟨k, rfl⟩ : ∃ k : Nat, N = k := ⟨N.toNat, by omega⟩
  exact ⟨k, by omega, hN⟩
theorem C_lawB_ok {m : Int} {t : Nat} {fP : List Int → List D → R (List Int)} {fR : PD} (hP : PotsOk fP) (hR : RightOk fR) (hm : 1 ≤ m ∧ m ≤ 63) (ht : t ≤ 100) (ns : List Int) : runF 4 (C_lawB m t fP fR) ns = .ok (.bool true) := by
  obtain ⟨N, hN, e0⟩ := cells_ok hm ns
  have Z := iR1N (e0 [.no, .no, .no] []) (by omega)
  let I : Nat → Env → Prop := fun i env => ∃ x, env = [.fz ns, x, .no, .no] ∧ isPt x = false
  obtain ⟨env2, e, x, rfl, _⟩ := forL_inv (p := .nm 1) (b := sPotIn 2 fP (aCons (mVar 1) aNil) (sIf (mUn oNot (mB bAll (vCons (mLc (iRange1 (mC (.int (t : Int)))) (.nm 3) [3] (mC (.bool true)) (mDrawAt 2 fR aNil)) vNil))) (sRet (mC (.bool false))) sNil)) (st := []) (ds := rangeL 0 (N : Int)) I (fun i d1 hd1 env hI => by
    obtain ⟨x, rfl, hx⟩ := hI
    obtain ⟨hi, rfl⟩ := range_get hd1
    obtain ⟨out, e1, p1⟩ := hP ns i (by omega)
    have R := iR1N (m := mC (.int (t : Int))) (env := [.fz ns, .im (.int (i : Int)), .pt, .no]) (st := out) (st' := out) (k := t) rfl (by omega)
    obtain ⟨xs, st', e2, hl, hxs, _⟩ := lcL_draw (p := .nm 3) (e := mDrawAt 2 fR aNil) (env := [.fz ns, .im (.int (i : Int)), .pt, .no]) (fun x => x = .bool true) (rangeL 0 (t : Int)) out p1 fun d hd st hp => by
      obtain ⟨st', e3, p3⟩ := hR st hp
      exact ⟨[.fz ns, .im (.int (i : Int)), .pt, .im d], by simp, .bool true, st', by simp [e3], rfl, p3⟩
    have A := all_true hxs
    have l : (rangeL 0 (t : Int)).length ≤ 1000000 := by
      rw [range_len]
      omega
    have ML : mLc (iRange1 (mC (.int (t : Int)))) (.nm 3) [3] (mC (.bool true)) (mDrawAt 2 fR aNil) [.fz ns, .im (.int (i : Int)), .pt, .no] out = .ok (.ow xs, st') := by
      unfold mLc
      rw [R]
      show (if _ then _ else _) = _
      rw [if_pos ⟨l, rfl⟩]
      show (lcL _ _ _ [.fz ns, .im (.int (i : Int)), .pt, .no] _ _).bind _ = _
      rw [e2]
      rfl
    refine ⟨[.fz ns, .im (.int (i : Int)), .no, .no], by simp [hx], [.fz ns, .im (.int (i : Int)), .no, .no], ?_, _, rfl, rfl⟩
    have k : (sIf (mUn oNot (mB bAll (vCons (mLc (iRange1 (mC (.int (t : Int)))) (.nm 3) [3] (mC (.bool true)) (mDrawAt 2 fR aNil)) vNil))) (sRet (mC (.bool false))) sNil) [.fz ns, .im (.int (i : Int)), .pt, .no] out = .ok (.nx [.fz ns, .im (.int (i : Int)), .pt, .no] st') := by
      simp [-iRange1, ML, A]
    have n1 : noPt 2 [.fz ns, .im (.int (i : Int)), .no, .no] = true := rfl
    have n2 : noPt 2 [.fz ns, .im (.int (i : Int)), .pt, .no] = true := rfl
    simp [-sIf, e1, n1, n2, k]) (env := [.fz ns, .no, .no, .no]) ⟨_, rfl, rfl⟩
  have k1 : (sFor (iRange1 (mB bMax (vCons (mC (.int 1)) (vCons (mB bMin (vCons (mC (.int m)) (vCons (mLenF 0) vNil))) vNil)))) (.nm 1) (sPotIn 2 fP (aCons (mVar 1) aNil) (sIf (mUn oNot (mB bAll (vCons (mLc (iRange1 (mC (.int (t : Int)))) (.nm 3) [3] (mC (.bool true)) (mDrawAt 2 fR aNil)) vNil))) (sRet (mC (.bool false))) sNil))) [.fz ns, .no, .no, .no] [] = .ok (.nx [.fz ns, x, .no, .no] []) := by
    unfold sFor
    rw [Z]
    exact e
  show (C_lawB m t fP fR [.fz ns, .no, .no, .no] []).bind _ = _
  unfold C_lawB
  rw [seq_nx k1]
  rfl
def C_lawA (m : Int) (fP : List Int → List D → R (List Int)) (fR : PD) : MS := (sRet (mB bAll (vCons (mLc (iRange1 (mB bMax (vCons (mC (.int 1)) (vCons (mB bMin (vCons (mC (.int m)) (vCons (mLenF 0) vNil))) vNil)))) (.nm 1) [1] (mC (.bool true)) (mRP fP 0 (aCons (mVar 1) aNil) fR)) vNil)))
theorem C_lawA_ok {m : Int} {fP : List Int → List D → R (List Int)} {fR : PD} (hP : PotsOk fP) (hR : RightOk fR) (hm : 1 ≤ m ∧ m ≤ 63) (ns : List Int) : runF 2 (C_lawA m fP fR) ns = .ok (.bool true) := by
  obtain ⟨N, hN, e0⟩ := cells_ok hm ns
  have Z := iR1N (e0 [.no] []) (by omega)
  have C := lc_bool (p := .nm 1) (vs := [1]) (e := mRP fP 0 (aCons (mVar 1) aNil) fR) (env := [.fz ns, .no]) (st := []) (fun _ => true) (ds := rangeL 0 (N : Int)) (by rw [range_len]; omega) rfl (fun d hd st => by
    obtain ⟨i, hi, rfl⟩ := List.mem_map.mp hd
    rw [List.mem_range] at hi
    obtain ⟨out, e1, e2⟩ := hP ns i (by omega)
    obtain ⟨st', e3, _⟩ := hR out e2
    refine ⟨[.fz ns, .im (.int (0 + (i : Int)))], by simp, ?_⟩
    rw [Int.zero_add]
    simp [e1, e3]) Z
  have B := bAll_map (rangeL 0 (N : Int)) fun _ => true
  have T : (rangeL 0 (N : Int)).all (fun _ => true) = true := by simp
  rw [T] at B
  simp only [C_lawA, runF, startE, sRet, mB, vCons, vNil, List.map_nil, List.length_nil, List.nil_append, Nat.sub_zero] at C B ⊢
  simp [-iRange1, C, B]
end BP

namespace BP
/-! ### small numbers over one bottom -/
def LC : Nat := 69720375229712477164533808935312303556800
theorem LC_dvd {d : Nat} (h0 : 0 < d) (h : d ≤ 99) : d ∣ LC := by
  have : ∀ d : Nat, d < 100 → 0 < d → d ∣ LC := by decide +kernel
  exact this d (by omega) h0
theorem LC_pos : 0 < LC := by decide +kernel
theorem sm_iff {q : Rat} : sm q = true ↔ q.num.natAbs ≤ 999 ∧ q.den ≤ 99 := by
  unfold sm
  rw [Bool.and_eq_true, decide_eq_true_iff, decide_eq_true_iff]
theorem In_den (q : Rat) {m : Nat} (h : q.num.natAbs ≤ m * q.den) : In q.den m q := ⟨q.num, (Rat.num_divInt_den q).symm, h⟩
theorem sm_in {q : Rat} (h : sm q = true) : In LC 999 q := by
  obtain ⟨h1, h2⟩ := sm_iff.mp h
  have h0 := q.den_pos
  exact (In_den q (m := 999) (by have : 999 * 1 ≤ 999 * q.den := Nat.mul_le_mul_left _ h0; omega)).dvd LC_pos (LC_dvd h0 h2)
theorem sms_in {p : List Rat} (h : p.all sm = true) : Inp LC 999 p := fun a ha => sm_in (List.all_eq_true.mp h a ha)
theorem sms_fit {p : List Rat} (h : p.all sm = true) : Fits p := fun a ha => sm_fit (List.all_eq_true.mp h a ha)
theorem sm_dv {t b : Int} (ht : t.natAbs ≤ 999) (h0 : 0 < b) (hb : b ≤ 99) : sm (Rat.divInt t b) = true := by
  obtain ⟨n, rfl⟩ : ∃ n : Nat, b = n := ⟨b.toNat, by omega⟩
  rw [sm_iff, Rat.divInt_ofNat]
  constructor
  · rw [Rat.num_mkRat, if_neg (by omega)]
    exact Nat.le_trans (Int.natAbs_ediv_le_natAbs t ((n.gcd t.natAbs : Nat) : Int)) ht
  · rw [Rat.den_mkRat, if_neg (by omega)]
    have := Nat.div_le_self n (n.gcd t.natAbs)
    omega
theorem sm_of_in {n m : Nat} {q : Rat} (h : In n m q) (h0 : 0 < n) (hn : n ≤ 99) (hm : m * n ≤ 999) : sm q = true := by
  obtain ⟨t, rfl, ht⟩ := h
  exact sm_dv (by omega) (by omega) (by omega)
theorem cap_of {n m : Nat} (h : n < 2 ^ 4000 ∧ m * n < 2 ^ 4000) : Cap n m := h
/-- a stretch's share: one by its width -/
theorem share_in {low high : Rat} (h1 : sm low = true) (h2 : sm high = true) (h : low < high) : ∃ nw, 0 < nw ∧ nw ≤ 2 ^ 18 ∧ In nw 9801 (1 / (high - low)) := by
  obtain ⟨a1, a2⟩ := sm_iff.mp h1
  obtain ⟨b1, b2⟩ := sm_iff.mp h2
  have hp := low.den_pos
  have hq := high.den_pos
  have hl : low.num * high.den < high.num * low.den := (Rat.lt_iff _ _).mp h
  obtain ⟨x, hx⟩ : ∃ x : Nat, (x : Int) = high.num * low.den - low.num * high.den := ⟨(high.num * low.den - low.num * high.den).toNat, by omega⟩
  have x0 : 0 < x := by omega
  have m1 : (high.num * (low.den : Int)).natAbs ≤ 999 * 99 := by
    rw [Int.natAbs_mul]
    exact Nat.mul_le_mul b1 (by simpa using a2)
  have m2 : (low.num * (high.den : Int)).natAbs ≤ 999 * 99 := by
    rw [Int.natAbs_mul]
    exact Nat.mul_le_mul a1 (by simpa using b2)
  refine ⟨x, x0, by omega, ((low.den * high.den : Nat) : Int), ?_, ?_⟩
  · rw [dv_eq _ x0]
    have e1 : (low : Rat) = (low.num : Rat) / (low.den : Rat) := by
      conv => lhs; rw [← Rat.num_divInt_den low, Rat.divInt_eq_div]
      rfl
    have e2 : (high : Rat) = (high.num : Rat) / (high.den : Rat) := by
      conv => lhs; rw [← Rat.num_divInt_den high, Rat.divInt_eq_div]
      rfl
    have ex : (x : Rat) = (high.num : Rat) * (low.den : Rat) - (low.num : Rat) * (high.den : Rat) := by
      have : ((x : Int) : Rat) = ((high.num * low.den - low.num * high.den : Int) : Rat) := by rw [hx]
      push_cast at this
      exact this
    have z1 := nz hp
    have z2 := nz hq
    have z3 := nz x0
    have e3 : high - low = (x : Rat) / ((low.den : Rat) * (high.den : Rat)) := by
      conv => lhs; rw [e1, e2]
      rw [ex]
      grind
    rw [e3]
    push_cast
    grind
  · rw [Int.natAbs_natCast]
    have : low.den * high.den ≤ 99 * 99 := Nat.mul_le_mul a2 b2
    have : 9801 * 1 ≤ 9801 * x := Nat.mul_le_mul_left _ x0
    omega
theorem wide_in {low high : Rat} (h1 : sm low = true) (h2 : sm high = true) : In LC 1998 (high - low) := by
  have := (sm_in h2).sub (sm_in h1) LC_pos
  exact this
theorem lt_ne {a b : Rat} (h : a < b) : b - a ≠ 0 := by grind
/-! ### from outside -/
theorem plus_at_ok {d e : D} {p q : List Rat} (hd : Row d p) (he : Row e q) (hl : p.length ≤ 5) (hl2 : q.length ≤ 5) (hp : p.all sm = true) (hq : q.all sm = true) : F_plus [d, e] = .ok (pD (strip (padd p q))) := by
  have c1 := check_poly_ok hd hl hp
  have c2 := check_poly_ok he hl2 hq
  have a := plus_of_ok d e p q hd he (by omega) (by omega) (sms_fit hp) (sms_fit hq)
  rcases hd with rfl | rfl <;> rcases he with rfl | rfl <;> simp [F_plus, m_plus, F_check_polys, m_check_polys, c1, c2, a]
theorem value_at_ok {d : D} {p : List Rat} {x : Rat} (hd : Row d p) (hl : p.length ≤ 5) (hp : p.all sm = true) (hx : sm x = true) : F_value_at [d, qD x] = .ok (qD (ev p x)) := by
  have c1 := check_poly_ok hd hl hp
  have c2 := check_spot_ok hx
  have cap : Cap (LC * LC ^ 6) (5 * (999 * 999 ^ 6)) := by
    constructor <;> decide +kernel
  have v := value_of_ok d p x LC LC 999 999 hd (by omega) LC_pos LC_pos (by omega) (sms_in hp) (sm_in hx) (sms_fit hp) (sm_fit hx) (cap.le (Nat.mul_le_mul_left _ (Nat.pow_le_pow_right LC_pos (by omega))) (Nat.mul_le_mul hl (Nat.mul_le_mul_left _ (Nat.pow_le_pow_right (by omega) (by omega)))))
  rcases hd with rfl | rfl <;> simp [F_value_at, m_value_at, c1, c2, v]
theorem told_at_ok {d : D} {p : List Rat} (hd : Row d p) (hl : p.length ≤ 5) (hp : p.all sm = true) : F_told [d] = .ok (pD (strip p)) := by
  have c1 := check_poly_ok hd hl hp
  have t := told_ok d p hd (by omega)
  rcases hd with rfl | rfl <;> simp [F_told, m_told, c1, t]
theorem poly_of_at_ok {d : D} {row : List Rat} {low high : Rat} (hd : Row d row) (hl1 : 1 ≤ row.length) (hl : row.length ≤ 9) (hs : row.all sm = true) (h1 : sm low = true) (h2 : sm high = true) (h : low < high) :
    ∃ r, F_poly_of [d, .tuple [qD low, qD high]] = .ok (pD r) ∧ strip r = r ∧ r.length ≤ row.length ∧ ∀ t : Rat, ev r t = bern (co row) (row.length - 1) ((t - low) / (high - low)) := by
  obtain ⟨nw, w0, w1, hw⟩ := share_in h1 h2 h
  have cs : Cap LC 999 := by constructor <;> decide +kernel
  have cw : Cap nw 9801 := ⟨Nat.lt_of_le_of_lt w1 (by decide +kernel), Nat.lt_of_le_of_lt (Nat.mul_le_mul_left _ w1) (by decide +kernel)⟩
  have cap : Cap (LC * (2 ^ 18) ^ 9 * LC ^ 10) (999 * 44100 * 9801 ^ 9 * (19 * 999 + 1) ^ 10) := by
    constructor <;> decide +kernel
  have fw : Fit (high - low) := (wide_in h1 h2).fit LC_pos (by constructor <;> decide +kernel)
  obtain ⟨r, e, r1, r2, r3⟩ := poly_by_ok d row low high LC 999 LC 999 nw 9801 hd hl1 hl LC_pos (by omega) LC_pos (by omega) w0 (by omega) (sms_in hs) (sm_in h1) (sm_fit h2) fw (lt_ne h) hw cs cw (cap.le (Nat.mul_le_mul_right _ (Nat.mul_le_mul_left _ (Nat.pow_le_pow_left w1 9))) (Nat.le_refl _))
  refine ⟨r, ?_, r1, r2, r3⟩
  have c1 := check_row_ok hd hl1 hl hs
  have c2 := check_stretch_ok h1 h2 h
  rcases hd with rfl | rfl <;> simp [F_poly_of, m_poly_of, c1, c2, e]
theorem corners_at_ok {d : D} {p U : List Rat} {low high : Rat} {size : Nat} (hd : Row d p) (hl : p.length ≤ 5) (hs : p.all sm = true) (h1 : sm low = true) (h2 : sm high = true) (h : low < high) (hz : size ≤ 8) (hlen : (strip p).length ≤ size + 1) (hU : Unit' p low (high - low) U) :
    F_corners [d, .tuple [qD low, qD high], .int (size : Int)] = .ok (pL (corn U size)) ∧ V_corners [d, .tuple [qD low, qD high], .int (size : Int)] = .ok (pD (corn U size)) := by
  have cs : Cap LC 999 := by constructor <;> decide +kernel
  have cw : Cap LC 1998 := by constructor <;> decide +kernel
  have c1 : Cap (LC * LC ^ 6) (999 * ((2 * 5 + 1) * 999 + 1) ^ 6) := by constructor <;> decide +kernel
  have c2 : Cap (LC * LC ^ 5 * LC ^ 5 * 840) (10 * (999 * ((2 * 5 + 1) * 999 + 1) ^ 5 * 1998 ^ 5)) := by constructor <;> decide +kernel
  obtain ⟨V, hV, e, _⟩ := corners_of_ok d p low high LC 999 LC 999 LC 1998 5 size hd hl (by omega) LC_pos (by omega) LC_pos (by omega) LC_pos (by omega) (sms_in hs) (sm_in h1) (sm_fit h2) (wide_in h1 h2) hz c1 cs cw c2
  rw [hV.uniq hU] at e
  have k1 := check_poly_ok hd hl hs
  have k2 := check_stretch_ok h1 h2 h
  have k3 : F_is_within [.int (size : Int), .int 0, .int 8] = .ok (.bool true) := is_within_ok (by omega) (by omega)
  have k4 : F_check_sized [d, .tuple [qD low, qD high], .int (size : Int)] = .ok .none := by
    rcases hd with rfl | rfl <;> simp [F_check_sized, m_check_sized, k1, k2, k3]
  have t := told_ok d p hd (by omega)
  have k5 : F_want_size [d, .int (size : Int)] = .ok .none := by
    have : ¬ (size : Int) < ((strip p).length : Int) - 1 := by omega
    rcases hd with rfl | rfl <;> simp [F_want_size, m_want_size, t, pD, this]
  have k : F_corners [d, .tuple [qD low, qD high], .int (size : Int)] = .ok (pL (corn U size)) := by
    refine runPo_ro (st := []) rfl ?_
    show m_corners [.im d, .im (.tuple [qD low, qD high]), .im (.int (size : Int))] [] = _
    unfold m_corners
    have s1 : (sExpr (mCall F_check_sized (aCons (mVar 0) (aCons (mVar 1) (aCons (mVar 2) aNil))))) [.im d, .im (.tuple [qD low, qD high]), .im (.int (size : Int))] [] = .ok (.nx [.im d, .im (.tuple [qD low, qD high]), .im (.int (size : Int))] []) := by simp [k4]
    have s2 : (sExpr (mCall F_want_size (aCons (mVar 0) (aCons (mVar 2) aNil)))) [.im d, .im (.tuple [qD low, qD high]), .im (.int (size : Int))] [] = .ok (.nx [.im d, .im (.tuple [qD low, qD high]), .im (.int (size : Int))] []) := by simp [k5]
    rw [seq_nx s1, seq_nx s2]
    simp [e]
  refine ⟨k, ?_⟩
  unfold V_corners
  rw [k]
  rfl
/-! the least and the greatest -/
def lstR : Rat → List Rat → Rat
  | f, [] => f
  | f, a :: p => lstR (if a < f then a else f) p
def grtR : Rat → List Rat → Rat
  | f, [] => f
  | f, a :: p => grtR (if f < a then a else f) p
theorem lesser_ok {f a : Rat} (hf : Fit f) (ha : Fit a) : F_lesser [qD f, qD a] = .ok (qD (if a < f then a else f)) := by
  have b := below_op ha hf
  by_cases h : a < f <;> simp [F_lesser, m_lesser, b, h]
theorem greater_ok {f a : Rat} (hf : Fit f) (ha : Fit a) : F_greater [qD f, qD a] = .ok (qD (if f < a then a else f)) := by
  have b := below_op hf ha
  by_cases h : f < a <;> simp [F_greater, m_greater, b, h]
theorem fit_if {c : Prop} [Decidable c] {a b : Rat} (ha : Fit a) (hb : Fit b) : Fit (if c then a else b) := by
  split
  · exact ha
  · exact hb
theorem least_loop (x0 : EV) (st : Pt) : ∀ (p : List Rat) (f : Rat) (w : EV), isPt w = false → Fit f → Fits p → ∃ w1, forL (.nm 2) (sSet 1 (mCall F_lesser (aCons (mVar 1) (aCons (mVar 2) aNil)))) (pL p) [x0, .im (qD f), w] st = .ok (.nx [x0, .im (qD (lstR f p)), w1] st)
  | [], f, w, _, _, _ => ⟨w, by simp [forL, lstR]⟩
  | a :: p, f, w, hw, ff, fp => by
    obtain ⟨w1, e⟩ := least_loop x0 st p (if a < f then a else f) (.im (qD a)) rfl (fit_if fp.head ff) fp.tail
    have b := lesser_ok ff fp.head
    exact ⟨w1, by simp [forL, hw, b, lstR, e]⟩
theorem greatest_loop (x0 : EV) (st : Pt) : ∀ (p : List Rat) (f : Rat) (w : EV), isPt w = false → Fit f → Fits p → ∃ w1, forL (.nm 2) (sSet 1 (mCall F_greater (aCons (mVar 1) (aCons (mVar 2) aNil)))) (pL p) [x0, .im (qD f), w] st = .ok (.nx [x0, .im (qD (grtR f p)), w1] st)
  | [], f, w, _, _, _ => ⟨w, by simp [forL, grtR]⟩
  | a :: p, f, w, hw, ff, fp => by
    obtain ⟨w1, e⟩ := greatest_loop x0 st p (if f < a then a else f) (.im (qD a)) rfl (fit_if fp.head ff) fp.tail
    have b := greater_ok ff fp.head
    exact ⟨w1, by simp [forL, hw, b, grtR, e]⟩
theorem least_of_ok {d : D} {a : Rat} {p : List Rat} (hd : Row d (a :: p)) (fp : Fits (a :: p)) : F_least_of [d] = .ok (qD (lstR a p)) := by
  obtain ⟨w, e⟩ := least_loop (.im d) [] p a .no rfl fp.head fp.tail
  rcases hd with rfl | rfl <;> simp [F_least_of, m_least_of, sFor, cut1, b_least_of_1] at e ⊢ <;> simp [e]
theorem greatest_of_ok {d : D} {a : Rat} {p : List Rat} (hd : Row d (a :: p)) (fp : Fits (a :: p)) : F_greatest_of [d] = .ok (qD (grtR a p)) := by
  obtain ⟨w, e⟩ := greatest_loop (.im d) [] p a .no rfl fp.head fp.tail
  rcases hd with rfl | rfl <;> simp [F_greatest_of, m_greatest_of, sFor, cut1, b_greatest_of_1] at e ⊢ <;> simp [e]
theorem bounds_at_ok {d : D} {a : Rat} {p : List Rat} (hd : Row d (a :: p)) (hl : p.length ≤ 8) (hs : (a :: p).all sm = true) : F_bounds_of [d] = .ok (.tuple [qD (lstR a p), qD (grtR a p)]) := by
  have c := check_row_ok hd (by simp) (by simp; omega) hs
  have l := least_of_ok hd (sms_fit hs)
  have g := greatest_of_ok hd (sms_fit hs)
  rcases hd with rfl | rfl <;> simp [F_bounds_of, m_bounds_of, -pL_cons, c, l, g]
end BP

namespace BP
/-! ### drawn rows, spots, stretches -/
def iL (S : List Int) : List D := S.map .int
def C_frac (fd fp fr : PD) : ME := mC .none
def C_item (fd fp : PD) (fr : PF) (bt : ME) : ME := (mCall fr (aCons (mBin oSub (mDraw fd (aCons (mBin oAdd (mBin oMul (mC (.int 2)) (mVar 2)) (mC (.int 1))) aNil)) (mVar 2)) (aCons (mDraw fp (aCons bt aNil)) aNil)))
def C_rowd (fd fp : PD) (fr : PF) (sz bt cnt : ME) : MS := (sSeq (sSet 2 (mDraw fp (aCons sz aNil)))
  (sRet (mLc (iRange1 cnt) (.nm 3) [3] (mC (.bool true)) (C_item fd fp fr bt))))
theorem frac_in {t b : Int} {N M : Nat} (ht : t.natAbs ≤ M) (hb : 1 ≤ b) (hN : b.toNat ∣ N) (h0 : 0 < N) : In N M (Rat.divInt t b) := by
  obtain ⟨n, rfl⟩ : ∃ n : Nat, b = n := ⟨b.toNat, by omega⟩
  rw [Int.toNat_natCast] at hN
  refine (In_dv (m := M) (n := n) ?_).dvd h0 hN
  have : M * 1 ≤ M * n := Nat.mul_le_mul_left _ (by omega)
  omega
theorem rowd_ok {fd fp : PD} {fr : PF} {sz bt cnt : ME} (hd : DrawOk fd) (hp : PickOk fp) (hr : RedOk2 fr) (S B : List Int) (N M lo hi : Nat) (mo : Int)
    (hS : ∀ env st, sz env st = .ok (.ow (iL S), st)) (hB : ∀ env st, bt env st = .ok (.ow (iL B), st)) (hS0 : S ≠ [] ∧ S.length < 100) (hB0 : B ≠ [] ∧ B.length < 100) (hSr : ∀ s ∈ S, 1 ≤ s ∧ s ≤ (M : Int)) (hBr : ∀ b ∈ B, 1 ≤ b ∧ b ≤ 99 ∧ b.toNat ∣ N) (h0 : 0 < N) (hM : M ≤ 999) (hhi : hi ≤ 1000)
    (hc : ∀ s st, PotOk st → ∃ (k : Nat) (st' : Pt), cnt [.pt, .im (.int mo), .im (.int s), .no] st = .ok (.im (.int (k : Int)), st') ∧ lo ≤ k ∧ k ≤ hi ∧ PotOk st') :
    ∀ st, PotOk st → ∃ (p : List Rat) (st' : Pt), runD 2 4 (C_rowd fd fp fr sz bt cnt) [.int mo] st = .ok (pD p, st') ∧ PotOk st' ∧ lo ≤ p.length ∧ p.length ≤ hi ∧ Inp N M p ∧ p.all sm = true := fun st h1 => by
  obtain ⟨x, st1, e1, hx, p1⟩ := hp (iL S) st (by simpa [iL] using hS0.1) (by simp [iL]; omega) h1
  obtain ⟨s, hs, rfl⟩ := List.mem_map.mp hx
  obtain ⟨hs1, hs2⟩ := hSr s hs
  obtain ⟨k, st2, e2, k1, k2, p2⟩ := hc s st1 p1
  have R := iR1N e2 (by omega)
  obtain ⟨xs, st3, e3, hl, hxs, p3⟩ := lcL_draw (p := .nm 3) (e := C_item fd fp fr bt) (env := [.pt, .im (.int mo), .im (.int s), .no]) (fun x => ∃ q, x = qD q ∧ In N M q ∧ sm q = true) (rangeL 0 (k : Int)) st2 p2 fun d hdm st hpt => by
    obtain ⟨t, st4, e4, t1, t2, p4⟩ := hd (2 * s + 1) st (by omega) (by omega) hpt
    obtain ⟨y, st5, e5, hy, p5⟩ := hp (iL B) st4 (by simpa [iL] using hB0.1) (by simp [iL]; omega) p4
    obtain ⟨b, hb, rfl⟩ := List.mem_map.mp hy
    obtain ⟨b1, b2, b3⟩ := hBr b hb
    have h999 : (999 : Nat) < 2 ^ 8002 := by decide +kernel
    have r := hr (t - s) b (by omega) (by omega) (by omega)
    have m2 : mulOk 2 s = true := mulOk_of 10 20 (by decide) (by omega) (by decide)
    refine ⟨[.pt, .im (.int mo), .im (.int s), .im d], by simp, qD (Rat.divInt (t - s) b), st5, ?_, ⟨_, rfl, frac_in (by omega) b1 b3 h0, sm_dv (by omega) (by omega) b2⟩, p5⟩
    simp [C_item, hB, m2, e4, e5, r]
  obtain ⟨p, rfl, hP⟩ := rows_of' (P := fun q => In N M q ∧ sm q = true) hxs
  rw [range_len, pL_len] at hl
  have ML : mLc (iRange1 cnt) (.nm 3) [3] (mC (.bool true)) (C_item fd fp fr bt) [.pt, .im (.int mo), .im (.int s), .no] st1 = .ok (.ow (pL p), st3) := by
    unfold mLc
    rw [R]
    show (if _ then _ else _) = _
    rw [if_pos ⟨by rw [range_len]; exact Nat.le_trans k2 (Nat.le_trans hhi (by decide)), rfl⟩]
    show (lcL _ _ _ [.pt, .im (.int mo), .im (.int s), .no] _ _).bind _ = _
    rw [e3]
    rfl
  refine ⟨p, st3, ?_, p3, by omega, by omega, fun a ha => (hP a ha).1, List.all_eq_true.mpr fun a ha => (hP a ha).2⟩
  simp [-iRange1, C_rowd, hS, e1, ML, pD]
def C_spot (fd : PD) (fr : PF) : MS := (sRet (mCall fr (aCons (mBin oSub (mDraw fd (aCons (mBin oAdd (mBin oMul (mC (.int 2)) (mVar 1)) (mC (.int 1))) aNil)) (mVar 1)) (aCons (mBin oAdd (mC (.int 1)) (mDraw fd (aCons (mC (.int 4)) aNil))) aNil))))
theorem spot_ok {fd : PD} {fr : PF} (hd : DrawOk fd) (hr : RedOk2 fr) {s : Nat} (hs : s ≤ 999) (st : Pt) (h1 : PotOk st) : ∃ q st', runD 2 2 (C_spot fd fr) [.int (s : Int)] st = .ok (qD q, st') ∧ PotOk st' ∧ In 12 s q ∧ sm q = true := by
  obtain ⟨t, st1, e1, t1, t2, p1⟩ := hd (2 * (s : Int) + 1) st (by omega) (by omega) h1
  obtain ⟨b, st2, e2, b1, b2, p2⟩ := hd 4 st1 (by omega) (by omega) p1
  have h999 : (999 : Nat) < 2 ^ 8002 := by decide +kernel
  have r := hr (t - s) (1 + b) (by omega) (by omega) (by omega)
  have m2 : mulOk 2 (s : Int) = true := mulOk_of 10 20 (by decide) (by omega) (by decide)
  have dv : (1 + b).toNat ∣ 12 := by
    have : ∀ k : Nat, k < 5 → 0 < k → k ∣ 12 := by decide
    exact this _ (by omega) (by omega)
  exact ⟨Rat.divInt (t - s) (1 + b), st2, by simp [C_spot, m2, e1, e2, r], p2, frac_in (by omega) (by omega) dv (by decide), sm_dv (by omega) (by omega) (by omega)⟩
def C_stretch (fd fp fs : PD) (fr fa : PF) (bt : ME) : MS := (sSeq (sSet 1 (mDraw fs (aCons (mC (.int 6)) aNil)))
  (sRet (mTup (aCons (mVar 1) (aCons (mCall fa (aCons (mVar 1) (aCons (mCall fr (aCons (mBin oAdd (mC (.int 1)) (mDraw fd (aCons (mC (.int 9)) aNil))) (aCons (mDraw fp (aCons bt aNil)) aNil))) aNil))) aNil)))))
/-- a drawn stretch -/
structure Str' (low high : Rat) : Prop where
  il : In 12 6 low
  iw : In 6 9 (high - low)
  iv : In 2520 3 (1 / (high - low))
  lt : low < high
  sl : sm low = true
  sh : sm high = true
theorem stretch_ok {fd fp fs : PD} {fr fa : PF} {bt : ME} (hd : DrawOk fd) (hp : PickOk fp) (hr : RedOk2 fr) (ha : Op fa (· + ·)) (B : List Int) (hs : ∀ st, PotOk st → ∃ q st', fs [.int 6] st = .ok (qD q, st') ∧ PotOk st' ∧ In 12 6 q ∧ sm q = true) (hB : ∀ env st, bt env st = .ok (.ow (iL B), st)) (hB0 : B ≠ [] ∧ B.length < 100) (hBr : ∀ b ∈ B, 1 ≤ b ∧ b ≤ 3) (st : Pt) (h1 : PotOk st) :
    ∃ low high st', runD 1 2 (C_stretch fd fp fs fr fa bt) [] st = .ok (.tuple [qD low, qD high], st') ∧ PotOk st' ∧ Str' low high := by
  obtain ⟨low, st1, e1, p1, il, sl⟩ := hs st h1
  obtain ⟨t, st2, e2, t1, t2, p2⟩ := hd 9 st1 (by omega) (by omega) p1
  obtain ⟨y, st3, e3, hy, p3⟩ := hp (iL B) st2 (by simpa [iL] using hB0.1) (by simp [iL]; omega) p2
  obtain ⟨b, hb, rfl⟩ := List.mem_map.mp hy
  obtain ⟨b1, b2⟩ := hBr b hb
  have h999 : (999 : Nat) < 2 ^ 8002 := by decide +kernel
  have r := hr (1 + t) b (by omega) (by omega) (by omega)
  have dv : b.toNat ∣ 6 := by
    have : ∀ k : Nat, k < 4 → 0 < k → k ∣ 6 := by decide
    exact this _ (by omega) (by omega)
  have dv2 : (1 + t).toNat ∣ 2520 := by
    have : ∀ k : Nat, k < 10 → 0 < k → k ∣ 2520 := by decide
    exact this _ (by omega) (by omega)
  have iw : In 6 9 (Rat.divInt (1 + t) b) := frac_in (by omega) b1 dv (by decide)
  have P := ha low (Rat.divInt (1 + t) b) (sm_fit sl) (sm_fit (sm_dv (by omega) (by omega) (by omega)))
  have ih : In 12 15 (low + Rat.divInt (1 + t) b) := il.add (iw.dvd (by decide) (by decide)) (by decide)
  have ew : low + Rat.divInt (1 + t) b - low = Rat.divInt (1 + t) b := by grind
  have pos : 0 < Rat.divInt (1 + t) b := by
    obtain ⟨n, rfl⟩ : ∃ n : Nat, b = n := ⟨b.toNat, by omega⟩
    obtain ⟨k, hk⟩ : ∃ k : Nat, 1 + t = k := ⟨(1 + t).toNat, by omega⟩
    rw [hk, dv_nat]
    have a1 : (0 : Rat) < (k : Rat) := by exact_mod_cast (show 0 < k by omega)
    have a2 : (0 : Rat) < (n : Rat) := by exact_mod_cast (show 0 < n by omega)
    rw [Rat.div_def]
    exact Rat.mul_pos a1 (Rat.inv_pos.mpr a2)
  have iv : In 2520 3 (1 / (low + Rat.divInt (1 + t) b - low)) := by
    rw [ew]
    have e : 1 / Rat.divInt (1 + t) b = Rat.divInt b (1 + t) := by
      rw [Rat.divInt_eq_div, Rat.divInt_eq_div]
      have z1 : ((1 + t : Int) : Rat) ≠ 0 := by
        intro z
        have : 1 + t = 0 := by exact_mod_cast z
        omega
      have z2 : ((b : Int) : Rat) ≠ 0 := by
        intro z
        have : b = 0 := by exact_mod_cast z
        omega
      grind
    rw [e]
    exact frac_in (by omega) (by omega) dv2 (by decide)
  refine ⟨low, low + Rat.divInt (1 + t) b, st3, ?_, p3, il, by rw [ew]; exact iw, iv, by grind, sl, sm_of_in ih (by decide) (by decide) (by decide)⟩
  simp [C_stretch, e1, e2, hB, e3, r, P]
end BP

namespace BP
open PySem
/-! ### how long a repr is -/
mutual
def wt : D → Nat
  | .none => 4
  | .bool _ => 5
  | .int i => i.natAbs.log2 + 2
  | .str x => (PySem.PyData.shown (.str x)).length
  | .list xs => wtAll xs + 2
  | .tuple xs => wtAll xs + 3
  | .dict _ => 2
def wtAll : List D → Nat
  | [] => 0
  | x :: xs => wt x + 2 + wtAll xs
end
theorem nat_len (n : Nat) : (toString n).length ≤ n.log2 + 1 := by
  have h : n < 10 ^ (n.log2 + 1) := by
    refine Nat.lt_of_lt_of_le (Nat.lt_log2_self (n := n)) ?_
    exact Nat.pow_le_pow_left (by decide) _
  have h2 := PySem.toDigits_len_pow (b := 10) (k := n.log2 + 1) (n := n) (by decide) (by omega) h
  have e : (toString n).length = (Nat.toDigits 10 n).length := by
    show (Nat.repr n).length = _
    unfold Nat.repr
    simp
  omega
theorem int_len (i : Int) : (toString i).length ≤ i.natAbs.log2 + 2 := by
  cases i with
  | ofNat n =>
    show (toString n).length ≤ n.log2 + 2
    have := nat_len n
    omega
  | negSucc n =>
    have e : toString (Int.negSucc n) = "-" ++ toString (n + 1) := rfl
    rw [e, String.length_append]
    have := nat_len (n + 1)
    show 1 + _ ≤ (n + 1).log2 + 2
    omega
theorem join_le : ∀ ts : List Str, (Str.join ", " ts).length ≤ piled ts := fun ts => by
  by_cases h : ts = []
  · subst h
    decide +kernel
  · have := join_length_add ts h
    omega
theorem tuple_len (ts : List Str) : (tupleText ts).length ≤ piled ts + 3 := by
  have := join_le ts
  unfold tupleText
  rw [Str.length_append, Str.length_append]
  have h1 : (("(" : Str)).length = 1 := by decide +kernel
  have h2 : ∀ b : Bool, ((if b then ",)" else ")" : String) : Str).length ≤ 2 := by decide +kernel
  have h3 := h2 (ts.length == 1)
  omega
theorem textFrom_le : ∀ (ts : List Str) (k : Nat) (acc : Str), (textFrom k acc ts).length ≤ acc.length + piled ts
  | [], k, acc => by
    show acc.length ≤ _
    omega
  | t :: r, k, acc => by
    have ih := textFrom_le r (k + 1) (acc ++ (if k > 0 then ", " else "" : String) ++ t)
    rw [piled_cons]
    show (textFrom (k + 1) (acc ++ (if k > 0 then ", " else "" : String) ++ t) r).length ≤ _
    rw [Str.length_append, Str.length_append] at ih
    have h2 : ((if k > 0 then ", " else "" : String) : Str).length ≤ 2 := by
      split <;> decide +kernel
    omega
theorem list_len (ts : List Str) : (listText ts).length ≤ piled ts + 2 := by
  have := textFrom_le ts 0 "["
  unfold listText
  rw [Str.length_append]
  have h1 : (("[" : Str)).length = 1 := by decide +kernel
  have h2 : (("]" : Str)).length = 1 := by decide +kernel
  omega
mutual
theorem shown_le : ∀ d : D, noKeys d = true → (PyData.shown d).length ≤ wt d
  | .none, _ => by
    simp only [PyData.shown, wt]
    decide +kernel
  | .bool b, _ => by
    simp only [PyData.shown, wt]
    cases b <;> decide +kernel
  | .int i, _ => by
    simp only [PyData.shown, wt]
    rw [ofString_length]
    exact int_len i
  | .str x, _ => by simp only [wt]; exact Nat.le_refl _
  | .list xs, h => by
    simp only [PyData.shown, wt]
    have := list_len (PyData.shownAll xs)
    have := shownAll_le xs (by simpa [noKeys] using h)
    omega
  | .tuple xs, h => by
    simp only [PyData.shown, wt]
    have := tuple_len (PyData.shownAll xs)
    have := shownAll_le xs (by simpa [noKeys] using h)
    omega
  | .dict [], _ => by
    simp only [PyData.shown, wt, PyData.shownKv]
    decide +kernel
  | .dict (_ :: _), h => by simp [noKeys] at h
theorem shownAll_le : ∀ ds : List D, noKeysAll ds = true → piled (PyData.shownAll ds) ≤ wtAll ds
  | [], _ => by simp [PyData.shownAll, wtAll, piled]
  | d :: ds, h => by
    simp only [noKeysAll, Bool.and_eq_true] at h
    have h1 := shown_le d h.1
    have h2 := shownAll_le ds h.2
    simp only [PyData.shownAll, wtAll]
    rw [piled_cons]
    omega
end
/-- what repr takes, by parts: n bounds its length, k its depth -/
def Tame (n k : Nat) (d : D) : Prop := d.showable = true ∧ noKeys d = true ∧ wt d ≤ n ∧ d.depth ≤ k
def TameAll (n k : Nat) (ds : List D) : Prop := PyData.showableAll ds = true ∧ noKeysAll ds = true ∧ wtAll ds ≤ n ∧ PyData.depthAll ds ≤ k
theorem Tame.repr {n k : Nat} {d : D} (h : Tame n k d) (hn : n ≤ 1000000) (hk : k ≤ 64) : reprOk d = true := by
  obtain ⟨h1, h2, h3, h4⟩ := h
  have := shown_le d h2
  unfold reprOk
  rw [h1, h2, decide_eq_true (show d.shown.length ≤ LIM by show _ ≤ 1000000; omega), decide_eq_true (show d.depth ≤ 64 by omega)]
  rfl
theorem Tame.mono {n m k l : Nat} {d : D} (h : Tame n k d) (h1 : n ≤ m) (h2 : k ≤ l) : Tame m l d := ⟨h.1, h.2.1, Nat.le_trans h.2.2.1 h1, Nat.le_trans h.2.2.2 h2⟩
theorem tameAll_nil : TameAll 0 0 [] := ⟨rfl, rfl, Nat.le_refl _, Nat.le_refl _⟩
theorem TameAll.cons {n m k : Nat} {d : D} {ds : List D} (h : Tame n k d) (t : TameAll m k ds) : TameAll (n + 2 + m) k (d :: ds) := by
  obtain ⟨h1, h2, h3, h4⟩ := h
  obtain ⟨t1, t2, t3, t4⟩ := t
  refine ⟨by simp [PyData.showableAll, h1, t1], by simp [noKeysAll, h2, t2], ?_, ?_⟩
  · simp only [wtAll]; omega
  · simp only [PyData.depthAll]; omega
theorem TameAll.of {n k : Nat} : ∀ {ds : List D}, (∀ d ∈ ds, Tame n k d) → TameAll ((n + 2) * ds.length) k ds
  | [], _ => ⟨rfl, rfl, Nat.zero_le _, Nat.zero_le _⟩
  | d :: ds, h => by
    have ih := TameAll.of fun x hx => h x (List.mem_cons_of_mem _ hx)
    have h2 := TameAll.cons (h d List.mem_cons_self) ih
    rw [List.length_cons, Nat.mul_succ, Nat.add_comm]
    exact h2
theorem TameAll.list {n k : Nat} {ds : List D} (h : TameAll n k ds) : Tame (n + 2) (k + 1) (.list ds) := by
  obtain ⟨t1, t2, t3, t4⟩ := h
  exact ⟨by simpa [PyData.showable] using t1, by simpa [noKeys] using t2, by simp only [wt]; omega, by simp only [PyData.depth]; omega⟩
theorem TameAll.tuple {n k : Nat} {ds : List D} (h : TameAll n k ds) : Tame (n + 3) (k + 1) (.tuple ds) := by
  obtain ⟨t1, t2, t3, t4⟩ := h
  exact ⟨by simpa [PyData.showable] using t1, by simpa [noKeys] using t2, by simp only [wt]; omega, by simp only [PyData.depth]; omega⟩
theorem TameAll.mono {n m k l : Nat} {ds : List D} (h : TameAll n k ds) (h1 : n ≤ m) (h2 : k ≤ l) : TameAll m l ds := ⟨h.1, h.2.1, Nat.le_trans h.2.2.1 h1, Nat.le_trans h.2.2.2 h2⟩
theorem tame_none : Tame 4 0 .none := ⟨rfl, rfl, Nat.le_refl _, Nat.le_refl _⟩
theorem tame_bool (b : Bool) : Tame 5 0 (.bool b) := ⟨rfl, rfl, Nat.le_refl _, Nat.le_refl _⟩
theorem tame_int {i : Int} {k : Nat} (h : i.natAbs < 2 ^ k) (hk : k ≤ 1900) : Tame (k + 2) 0 (.int i) := by
  have l := log2_le h
  refine ⟨?_, rfl, ?_, Nat.le_refl _⟩
  · simp only [PyData.showable]
    exact decide_eq_true (by omega)
  · simp only [wt]
    omega
theorem tame_q {k : Nat} {q : Rat} (h : Qs k q) (hk : k ≤ 1900) : Tame (2 * k + 11) 1 (qD q) := by
  have h1 := tame_int h.1 hk
  have h2 := tame_int (i := (q.den : Int)) (k := k) (by simpa using h.2) hk
  exact (TameAll.tuple (TameAll.cons h1 (TameAll.cons h2 tameAll_nil))).mono (by omega) (by omega)
end BP

namespace BP
/-! ### what the corners say -/
theorem sms_strip {p : List Rat} (h : p.all sm = true) : (strip p).all sm = true := List.all_eq_true.mpr fun a ha => List.all_eq_true.mp h a (mem_strip ha)
theorem corners_ex {d : D} {p : List Rat} {low high : Rat} {size : Nat} (hd : Row d p) (hl : p.length ≤ 5) (hs : p.all sm = true) (h1 : sm low = true) (h2 : sm high = true) (h : low < high) (hz : size ≤ 8) (hlen : (strip p).length ≤ size + 1) :
    ∃ U, Unit' p low (high - low) U ∧ U.length ≤ (strip p).length ∧ F_corners [d, .tuple [qD low, qD high], .int (size : Int)] = .ok (pL (corn U size)) ∧ V_corners [d, .tuple [qD low, qD high], .int (size : Int)] = .ok (pD (corn U size)) := by
  have cs : Cap LC 999 := by constructor <;> decide +kernel
  have cw : Cap LC 1998 := by constructor <;> decide +kernel
  have c1 : Cap (LC * LC ^ 6) (999 * ((2 * 5 + 1) * 999 + 1) ^ 6) := by constructor <;> decide +kernel
  have c2 : Cap (LC * LC ^ 5 * LC ^ 5 * 840) (10 * (999 * ((2 * 5 + 1) * 999 + 1) ^ 5 * 1998 ^ 5)) := by constructor <;> decide +kernel
  have := strip_le p
  obtain ⟨U, hU, _, _⟩ := corners_of_ok (pD (strip p)) (strip p) low high LC 999 LC 999 LC 1998 5 size (Row.l _) (by omega) (by omega) LC_pos (by omega) LC_pos (by omega) LC_pos (by omega) (sms_in (sms_strip hs)) (sm_in h1) (sm_fit h2) (wide_in h1 h2) hz c1 cs cw c2
  have hU2 : Unit' p low (high - low) U := ⟨hU.told, by have := hU.len; omega, fun t => by rw [hU.ev, ev_strip]⟩
  exact ⟨U, hU2, hU.len, corners_at_ok hd hl hs h1 h2 h hz hlen hU2⟩
theorem co_corn {U : List Rat} {n i : Nat} (h : i ≤ n) : co (corn U n) i = crn (co U) n i := by
  unfold corn
  rw [co_tab, if_pos (by omega)]
theorem corn_len (U : List Rat) (n : Nat) : (corn U n).length = n + 1 := by simp [corn]
theorem bern_corn (U : List Rat) (n : Nat) (hn : n ≤ 8) (hl : U.length ≤ n + 1) (u : Rat) : bern (co (corn U n)) n u = ev U u := by
  have e : bern (co (corn U n)) n u = bern (crn (co U) n) n u := su_congr fun k hk => by
    rw [co_corn (by omega)]
  rw [e, bern_crn _ _ _ hn, ← ev_co u U (n + 1) hl]
theorem rat_self {n k : Nat} (hn : n ≤ 8) (hk : k ≤ n) : rat n n k = 1 := by
  have := nz (ch_pos (n := n) (by omega) hk)
  unfold rat
  grind
theorem rat_0 (n i : Nat) : rat n i 0 = 1 := by
  have e : ∀ n, ch n 0 = 1 := fun n => by cases n <;> rfl
  unfold rat
  rw [e, e]
  grind
theorem crn_0 (U : List Rat) (n : Nat) : crn (co U) n 0 = ev U 0 := by
  rw [crn_eq]
  cases U with
  | nil => simp [su]; grind
  | cons a U => simp [su, rat_0]; grind
theorem crn_n (U : List Rat) (n : Nat) (hn : n ≤ 8) (hl : U.length ≤ n + 1) : crn (co U) n n = ev U 1 := by
  rw [crn_eq, ev_co 1 U (n + 1) hl]
  exact su_congr fun k hk => by rw [rat_self hn (by omega), one_pow']
theorem at_m1 (U : List Rat) (n : Nat) : atD (pL (corn U n)) (-1) = some (qD (crn (co U) n n)) := by
  unfold corn
  rw [tab_succ, pL_app]
  exact at_last _ _
theorem at_f0 (U : List Rat) (n : Nat) : atD (pL (corn U n)) 0 = some (qD (crn (co U) n 0)) := by
  have := co_at (corn U n) 0 (by rw [corn_len]; omega)
  rw [co_corn (by omega)] at this
  exact this
/-- the law's corners of a drawn poly -/
theorem due_ok {p U : List Rat} {low high : Rat} {s : Nat} (hl : p.length ≤ 5) (ip : Inp 6 9 p) (S : Str' low high) (hs : s ≤ 8) (ls : (strip p).length ≤ s + 1) (hU : Unit' p low (high - low) U) :
    F__law_corners [pD (strip p), .tuple [qD low, qD high], .int (s : Int)] = .ok (pD (corn U s)) := by
  have := strip_le p
  obtain ⟨V, hV, e⟩ := l_corners_ok (strip p) low high 6 9 12 9 5 s (by omega) (by omega) (by omega) (by omega) (by omega) (by omega) ip.strip (S.il.mono (by omega)) (sm_fit S.sh) (S.iw.dvd (by decide) (by decide)) hs ls (by constructor <;> decide +kernel)
  have : V = U := told_ext hV.told hU.told fun x => by rw [hV.ev, hU.ev, ev_strip]
  rw [← this]
  exact e
/-- the corners' own size -/
theorem due_in {p U : List Rat} {low high : Rat} {s : Nat} (hl : p.length ≤ 5) (ip : Inp 6 9 p) (S : Str' low high) (hs : s ≤ 8) (hU : Unit' p low (high - low) U) :
    Inp (6 * 12 ^ 5 * 6 ^ 5 * 840) (9 * (9 * ((2 * 5 + 1) * 6 + 1) ^ 5 * 9 ^ 5)) (corn U s) := by
  obtain ⟨V, hV, _, iV⟩ := corners_of_ok (pD p) p low high 6 9 12 6 6 9 5 s (Row.l _) hl (by omega) (by omega) (by omega) (by omega) (by omega) (by omega) (by omega) ip S.il (sm_fit S.sh) S.iw hs (by constructor <;> decide +kernel) (by constructor <;> decide +kernel) (by constructor <;> decide +kernel) (by constructor <;> decide +kernel)
  have : V = U := told_ext hV.told hU.told fun x => by rw [hV.ev, hU.ev]
  rw [this] at iV
  intro a ha
  obtain ⟨k, hk, rfl⟩ := mem_tab ha
  exact (crn_in (by decide) iV hs (i := k) (by omega) (j := k + 1) (Nat.le_refl _)).mono (Nat.mul_le_mul_right _ (by omega))
/-- the law's poly of the corners is the poly -/
theorem back_ok {p U : List Rat} {low high : Rat} {s : Nat} (hl : p.length ≤ 5) (ip : Inp 6 9 p) (S : Str' low high) (hs : s ≤ 8) (hU : Unit' p low (high - low) U) (lU : U.length ≤ s + 1) :
    F__law_poly_of [pD (corn U s), .tuple [qD low, qD high]] = .ok (pD (strip p)) := by
  have fw : Fit (high - low) := (wide_in S.sl S.sh).fit LC_pos (by constructor <;> decide +kernel)
  obtain ⟨r, e, r1, r2, ri, r3⟩ := l_poly_of_ok (corn U s) low high (6 * 12 ^ 5 * 6 ^ 5 * 840) (9 * (9 * ((2 * 5 + 1) * 6 + 1) ^ 5 * 9 ^ 5)) 12 15 2520 3 (by rw [corn_len]; omega) (by rw [corn_len]; omega) (by decide) (by decide) (by decide) (by decide) (by decide) (by decide) (due_in hl ip S hs hU) (S.il.mono (by omega)) (by
      have := S.il.add (S.iw.dvd (k := 12) (by decide) (by decide)) (by decide)
      have e : low + (high - low) = high := by grind
      rwa [e] at this) fw (lt_ne S.lt) S.iv (by constructor <;> decide +kernel) (by constructor <;> decide +kernel) (by constructor <;> decide +kernel)
  rw [e]
  congr 2
  refine told_ext r1 (strip_strip p) fun t => ?_
  rw [r3, corn_len, Nat.add_sub_cancel, bern_corn U s hs lU, hU.ev, ev_strip]
  congr 1
  have := lt_ne S.lt
  grind
/-- the program's too, if all are small -/
theorem back_at_ok {d : D} {p U : List Rat} {low high : Rat} {s : Nat} (hd : Row d (corn U s)) (S : Str' low high) (hs : s ≤ 8) (hU : Unit' p low (high - low) U) (lU : U.length ≤ s + 1) (hsm : (corn U s).all sm = true) :
    F_poly_of [d, .tuple [qD low, qD high]] = .ok (pD (strip p)) := by
  obtain ⟨r, e, r1, r2, r3⟩ := poly_of_at_ok hd (by rw [corn_len]; omega) (by rw [corn_len]; omega) hsm S.sl S.sh S.lt
  rw [e]
  congr 2
  refine told_ext r1 (strip_strip p) fun t => ?_
  rw [r3, corn_len, Nat.add_sub_cancel, bern_corn U s hs lU, hU.ev, ev_strip]
  congr 1
  have := lt_ne S.lt
  grind
/-- the poly of a drawn row: the program's and the law's -/
theorem own_ok {row : List Rat} {low high : Rat} (hl1 : 1 ≤ row.length) (hl : row.length ≤ 8) (ir : Inp 6 40 row) (hs : row.all sm = true) (S : Str' low high) :
    ∃ own, F__law_poly_of [pD row, .tuple [qD low, qD high]] = .ok (pD own) ∧ (∀ d, Row d row → F_poly_of [d, .tuple [qD low, qD high]] = .ok (pD own)) ∧ strip own = own ∧ own.length ≤ row.length ∧ Inp (6 * (12 * 2520) ^ 9) (9 * (40 * 70 * (21 * 15 * 3) ^ 9)) own ∧ ∀ t : Rat, ev own t = bern (co row) (row.length - 1) ((t - low) / (high - low)) := by
  have fw : Fit (high - low) := (wide_in S.sl S.sh).fit LC_pos (by constructor <;> decide +kernel)
  obtain ⟨r, e, r1, r2, ri, r3⟩ := l_poly_of_ok row low high 6 40 12 15 2520 3 hl1 (by omega) (by decide) (by decide) (by decide) (by decide) (by decide) (by decide) ir (S.il.mono (by omega)) (by
      have := S.il.add (S.iw.dvd (k := 12) (by decide) (by decide)) (by decide)
      have e : low + (high - low) = high := by grind
      rwa [e] at this) fw (lt_ne S.lt) S.iv (by constructor <;> decide +kernel) (by constructor <;> decide +kernel) (by constructor <;> decide +kernel)
  refine ⟨r, e, fun d hd => ?_, r1, r2, ri, r3⟩
  obtain ⟨q, e2, q1, q2, q3⟩ := poly_of_at_ok hd hl1 (by omega) hs S.sl S.sh S.lt
  rw [e2]
  congr 2
  exact told_ext q1 r1 fun t => by rw [q3, r3]
/-- the corners of a row's poly are the row -/
theorem row_back {row own U : List Rat} {low high : Rat} (hl1 : 1 ≤ row.length) (hl : row.length ≤ 9) (hne : high - low ≠ 0) (ho : ∀ t : Rat, ev own t = bern (co row) (row.length - 1) ((t - low) / (high - low))) (hU : Unit' own low (high - low) U) : corn U (row.length - 1) = row := by
  obtain ⟨n, hn⟩ : ∃ n, row.length = n + 1 := ⟨row.length - 1, by omega⟩
  rw [hn, Nat.add_sub_cancel] at ho ⊢
  have e : U = strip (tab (uni (co row) n) (n + 1)) := told_ext hU.told (strip_strip _) fun u => by
    rw [hU.ev, ho, ev_strip, ev_co u (tab (uni (co row) n) (n + 1)) (n + 1) (by simp)]
    have e1 : (low + (high - low) * u - low) / (high - low) = u := by grind
    rw [e1, ← bern_uni _ _ _ (by omega)]
    refine su_congr fun k hk => ?_
    rw [co_tab, if_pos hk]
  have ec : ∀ k, k ≤ n → co U k = uni (co row) n k := fun k hk => by
    rw [e, co_strip, co_tab, if_pos (by omega)]
  unfold corn
  refine (tab_ext hn fun k hk => ?_).symm
  rw [← crn_uni (co row) n (by omega) k (by omega)]
  exact su_congr fun j hj => by rw [ec j (by omega)]
/-- two together -/
theorem corn_add {p q r U V W : List Rat} {low w : Rat} {s : Nat} (hU : Unit' p low w U) (hV : Unit' q low w V) (hW : Unit' r low w W) (h : ∀ t : Rat, ev r t = ev p t + ev q t) : List.zipWith (· + ·) (corn U s) (corn V s) = corn W s := by
  have e : W = strip (padd U V) := told_ext hW.told (strip_strip _) fun t => by rw [hW.ev, h, ev_strip, ev_padd, hU.ev, hV.ev]
  refine tab_ext (by simp [corn_len]) fun k hk => ?_
  have e2 : co (List.zipWith (· + ·) (corn U s) (corn V s)) k = crn (co U) s k + crn (co V) s k := by
    rw [← co_corn (U := U) (i := k) (by omega), ← co_corn (U := V) (i := k) (by omega)]
    have l1 := corn_len U s
    have l2 := corn_len V s
    simp [co, List.getElem?_zipWith, l1, l2, hk]
  rw [e2, crn_eq, crn_eq, crn_eq, ← su_add]
  refine su_congr fun j hj => ?_
  rw [e, co_strip, co_padd]
  grind
theorem rat_51 {i : Nat} (h : i ≤ 5) : rat 5 i 1 = (i : Rat) / 5 := by
  have e : ∀ i, ch i 1 = i := fun i => by
    induction i with
    | zero => rfl
    | succ i ih =>
      have e0 : ch i 0 = 1 := by cases i <;> rfl
      rw [ch, ih, e0]
      omega
  unfold rat
  rw [e, e]
  rfl
/-! reprs of rows -/
theorem tame_p {n m : Nat} {p : List Rat} (h0 : 0 < n) (h : Inp n m p) (hl : p.length ≤ 10) (h1 : n < 2 ^ 1900) (h2 : m * n < 2 ^ 1900) : Tame 50000 2 (pD p) := by
  have t : TameAll ((2 * 1900 + 11 + 2) * (pL p).length) 1 (pL p) := TameAll.of fun d hd => by
    obtain ⟨q, hq, rfl⟩ := List.mem_map.mp hd
    exact tame_q ((h q hq).qs h0 h1 h2) (by decide)
  refine t.list.mono ?_ (by decide)
  rw [pL_len]
  omega
theorem repr_two {d : D} (h : Tame 50000 2 d) : reprOk (.list [d, d]) = true :=
  (TameAll.cons h (TameAll.cons h (tameAll_nil.mono (Nat.zero_le 0) (by decide)))).list.repr (by decide) (by decide)
theorem lst_sm : ∀ (p : List Rat) (f : Rat), (sm f && p.all sm) = true → sm (lstR f p) = true
  | [], f, h => by simpa [lstR] using h
  | a :: p, f, h => by
    simp only [List.all_cons, Bool.and_eq_true] at h
    rw [lstR]
    refine lst_sm p _ ?_
    rw [Bool.and_eq_true]
    refine ⟨?_, h.2.2⟩
    split
    · exact h.2.1
    · exact h.1
theorem grt_sm : ∀ (p : List Rat) (f : Rat), (sm f && p.all sm) = true → sm (grtR f p) = true
  | [], f, h => by simpa [grtR] using h
  | a :: p, f, h => by
    simp only [List.all_cons, Bool.and_eq_true] at h
    rw [grtR]
    refine grt_sm p _ ?_
    rw [Bool.and_eq_true]
    refine ⟨?_, h.2.2⟩
    split
    · exact h.2.1
    · exact h.1
end BP

namespace BP
/-! ### sums of lists, derived polys, products power by power -/
def sumL : List Rat → Rat
  | [] => 0
  | a :: p => a + sumL p
theorem sumL_app : ∀ (p q : List Rat), sumL (p ++ q) = sumL p + sumL q
  | [], q => by simp [sumL]; grind
  | a :: p, q => by
    simp only [List.cons_append, sumL, sumL_app p q]
    grind
theorem sumL_map (f : Nat → Rat) : ∀ n, sumL ((List.range n).map f) = su f n
  | 0 => rfl
  | n + 1 => by
    rw [List.range_succ, List.map_append, sumL_app, sumL_map f n, su]
    simp [sumL]
    grind
/-- derived: number k times its place, one place down -/
def dv : List Rat → List Rat := fun p => ((List.range p.length).map fun k : Nat => (k : Rat) * co p k).tail
theorem co_mapR (f : Nat → Rat) (n k : Nat) : co ((List.range n).map f) k = if k < n then f k else 0 := by
  unfold co
  split
  · rename_i h
    simp [h]
  · rename_i h
    simp [h]
theorem co_tail (p : List Rat) (k : Nat) : co p.tail k = co p (k + 1) := by
  cases p with
  | nil => simp
  | cons a p => simp
theorem co_out {p : List Rat} {k : Nat} (h : p.length ≤ k) : co p k = 0 := by
  simp only [co, List.getD_eq_getElem?_getD, List.getElem?_eq_none h, Option.getD_none]
theorem co_dv (p : List Rat) (k : Nat) : co (dv p) k = ((k + 1 : Nat) : Rat) * co p (k + 1) := by
  unfold dv
  rw [co_tail, co_mapR]
  split
  · rfl
  · rename_i h
    rw [co_out (by omega)]
    grind
theorem dv_len (p : List Rat) : (dv p).length = p.length - 1 := by simp [dv]
/-- its value: by the number in front and the rest -/
theorem ev_of_co (x : Rat) {p q : List Rat} (h : ∀ k, co p k = co q k) : ev p x = ev q x := by
  rw [← ev_strip p, ← ev_strip q, strip_eq_of p q h]
theorem ev_dv_cons (a : Rat) (p : List Rat) (x : Rat) : ev (dv (a :: p)) x = ev p x + x * ev (dv p) x := by
  have e : ev (dv (a :: p)) x = ev (padd p (0 :: dv p)) x := ev_of_co x fun k => by
    rw [co_dv, co_padd, co_consS]
    cases k with
    | zero =>
      rw [co_cons0]
      push_cast
      grind
    | succ k =>
      rw [co_consS, co_dv]
      push_cast
      grind
  rw [e, ev_padd, ev_cons]
  grind
theorem ev_dv_padd (x : Rat) (p q : List Rat) : ev (dv (padd p q)) x = ev (dv p) x + ev (dv q) x := by
  rw [← ev_padd]
  refine ev_of_co x fun k => ?_
  rw [co_dv, co_padd, co_padd, co_dv, co_dv]
  grind
theorem ev_dv_pmulc (c x : Rat) (p : List Rat) : ev (dv (pmulc c p)) x = c * ev (dv p) x := by
  rw [← ev_pmulc]
  refine ev_of_co x fun k => ?_
  rw [co_dv, co_pmulc, co_pmulc, co_dv]
  grind
theorem ev_dv_strip (x : Rat) {p q : List Rat} (h : strip p = strip q) : ev (dv p) x = ev (dv q) x := by
  refine ev_of_co x fun k => ?_
  rw [co_dv, co_dv, ← co_strip p, ← co_strip q, h]
end BP

namespace BP2
open BP
open PySem (Str Stmt)
def fuel_told_of_1 : Env → Nat := fuelV 1
def b_told_of_1 : MS := (sPop 1)
def m_told_of : MS := (sSeq (sOwn 1 (mB bList (vCons (mVar 0) vNil)))
  (sSeq (sWhile fuel_told_of_1 (mAnd (mBin oNe (mVar 1) (mLst aNil)) (mBin oEq (mBin oIx (mVar 1) (mUn oNeg (mC (.int 1)))) (mC (.tuple [(.int 0), (.int 1)])))) b_told_of_1)
  (sRetOwn 1)))
def F_told_of : PFo := runPo 1 2 m_told_of
def V_told_of : PF := fun ds => (F_told_of ds).bind fun es => .ok (.list es)
def m_derived_of : MS := (sRetF (mCallO F_told_of (aCons (mCut (mLc (iEnumL (mVar 0)) (.tp [(.nm 1), (.nm 2)]) [1, 2] (mC (.bool true)) (mCall F_multiply (aCons (mVar 2) (aCons (mTup (aCons (mVar 1) (aCons (mC (.int 1)) aNil))) aNil)))) (oSome (mC (.int 1))) oNone) aNil)))
def F_derived_of : PFo := runPo 1 3 m_derived_of
def V_derived_of : PF := fun ds => (F_derived_of ds).bind fun es => .ok (.list es)
def m_derived : MS := (sSeq (sExpr (mCall F_check_poly (aCons (mVar 0) aNil)))
  (sRetF (mCallO F_derived_of (aCons (mVar 0) aNil))))
def F_derived : PFo := runPo 1 1 m_derived
def V_derived : PF := fun ds => (F_derived ds).bind fun es => .ok (.list es)
def m_summed_of : MS := (sRet (mCall V_told_of (aCons (mBin oAdd (mLst (aCons (mC (.tuple [(.int 0), (.int 1)])) aNil)) (mLc (iEnumL (mVar 0)) (.tp [(.nm 1), (.nm 2)]) [1, 2] (mC (.bool true)) (mCall F_divide (aCons (mVar 2) (aCons (mTup (aCons (mBin oAdd (mVar 1) (mC (.int 1))) (aCons (mC (.int 1)) aNil))) aNil))))) aNil)))
def F_summed_of : PF := runP 1 3 m_summed_of
def m_summed : MS := (sSeq (sExpr (mCall F_check_poly (aCons (mVar 0) aNil)))
  (sRet (mCall F_summed_of (aCons (mVar 0) aNil))))
def F_summed : PF := runP 1 1 m_summed
def m_plus_of : MS := (sSeq (sSet 2 (mB bMax (vCons (mB bLen (vCons (mVar 0) vNil)) (vCons (mB bLen (vCons (mVar 1) vNil)) vNil))))
  (sSeq (sPar2 3 4 false false (mBin oAdd (mB bList (vCons (mVar 0) vNil)) (mBin oMul (mLst (aCons (mC (.tuple [(.int 0), (.int 1)])) aNil)) (mBin oSub (mVar 2) (mB bLen (vCons (mVar 0) vNil))))) (mBin oAdd (mB bList (vCons (mVar 1) vNil)) (mBin oMul (mLst (aCons (mC (.tuple [(.int 0), (.int 1)])) aNil)) (mBin oSub (mVar 2) (mB bLen (vCons (mVar 1) vNil))))))
  (sRet (mCall V_told_of (aCons (mLc (iZipS (mVar 3) (mVar 4)) (.tp [(.nm 5), (.nm 6)]) [5, 6] (mC (.bool true)) (mCall F_add (aCons (mVar 5) (aCons (mVar 6) aNil)))) aNil)))))
def F_plus_of : PF := runP 2 7 m_plus_of
def b_times_of_1 : MS := (sSetI 2 (mBin oAdd (mVar 3) (mVar 5)) (mCall F_add (aCons (mBin oIx (mVar 2) (mBin oAdd (mVar 3) (mVar 5))) (aCons (mCall F_multiply (aCons (mVar 4) (aCons (mVar 6) aNil))) aNil))))
def b_times_of_2 : MS := (sFor (iEnumL (mVar 1)) (.tp [(.nm 5), (.nm 6)]) b_times_of_1)
def m_times_of : MS := (sSeq (sOwn 2 (mBin oMul (mLst (aCons (mC (.tuple [(.int 0), (.int 1)])) aNil)) (mBin oAdd (mB bLen (vCons (mVar 0) vNil)) (mB bLen (vCons (mVar 1) vNil)))))
  (sSeq (sFor (iEnumL (mVar 0)) (.tp [(.nm 3), (.nm 4)]) b_times_of_2)
  (sFrz 2 (sRet (mCall V_told_of (aCons (mVar 2) aNil))))))
def F_times_of : PF := runP 2 7 m_times_of
def b_moved_of_1 : MS := (sSet 2 (mCall F_plus_of (aCons (mCall F_times_of (aCons (mVar 2) (aCons (mLst (aCons (mVar 1) (aCons (mTup (aCons (mC (.int 1)) (aCons (mC (.int 1)) aNil))) aNil))) aNil))) (aCons (mLst (aCons (mVar 3) aNil)) aNil))))
def m_moved_of : MS := (sSeq (sSet 2 (mLst aNil))
  (sSeq (sFor (iSeq (mUn revLO (mB bList (vCons (mVar 0) vNil)))) (.nm 3) b_moved_of_1)
  (sRet (mVar 2))))
def F_moved_of : PF := runP 2 4 m_moved_of
def m_moved : MS := (sSeq (sExpr (mCall F_check_poly (aCons (mVar 0) aNil)))
  (sSeq (sExpr (mCall F_check_spot (aCons (mVar 1) aNil)))
  (sRet (mCall F_moved_of (aCons (mVar 0) (aCons (mVar 1) aNil))))))
def F_moved : PF := runP 2 2 m_moved
def m_check_fraction : MS := (sIf (mUn oNot (mCall F_is_small (aCons (mVar 0) aNil))) sNever sNil)
def F_check_fraction : PF := runP 1 1 m_check_fraction
def b_stretched_of_1 : MS := (sSeq (sAppend 2 (mCall F_multiply (aCons (mVar 4) (aCons (mVar 3) aNil))))
  (sSet 3 (mCall F_multiply (aCons (mVar 3) (aCons (mVar 1) aNil)))))
def m_stretched_of : MS := (sSeq (sPar2 2 3 true false (mLst aNil) (mTup (aCons (mC (.int 1)) (aCons (mC (.int 1)) aNil))))
  (sSeq (sFor (iSeq (mVar 0)) (.nm 4) b_stretched_of_1)
  (sFrz 2 (sRet (mCall V_told_of (aCons (mVar 2) aNil))))))
def F_stretched_of : PF := runP 2 5 m_stretched_of
def m_stretched : MS := (sSeq (sExpr (mCall F_check_poly (aCons (mVar 0) aNil)))
  (sSeq (sExpr (mCall F_check_fraction (aCons (mVar 1) aNil)))
  (sRet (mCall F_stretched_of (aCons (mVar 0) (aCons (mVar 1) aNil))))))
def F_stretched : PF := runP 2 2 m_stretched
def fuel__law_divisor_1 : Env → Nat := fuelV 1
def b__law_divisor_1 : MS := (sPar2 0 1 false false (mVar 1) (mBin oMod (mB bInt (vCons (mVar 0) vNil)) (mVar 1)))
def m__law_divisor : MS := (sSeq (sWhile fuel__law_divisor_1 (mBin oGt (mVar 1) (mC (.int 0))) b__law_divisor_1)
  (sRet (mVar 0)))
def F__law_divisor : PF := runP 2 2 m__law_divisor
def m__law_cut : MS := (sSeq (sIf (mBin oLt (mVar 1) (mC (.int 0))) (sPar2 0 1 false false (mBin oSub (mC (.int 0)) (mVar 0)) (mBin oSub (mC (.int 0)) (mVar 1))) sNil)
  (sSeq (sSet 2 (mCall F__law_divisor (aCons (mB bAbs (vCons (mVar 0) vNil)) (aCons (mVar 1) aNil))))
  (sRet (mTup (aCons (mBin oDiv (mVar 0) (mVar 2)) (aCons (mBin oDiv (mVar 1) (mVar 2)) aNil))))))
def F__law_cut : PF := runP 2 3 m__law_cut
def m_plus : MS := (sSeq (sExpr (mCall F_check_polys (aCons (mVar 0) (aCons (mVar 1) aNil))))
  (sRet (mCall F_plus_of (aCons (mVar 0) (aCons (mVar 1) aNil)))))
def F_plus : PF := runP 2 2 m_plus
def m_minus_of : MS := (sRet (mCall F_plus_of (aCons (mVar 0) (aCons (mLc (iSeq (mVar 1)) (.nm 2) [2] (mC (.bool true)) (mCall F_turned (aCons (mVar 2) aNil))) aNil))))
def F_minus_of : PF := runP 2 3 m_minus_of
def m_minus : MS := (sSeq (sExpr (mCall F_check_polys (aCons (mVar 0) (aCons (mVar 1) aNil))))
  (sRet (mCall F_minus_of (aCons (mVar 0) (aCons (mVar 1) aNil)))))
def F_minus : PF := runP 2 2 m_minus
def m_times : MS := (sSeq (sExpr (mCall F_check_polys (aCons (mVar 0) (aCons (mVar 1) aNil))))
  (sRet (mCall F_times_of (aCons (mVar 0) (aCons (mVar 1) aNil)))))
def F_times : PF := runP 2 2 m_times
def m__law_plus : MS := (sRet (mCall F__law_cut (aCons (mBin oAdd (mBin oMul (mBin oIx (mVar 0) (mC (.int 0))) (mBin oIx (mVar 1) (mC (.int 1)))) (mBin oMul (mBin oIx (mVar 1) (mC (.int 0))) (mBin oIx (mVar 0) (mC (.int 1))))) (aCons (mBin oMul (mBin oIx (mVar 0) (mC (.int 1))) (mBin oIx (mVar 1) (mC (.int 1)))) aNil))))
def F__law_plus : PF := runP 2 2 m__law_plus
def m__law_less : MS := (sRet (mCall F__law_cut (aCons (mBin oSub (mBin oMul (mBin oIx (mVar 0) (mC (.int 0))) (mBin oIx (mVar 1) (mC (.int 1)))) (mBin oMul (mBin oIx (mVar 1) (mC (.int 0))) (mBin oIx (mVar 0) (mC (.int 1))))) (aCons (mBin oMul (mBin oIx (mVar 0) (mC (.int 1))) (mBin oIx (mVar 1) (mC (.int 1)))) aNil))))
def F__law_less : PF := runP 2 2 m__law_less
def m__law_times : MS := (sRet (mCall F__law_cut (aCons (mBin oMul (mBin oIx (mVar 0) (mC (.int 0))) (mBin oIx (mVar 1) (mC (.int 0)))) (aCons (mBin oMul (mBin oIx (mVar 0) (mC (.int 1))) (mBin oIx (mVar 1) (mC (.int 1)))) aNil))))
def F__law_times : PF := runP 2 2 m__law_times
def b__law_total_1 : MS := (sSet 1 (mCall F__law_plus (aCons (mVar 1) (aCons (mVar 2) aNil))))
def m__law_total : MS := (sSeq (sSet 1 (mTup (aCons (mC (.int 0)) (aCons (mC (.int 1)) aNil))))
  (sSeq (sFor (iSeq (mVar 0)) (.nm 2) b__law_total_1)
  (sRet (mVar 1))))
def F__law_total : PF := runP 1 3 m__law_total
def b__law_power_1 : MS := (sSet 2 (mCall F__law_times (aCons (mVar 2) (aCons (mVar 0) aNil))))
def m__law_power : MS := (sSeq (sSet 2 (mTup (aCons (mC (.int 1)) (aCons (mC (.int 1)) aNil))))
  (sSeq (sFor (iRange1 (mVar 1)) (.nm 3) b__law_power_1)
  (sRet (mVar 2))))
def F__law_power : PF := runP 2 4 m__law_power
def m__law_value : MS := (sRet (mCall F__law_total (aCons (mLc (iEnumL (mVar 0)) (.tp [(.nm 2), (.nm 3)]) [2, 3] (mC (.bool true)) (mCall F__law_times (aCons (mVar 3) (aCons (mCall F__law_power (aCons (mVar 1) (aCons (mVar 2) aNil))) aNil)))) aNil)))
def F__law_value : PF := runP 2 4 m__law_value
def b__law_sum_1 : MS := (sAppend 2 (mCall F__law_total (aCons (mBin oAdd (mB bList (vCons (mCut (mVar 0) (oSome (mVar 3)) (oSome (mBin oAdd (mVar 3) (mC (.int 1))))) vNil)) (mB bList (vCons (mCut (mVar 1) (oSome (mVar 3)) (oSome (mBin oAdd (mVar 3) (mC (.int 1))))) vNil))) aNil)))
def m__law_sum : MS := (sSeq (sOwn 2 (mLst aNil))
  (sSeq (sFor (iRange1 (mB bMax (vCons (mB bLen (vCons (mVar 0) vNil)) (vCons (mB bLen (vCons (mVar 1) vNil)) vNil)))) (.nm 3) b__law_sum_1)
  (sFrz 2 (sRet (mCall F__law_told (aCons (mVar 2) aNil))))))
def F__law_sum : PF := runP 2 4 m__law_sum
def b__law_product_1 : MS := (sAppend 2 (mCall F__law_total (aCons (mLc (iRange1 (mB bLen (vCons (mVar 0) vNil))) (.nm 4) [4] (mChain oLe oLt (mC (.int 0)) (mBin oSub (mVar 3) (mVar 4)) (mB bLen (vCons (mVar 1) vNil))) (mCall F__law_times (aCons (mBin oIx (mVar 0) (mVar 4)) (aCons (mBin oIx (mVar 1) (mBin oSub (mVar 3) (mVar 4))) aNil)))) aNil)))
def m__law_product : MS := (sSeq (sOwn 2 (mLst aNil))
  (sSeq (sFor (iRange1 (mBin oAdd (mB bLen (vCons (mVar 0) vNil)) (mB bLen (vCons (mVar 1) vNil)))) (.nm 3) b__law_product_1)
  (sFrz 2 (sRet (mCall F__law_told (aCons (mVar 2) aNil))))))
def F__law_product : PF := runP 2 5 m__law_product
def m__law_scaled : MS := (sRet (mCall F__law_told (aCons (mLc (iSeq (mVar 0)) (.nm 2) [2] (mC (.bool true)) (mCall F__law_times (aCons (mVar 2) (aCons (mVar 1) aNil)))) aNil)))
def F__law_scaled : PF := runP 2 3 m__law_scaled
def m__law_derived : MS := (sRet (mCall F__law_told (aCons (mCut (mLc (iEnumL (mVar 0)) (.tp [(.nm 1), (.nm 2)]) [1, 2] (mC (.bool true)) (mCall F__law_times (aCons (mTup (aCons (mVar 1) (aCons (mC (.int 1)) aNil))) (aCons (mVar 2) aNil)))) (oSome (mC (.int 1))) oNone) aNil)))
def F__law_derived : PF := runP 1 3 m__law_derived
def m_scaled_of : MS := (sRet (mCall V_told_of (aCons (mLc (iSeq (mVar 0)) (.nm 2) [2] (mC (.bool true)) (mCall F_multiply (aCons (mVar 2) (aCons (mVar 1) aNil)))) aNil)))
def F_scaled_of : PF := runP 2 3 m_scaled_of
def m_scaled : MS := (sSeq (sExpr (mCall F_check_poly (aCons (mVar 0) aNil)))
  (sSeq (sExpr (mCall F_check_fraction (aCons (mVar 1) aNil)))
  (sRet (mCall F_scaled_of (aCons (mVar 0) (aCons (mVar 1) aNil))))))
def F_scaled : PF := runP 2 2 m_scaled
def m__law_over : MS := (sRet (mCall F__law_cut (aCons (mBin oMul (mBin oIx (mVar 0) (mC (.int 0))) (mBin oIx (mVar 1) (mC (.int 1)))) (aCons (mBin oMul (mBin oIx (mVar 0) (mC (.int 1))) (mBin oIx (mVar 1) (mC (.int 0)))) aNil))))
def F__law_over : PF := runP 2 2 m__law_over
def m__law_summed : MS := (sRet (mCall F__law_told (aCons (mBin oAdd (mLst (aCons (mTup (aCons (mC (.int 0)) (aCons (mC (.int 1)) aNil))) aNil)) (mLc (iEnumL (mVar 0)) (.tp [(.nm 1), (.nm 2)]) [1, 2] (mC (.bool true)) (mCall F__law_over (aCons (mVar 2) (aCons (mTup (aCons (mBin oAdd (mVar 1) (mC (.int 1))) (aCons (mC (.int 1)) aNil))) aNil))))) aNil)))
def F__law_summed : PF := runP 1 3 m__law_summed
def m_area_of : MS := (sSeq (sSet 3 (mCall F_summed_of (aCons (mVar 0) aNil)))
  (sRet (mCall F_take (aCons (mCall F_value_of (aCons (mVar 3) (aCons (mVar 2) aNil))) (aCons (mCall F_value_of (aCons (mVar 3) (aCons (mVar 1) aNil))) aNil)))))
def F_area_of : PF := runP 3 4 m_area_of
def m_area : MS := (sSeq (sExpr (mCall F_check_poly (aCons (mVar 0) aNil)))
  (sSeq (sExpr (mCall F_check_stretch (aCons (mVar 1) aNil)))
  (sRet (mCall F_area_of (aCons (mVar 0) (aCons (mBin oIx (mVar 1) (mC (.int 0))) (aCons (mBin oIx (mVar 1) (mC (.int 1))) aNil)))))))
def F_area : PF := runP 2 2 m_area
def m__law_below : MS := (sRet (mBin oLt (mBin oMul (mBin oIx (mVar 0) (mC (.int 0))) (mBin oIx (mVar 1) (mC (.int 1)))) (mBin oMul (mBin oIx (mVar 1) (mC (.int 0))) (mBin oIx (mVar 0) (mC (.int 1))))))
def F__law_below : PF := runP 2 2 m__law_below
end BP2

namespace BP
theorem ev_dv_pmulr (x : Rat) (q : List Rat) : ∀ p : List Rat, ev (dv (pmulr p q)) x = ev (dv p) x * ev q x + ev p x * ev (dv q) x
  | [] => by
    simp [pmulr, dv]
    grind
  | a :: p => by
    rw [pmulr, ev_dv_padd, ev_dv_pmulc, ev_dv_cons, ev_dv_cons, ev_dv_pmulr x q p, ev_pmulr, ev_cons]
    grind
theorem strip_pmul (p q : List Rat) : strip (pmul p q) = strip (pmulr p q) := strip_ext fun n => by rw [ev_pmul, ev_pmulr]
theorem ev_dv_pmul (x : Rat) (p q : List Rat) : ev (dv (pmul p q)) x = ev (dv p) x * ev q x + ev p x * ev (dv q) x := by
  rw [ev_dv_strip x (strip_pmul p q), ev_dv_pmulr]
/-- what a product's number is -/
def cv (p q : List Rat) (w : Nat) : Rat := su (fun k => if k ≤ w then co p k * co q (w - k) else 0) p.length
theorem co_pmulr (q : List Rat) : ∀ (p : List Rat) (w : Nat), co (pmulr p q) w = cv p q w
  | [], w => by simp [pmulr, cv, su]
  | a :: p, w => by
    have ih := co_pmulr q p
    rw [pmulr, co_padd, co_pmulc]
    unfold cv at ih ⊢
    rw [List.length_cons, su_head]
    simp only [co_cons0, co_consS, Nat.zero_le, if_true, Nat.sub_zero]
    cases w with
    | zero =>
      rw [co_cons0, su_zero fun k _ => by simp]
      grind
    | succ w =>
      rw [co_consS, ih]
      have e : su (fun k => if k ≤ w then co p k * co q (w - k) else 0) p.length = su (fun k => if k + 1 ≤ w + 1 then co p k * co q (w + 1 - (k + 1)) else 0) p.length := su_congr fun k _ => by
        simp
      rw [e]
      grind
theorem strip_cv (p q : List Rat) : strip (tab (cv p q) (p.length + q.length)) = strip (pmul p q) := by
  rw [strip_pmul]
  refine strip_eq_of _ _ fun k => ?_
  rw [co_tab, co_pmulr]
  split
  · rfl
  · rename_i h
    unfold cv
    refine (su_zero fun j hj => ?_).symm
    split
    · rw [co_big (p := q) (by omega)]
      grind
    · rfl
/-! ### the program's, its told lists new -/
theorem C_toldO_ok {z : ME} (hz : ∀ env st, z env st = .ok (.im (qD 0), st)) (d : D) (p : List Rat) (h : Row d p) (hl : p.length < 900) : runPo 1 2 (sSeq (sOwn 1 (mB bList (vCons (mVar 0) vNil)))
  (sSeq (sWhile (fuelV 1) (mAnd (mBin oNe (mVar 1) (mLst aNil)) (mBin oEq (mBin oIx (mVar 1) (mUn oNeg (mC (.int 1)))) z)) (sPop 1))
  (sRetOwn 1))) [d] = .ok (pL (strip p)) := by
  have L := fun x => told_loop z hz x [] 1000 p (by omega)
  refine runPo_ro (st := []) rfl ?_
  have k1 : (sOwn 1 (mB bList (vCons (mVar 0) vNil))) [.im d, .no] [] = .ok (.nx [.im d, .ow (pL p)] []) := by
    rcases h with rfl | rfl <;> simp
  show sSeq _ _ [.im d, .no] [] = _
  have k2 : (sWhile (fuelV 1) (mAnd (mBin oNe (mVar 1) (mLst aNil)) (mBin oEq (mBin oIx (mVar 1) (mUn oNeg (mC (.int 1)))) z)) (sPop 1)) [.im d, .ow (pL p)] [] = .ok (.nx [.im d, .ow (pL (strip p))] []) := L _
  rw [seq_nx k1, seq_nx k2]
  rfl
theorem told2_ok (d : D) (p : List Rat) (h : Row d p) (hl : p.length < 900) : BP2.F_told_of [d] = .ok (pL (strip p)) := C_toldO_ok (fun _ _ => rfl) d p h hl
theorem toldV_ok : ToldOk BP2.V_told_of := fun d p h hl => by
  unfold BP2.V_told_of
  rw [told2_ok d p h hl]
  rfl
theorem plus2_ok : AddOk BP2.F_plus_of := C_add_ok add_op toldV_ok fun _ _ => rfl
theorem times2_ok : MulOk BP2.F_times_of := C_mul_ok add_op mul_op toldV_ok fun _ _ => rfl
theorem moved2_ok : MoveOk BP2.F_moved_of := C_moved_ok plus2_ok times2_ok
theorem stretched2_ok : StretchOk BP2.F_stretched_of := C_stretched_ok mul_op toldV_ok
theorem scaled2_ok : ScaleOk BP2.F_scaled_of := C_scale_ok mul_op toldV_ok
theorem minus2_ok (d e : D) (p q : List Rat) (hd : Row d p) (he : Row e q) (hl : p.length < 800) (hl2 : q.length < 800) (fp : Fits p) (fq : Fits q) : BP2.F_minus_of [d, e] = .ok (pD (strip (padd p (pmulc (-1) q)))) := by
  have L := fun x : EV => lcL_pL (pt := .nm 2) (e := mCall F_turned (aCons (mVar 2) aNil)) (env := [.im d, x, .no]) (g := (· * (-1))) (p := q) (st := []) fun a ha st => ⟨[.im d, x, .im (qD a)], by simp, by
    have e : a * (-1) = -a := by grind
    simp [turned_ok, e]⟩
  have fq2 : Fits (pmulc (-1) q) := fun a ha => by
    unfold pmulc at ha
    obtain ⟨b, hb, rfl⟩ := List.mem_map.mp ha
    have e : b * (-1) = -b := by grind
    rw [e]
    have := fq b hb
    exact ⟨by simpa using this.1, by simpa using this.2⟩
  have A := plus2_ok d (pD (pmulc (-1) q)) p (pmulc (-1) q) hd (Row.l _) hl (by simp [pmulc]; omega) fp fq2
  have l : q.length ≤ 1000000 := by omega
  unfold pD pmulc at A
  rcases he with rfl | rfl <;> simp [BP2.F_minus_of, BP2.m_minus_of, mLc, l, L, A, pD, pmulc]
/-! derived, summed -/
def sm1 (p : List Rat) : List Rat := 0 :: (List.range p.length).map fun k : Nat => co p k / ((k + 1 : Nat) : Rat)
theorem lc_enum {F : PF} {e : ME} {i j : Nat} {env : Env} {p : List Rat} (f : Nat → Rat) (hs : ∀ x y : D, ∃ env1, (Pat.tp [.nm i, .nm j]).set (.tuple [x, y]) env = .ok env1 ∧ getE env1 i = .im x ∧ getE env1 j = .im y) (he : ∀ k env1, k < p.length → getE env1 i = .im (.int (k : Int)) → getE env1 j = .im (qD (co p k)) → e env1 [] = .ok (.im (qD (f k)), [])) : lcL (.tp [.nm i, .nm j]) (mC (.bool true)) e env (enumL (pL p)) [] = .ok (pL ((List.range p.length).map f), []) := by
  refine lcL_ix (by rw [enum_len]; simp) fun k d x hd hx => ?_
  obtain ⟨hk, rfl⟩ := enum_get hd
  obtain ⟨_, rfl⟩ := getElem_pL hx
  obtain ⟨env1, e1, e2, e3⟩ := hs (.int (k : Int)) (qD (co p k))
  exact ⟨env1, e1, he k env1 hk e2 e3⟩
theorem fit_nat' {k : Nat} (h : k ≤ 1000) : Fit ((k : Nat) : Rat) := fit_nat k (Nat.lt_of_le_of_lt h (by decide))
theorem pL_tail (p : List Rat) : (pL p).tail = pL p.tail := by cases p <;> rfl
theorem dl_eq (p : List Rat) : pL ((List.range p.length).map fun k : Nat => co p k * (k : Rat)) = pL ((List.range p.length).map fun k : Nat => (k : Rat) * co p k) := by
  congr 1
  refine List.map_congr_left fun k _ => ?_
  grind
theorem derived2_ok (p : List Rat) (d : D) (hd : Row d p) (hl : p.length < 800) (fp : Fits p) : BP2.F_derived_of [d] = .ok (pL (strip (dv p))) := by
  have L := lc_enum (F := F_multiply) (e := mCall F_multiply (aCons (mVar 2) (aCons (mTup (aCons (mVar 1) (aCons (mC (.int 1)) aNil))) aNil))) (i := 1) (j := 2) (env := [.im d, .no, .no]) (p := p) (fun k : Nat => co p k * (k : Rat)) (fun x y => ⟨[.im d, .im x, .im y], by simp, rfl, rfl⟩) fun k env1 hk h1 h2 => by
    have m : F_multiply [qD (co p k), qD ((k : Nat) : Rat)] = .ok (qD (co p k * (k : Rat))) := mul_op _ _ (fp _ (co_mem hk)) (fit_nat' (by omega))
    have q : (.tuple [.int (k : Int), .int 1] : D) = qD ((k : Nat) : Rat) := qi _
    simp [h1, h2, q, m]
  rw [dl_eq] at L
  have T := told2_ok (.list (pL (dv p))) (dv p) (Row.l _) (by rw [dv_len]; omega)
  have l : (enumL (pL p)).length ≤ LIM := by
    rw [enum_len]
    show _ ≤ 1000000
    omega
  refine runPo_ro (st := []) rfl ?_
  show BP2.m_derived_of [.im d, .no, .no] [] = _
  have k0 : mLc (iEnumL (mVar 0)) (.tp [(.nm 1), (.nm 2)]) [1, 2] (mC (.bool true)) (mCall F_multiply (aCons (mVar 2) (aCons (mTup (aCons (mVar 1) (aCons (mC (.int 1)) aNil))) aNil))) [.im d, .no, .no] [] = .ok (.ow (pL ((List.range p.length).map fun k : Nat => (k : Rat) * co p k)), []) := mLc_ok (by rcases hd with rfl | rfl <;> simp) ⟨l, rfl⟩ L
  have e : (pL ((List.range p.length).map fun k : Nat => (k : Rat) * co p k)).tail = pL (dv p) := pL_tail _
  simp [BP2.m_derived_of, k0, cut1, e, T]

theorem sum_eq (F : PF) (hF : OverOk F) (p : List Rat) (d : D) (hd : Row d p) (hl : p.length < 700) (fp : Fits p) : mLc (iEnumL (mVar 0)) (.tp [(.nm 1), (.nm 2)]) [1, 2] (mC (.bool true)) (mCall F (aCons (mVar 2) (aCons (mTup (aCons (mBin oAdd (mVar 1) (mC (.int 1))) (aCons (mC (.int 1)) aNil))) aNil))) [.im d, .no, .no] [] = .ok (.ow (pL (sm1 p).tail), []) := by
  have L := lc_enum (F := F) (e := mCall F (aCons (mVar 2) (aCons (mTup (aCons (mBin oAdd (mVar 1) (mC (.int 1))) (aCons (mC (.int 1)) aNil))) aNil))) (i := 1) (j := 2) (env := [.im d, .no, .no]) (p := p) (fun k : Nat => co p k / ((k + 1 : Nat) : Rat)) (fun x y => ⟨[.im d, .im x, .im y], by simp, rfl, rfl⟩) fun k env1 hk h1 h2 => by
    have nz1 : ((k + 1 : Nat) : Rat) ≠ 0 := nz (by omega)
    have m := hF (co p k) ((k + 1 : Nat) : Rat) (fp _ (co_mem hk)) (fit_nat' (by omega)) nz1
    have q : (.tuple [.int ((k : Int) + 1), .int 1] : D) = qD ((k + 1 : Nat) : Rat) := qi _
    simp only [mCall, aCons, mVar, h1, h2, mTup, mBin, mC, aNil, R.bind, EV.view, oAdd, EV.val, List.length_cons, List.length_nil, LIM, Nat.reduceAdd, Nat.reduceLeDiff, if_true, q, m]
  have l : (enumL (pL p)).length ≤ LIM := by
    rw [enum_len]
    show _ ≤ 1000000
    omega
  exact mLc_ok (by rcases hd with rfl | rfl <;> simp) ⟨l, rfl⟩ L
theorem sm1_eq (p : List Rat) : pL [0] ++ pL (sm1 p).tail = pL (sm1 p) := by simp [sm1]
theorem sm1_len (p : List Rat) : (sm1 p).length = p.length + 1 := by simp [sm1]
theorem summed2_ok (p : List Rat) (d : D) (hd : Row d p) (hl : p.length < 700) (fp : Fits p) : BP2.F_summed_of [d] = .ok (pD (strip (sm1 p))) := by
  have k0 := sum_eq F_divide divide_ok p d hd hl fp
  have T := toldV_ok (.list (pL (sm1 p))) (sm1 p) (Row.l _) (by rw [sm1_len]; omega)
  have e := sm1_eq p
  have l : (sm1 p).tail.length + 1 ≤ 1000000 := by simp [sm1]; omega
  refine runP_rt (st := []) rfl ?_
  show BP2.m_summed_of [.im d, .no, .no] [] = _
  simp only [pL_cons, pL_nil, List.cons_append, List.nil_append] at e
  have l2 : 1 + p.length ≤ 1000000 := by omega
  have l3 : p.length ≤ 999999 := by omega
  simp [BP2.m_summed_of, k0, q0, e, T, sm1_len, l2, l3]
end BP

namespace BP
/-! ### the law's own sums, power by power -/
theorem cut_eq : BP2.F__law_cut = F_reduced := rfl
theorem cut_ok : RedOk BP2.F__law_cut := by
  rw [cut_eq]
  exact red_ok
theorem plus2_op : Op BP2.F__law_plus (· + ·) := (C_plus_ok cut_ok.made).op
theorem less2_op : Op BP2.F__law_less (· - ·) := (C_less_ok cut_ok.made).op
theorem times2_op : Op BP2.F__law_times (· * ·) := (C_times_ok cut_ok.made).op
theorem over2_op : OverOk BP2.F__law_over := C_over_ok cut_ok
theorem below2_op {p q : Rat} (hp : Fit p) (hq : Fit q) : BP2.F__law_below [qD p, qD q] = .ok (.bool (decide (p < q))) := C_below_ok 4000 4000 p q hp hq (by decide)
theorem sumL_in {n m : Nat} (h0 : 0 < n) : ∀ {p : List Rat}, Inp n m p → In n (p.length * m) (sumL p)
  | [], _ => by simpa [sumL] using In_zero n 0 h0
  | a :: p, h => by
    have h1 := (h a (by simp)).add (sumL_in h0 fun x hx => h x (List.mem_cons_of_mem _ hx)) h0
    rw [sumL, List.length_cons, Nat.add_mul, Nat.one_mul, Nat.add_comm]
    exact h1
theorem sumL_snoc (p : List Rat) (a : Rat) : sumL (p ++ [a]) = sumL p + a := by
  rw [sumL_app]
  simp [sumL]
  grind
theorem total2_ok (xs : List Rat) (n m : Nat) (h0 : 0 < n) (hf : Inp n m xs) (hc : Cap n ((xs.length + 1) * m)) : BP2.F__law_total [.list (pL xs)] = .ok (qD (sumL xs)) := by
  let I : Nat → Env → Prop := fun i env => ∃ w, env = [.im (.list (pL xs)), .im (qD (sumL (xs.take i))), w] ∧ isPt w = false
  obtain ⟨env2, e, w, rfl, _⟩ := forL_inv (p := .nm 2) (b := BP2.b__law_total_1) (st := []) (ds := pL xs) I (fun i d1 hd1 env hI => by
    obtain ⟨w, rfl, hw⟩ := hI
    obtain ⟨hi, rfl⟩ := pL_get hd1
    have f1 := (sumL_in h0 (p := xs.take i) fun x hx => hf x (List.mem_of_mem_take hx)).fit h0 (hc.mono (Nat.mul_le_mul_right _ (by simp; omega)))
    have f2 := (hf _ (co_mem hi)).fit h0 (hc.mono (by rw [Nat.add_mul]; omega))
    have a1 : BP2.F__law_plus [qD (sumL (xs.take i)), qD (co xs i)] = .ok (qD (sumL (xs.take (i + 1)))) := by
      rw [take_co xs i hi, sumL_snoc]
      exact plus2_op _ _ f1 f2
    exact ⟨_, by simp [hw]; rfl, _, by simp [BP2.b__law_total_1, a1]; rfl, _, rfl, rfl⟩) (env := [.im (.list (pL xs)), .im (qD 0), .no]) ⟨_, rfl, rfl⟩
  rw [pL_len, List.take_length] at e
  have k2 : (sFor (iSeq (mVar 0)) (.nm 2) BP2.b__law_total_1) [.im (.list (pL xs)), .im (qD 0), .no] [] = .ok (.nx [.im (.list (pL xs)), .im (qD (sumL xs)), w] []) := by
    simp [sFor, e]
  have k1 : (sSet 1 (mTup (aCons (mC (.int 0)) (aCons (mC (.int 1)) aNil)))) [.im (.list (pL xs)), .no, .no] [] = .ok (.nx [.im (.list (pL xs)), .im (qD 0), .no] []) := by
    simp [q0]
  refine runP_rt (st := []) rfl ?_
  show BP2.m__law_total [.im (.list (pL xs)), .no, .no] [] = _
  unfold BP2.m__law_total
  rw [seq_nx k1, seq_nx k2]
  rfl
theorem power2_ok (x : Rat) (k : Nat) (hk : k ≤ 100) (fx : Fit x) (hf : ∀ j, j ≤ k → Fit (x ^ j)) : BP2.F__law_power [qD x, .int (k : Int)] = .ok (qD (x ^ k)) := by
  let I : Nat → Env → Prop := fun i env => ∃ w, env = [.im (qD x), .im (.int (k : Int)), .im (qD (x ^ i)), w] ∧ isPt w = false
  obtain ⟨env2, e, w, rfl, _⟩ := forL_inv (p := .nm 3) (b := BP2.b__law_power_1) (st := []) (ds := rangeL 0 (k : Int)) I (fun i d1 hd1 env hI => by
    obtain ⟨w, rfl, hw⟩ := hI
    obtain ⟨hi, rfl⟩ := range_get hd1
    have a1 : BP2.F__law_times [qD (x ^ i), qD x] = .ok (qD (x ^ (i + 1))) := by
      rw [Rat.pow_succ]
      exact times2_op _ _ (hf i (by omega)) fx
    exact ⟨[.im (qD x), .im (.int (k : Int)), .im (qD (x ^ i)), .im (.int (i : Int))], by simp [hw], [.im (qD x), .im (.int (k : Int)), .im (qD (x ^ (i + 1))), .im (.int (i : Int))], by simp [BP2.b__law_power_1, a1], _, rfl, rfl⟩) (env := [.im (qD x), .im (.int (k : Int)), .im (qD 1), .no]) ⟨.no, by rw [Rat.pow_zero], rfl⟩
  rw [range_len] at e
  have R := iR1N (m := mVar 1) (env := [.im (qD x), .im (.int (k : Int)), .im (qD 1), .no]) (st := []) (st' := []) (k := k) rfl (by omega)
  have k2 : (sFor (iRange1 (mVar 1)) (.nm 3) BP2.b__law_power_1) [.im (qD x), .im (.int (k : Int)), .im (qD 1), .no] [] = .ok (.nx [.im (qD x), .im (.int (k : Int)), .im (qD (x ^ k)), w] []) := by
    unfold sFor
    rw [R]
    exact e
  have k1 : (sSet 2 (mTup (aCons (mC (.int 1)) (aCons (mC (.int 1)) aNil)))) [.im (qD x), .im (.int (k : Int)), .no, .no] [] = .ok (.nx [.im (qD x), .im (.int (k : Int)), .im (qD 1), .no] []) := by
    simp [q1]
  refine runP_rt (st := []) rfl ?_
  show BP2.m__law_power [.im (qD x), .im (.int (k : Int)), .no, .no] [] = _
  unfold BP2.m__law_power
  rw [seq_nx k1, seq_nx k2]
  rfl
/-- bounds of powers: a number over n1, at most m1; k at most L -/
theorem pow_fit {n1 m1 L : Nat} {x : Rat} (hx : In n1 m1 x) (h1 : 0 < n1) (hm : 1 ≤ m1) (hc : Cap (n1 ^ L) (m1 ^ L)) : ∀ j, j ≤ L → Fit (x ^ j) := fun j hj => (hx.pow h1 j).fit (Nat.pow_pos h1) (hc.le (Nat.pow_le_pow_right h1 hj) (Nat.pow_le_pow_right hm hj))
theorem term_in {n m n1 m1 L : Nat} {x a : Rat} (ha : In n m a) (hx : In n1 m1 x) (h0 : 0 < n) (h1 : 0 < n1) (hm : 1 ≤ m1) {k : Nat} (hk : k ≤ L) : In (n * n1 ^ L) (m * m1 ^ L) (a * x ^ k) :=
  ((ha.mul (hx.pow h1 k) h0 (Nat.pow_pos h1)).mono (Nat.mul_le_mul_left _ (Nat.pow_le_pow_right hm hk))).dvd (Nat.mul_pos h0 (Nat.pow_pos h1)) (Nat.mul_dvd_mul_left _ (Nat.pow_dvd_pow _ hk))
theorem value2_ok (p : List Rat) (x : Rat) (n n1 m m1 L : Nat) (h0 : 0 < n) (h1 : 0 < n1) (hm : 1 ≤ m1) (hm0 : 1 ≤ m) (hl : p.length ≤ L) (hL : L ≤ 90) (hp : Inp n m p) (hx : In n1 m1 x) (hc : Cap (n * n1 ^ L) ((L + 1) * (m * m1 ^ L))) (fx : Fit x) : BP2.F__law_value [pD p, qD x] = .ok (qD (ev p x)) := by
  have np : 0 < n1 ^ L := Nat.pow_pos h1
  have mp : 0 < m1 ^ L := Nat.pow_pos hm
  have c1 : Cap (n1 ^ L) (m1 ^ L) := hc.le (Nat.le_mul_of_pos_left _ h0) (Nat.le_trans (Nat.le_mul_of_pos_left _ hm0) (Nat.le_mul_of_pos_left _ (by omega)))
  have c0 : Cap n m := hc.le (Nat.le_mul_of_pos_right _ np) (Nat.le_trans (Nat.le_mul_of_pos_right _ mp) (Nat.le_mul_of_pos_left _ (by omega)))
  have L1 := lc_enum (F := BP2.F__law_times) (e := mCall BP2.F__law_times (aCons (mVar 3) (aCons (mCall BP2.F__law_power (aCons (mVar 1) (aCons (mVar 2) aNil))) aNil))) (i := 2) (j := 3) (env := [.im (pD p), .im (qD x), .no, .no]) (p := p) (fun k : Nat => co p k * x ^ k) (fun a b => ⟨[.im (pD p), .im (qD x), .im a, .im b], by simp, rfl, rfl⟩)
  have L2 : lcL (.tp [.nm 2, .nm 3]) (mC (.bool true)) (mCall BP2.F__law_times (aCons (mVar 3) (aCons (mCall BP2.F__law_power (aCons (mVar 1) (aCons (mVar 2) aNil))) aNil))) [.im (pD p), .im (qD x), .no, .no] (enumL (pL p)) [] = .ok (pL ((List.range p.length).map fun k : Nat => co p k * x ^ k), []) := by
    refine lcL_ix (by rw [enum_len]; simp) fun k d y hd hy => ?_
    obtain ⟨hk, rfl⟩ := enum_get hd
    obtain ⟨_, rfl⟩ := getElem_pL hy
    have P := power2_ok x k (by omega) fx fun j hj => pow_fit hx h1 hm c1 j (by omega)
    have T : BP2.F__law_times [qD (co p k), qD (x ^ k)] = .ok (qD (co p k * x ^ k)) := times2_op _ _ ((hp.co h0 k).fit h0 c0) (pow_fit hx h1 hm c1 k (by omega))
    exact ⟨[.im (pD p), .im (qD x), .im (.int (k : Int)), .im (qD (co p k))], by simp, by simp [P, T]⟩
  have TT := total2_ok ((List.range p.length).map fun k : Nat => co p k * x ^ k) (n * n1 ^ L) (m * m1 ^ L) (Nat.mul_pos h0 np) (fun a ha => by
    obtain ⟨k, hk, rfl⟩ := List.mem_map.mp ha
    rw [List.mem_range] at hk
    exact term_in (hp.co h0 k) hx h0 h1 hm (by omega)) (hc.mono (Nat.mul_le_mul_right _ (by simp; omega)))
  rw [sumL_map, ← ev_co x p p.length (Nat.le_refl _)] at TT
  have k0 : mLc (iEnumL (mVar 0)) (.tp [(.nm 2), (.nm 3)]) [2, 3] (mC (.bool true)) (mCall BP2.F__law_times (aCons (mVar 3) (aCons (mCall BP2.F__law_power (aCons (mVar 1) (aCons (mVar 2) aNil))) aNil))) [.im (pD p), .im (qD x), .no, .no] [] = .ok (.ow (pL ((List.range p.length).map fun k : Nat => co p k * x ^ k)), []) := mLc_ok (by simp [pD]) ⟨by rw [enum_len]; show _ ≤ 1000000; omega, rfl⟩ L2
  refine runP_rt (st := []) rfl ?_
  show BP2.m__law_value [.im (pD p), .im (qD x), .no, .no] [] = _
  simp [BP2.m__law_value, k0, TT]
/-! sums, products -/
theorem cut_at (p : List Rat) (i : Nat) : cutD (pL p) (some (i : Int)) (some ((i : Int) + 1)) = pL ((p.drop i).take 1) := by
  have e1 : sIxD (pL p).length 0 (some (i : Int)) = min i p.length := by
    simp [sIxD]
    intro h
    omega
  have e2 : sIxD (pL p).length (pL p).length (some ((i : Int) + 1)) = min (i + 1) p.length := by
    have h : ¬ (i : Int) + 1 < 0 := by omega
    simp [sIxD, h]
  unfold cutD
  rw [e1, e2]
  by_cases h : i < p.length
  · rw [Nat.min_eq_left (by omega), Nat.min_eq_left (by omega)]
    have : i + 1 - i = 1 := by omega
    rw [this]
    simp [pL]
  · rw [Nat.min_eq_right (by omega), Nat.min_eq_right (by omega), Nat.sub_self, List.drop_of_length_le (by omega : p.length ≤ i)]
    rfl
theorem sumL_drop (p : List Rat) (i : Nat) : sumL ((p.drop i).take 1) = co p i := by
  by_cases h : i < p.length
  · rw [drop_cons' p i h]
    simp [sumL]
    grind
  · rw [List.drop_of_length_le (by omega), co_big (by omega)]
    rfl
theorem sum2_ok (p q : List Rat) (n m : Nat) (h0 : 0 < n) (hp : Inp n m p) (hq : Inp n m q) (hl : p.length < 400) (hl2 : q.length < 400) (hc : Cap n (3 * m)) : BP2.F__law_sum [pD p, pD q] = .ok (pD (strip (padd p q))) := by
  obtain ⟨M, hM⟩ : ∃ M : Nat, M = max p.length q.length := ⟨_, rfl⟩
  have mx : ∀ env st, env = [.im (pD p), .im (pD q), .ow [], .no] → (mB bMax (vCons (mB bLen (vCons (mVar 0) vNil)) (vCons (mB bLen (vCons (mVar 1) vNil)) vNil))) env st = .ok (.im (.int (M : Int)), st) := fun env st h => by
    subst h
    have : bMax [.int (p.length : Int), .int (q.length : Int)] = .ok (.im (.int (M : Int))) := by
      rw [bMax_2]
      congr 3
      split <;> omega
    simp [pD, -bMax_2, this]
  let f : Nat → Rat := fun k => co p k + co q k
  let I : Nat → Env → Prop := fun i env => ∃ w, env = [.im (pD p), .im (pD q), .ow (pL (tab f i)), w] ∧ isPt w = false
  obtain ⟨env2, e, w, rfl, _⟩ := forL_inv (p := .nm 3) (b := BP2.b__law_sum_1) (st := []) (ds := rangeL 0 (M : Int)) I (fun i d1 hd1 env hI => by
    obtain ⟨w, rfl, hw⟩ := hI
    obtain ⟨hi, rfl⟩ := range_get hd1
    have ix : Inp n m ((p.drop i).take 1 ++ (q.drop i).take 1) := fun a ha => by
      rcases List.mem_append.mp ha with h | h
      · exact hp a (List.mem_of_mem_drop (List.mem_of_mem_take h))
      · exact hq a (List.mem_of_mem_drop (List.mem_of_mem_take h))
    have l2 : ((p.drop i).take 1 ++ (q.drop i).take 1).length ≤ 2 := by simp; omega
    have T := total2_ok _ n m h0 ix (hc.mono (Nat.mul_le_mul_right _ (by omega)))
    rw [sumL_app, sumL_drop, sumL_drop, pL_app] at T
    have c1 := cut_at p i
    have c2 := cut_at q i
    have l3 : (pL ((p.drop i).take 1)).length + (pL ((q.drop i).take 1)).length ≤ LIM := by
      show _ ≤ 1000000
      simp
      omega
    have ad : oAdd (.list (pL ((p.drop i).take 1))) (.list (pL ((q.drop i).take 1))) = .ok (.ow (pL ((p.drop i).take 1) ++ pL ((q.drop i).take 1))) := by
      rw [oAdd_l, if_pos l3]
    have l1 : i < 1000000 := by omega
    refine ⟨[.im (pD p), .im (pD q), .ow (pL (tab f i)), .im (.int (i : Int))], by simp [hw], [.im (pD p), .im (pD q), .ow (pL (tab f (i + 1))), .im (.int (i : Int))], ?_, _, rfl, rfl⟩
    rw [tab_succ, pL_app]
    simp [BP2.b__law_sum_1, pD, c1, c2, -oAdd_l, ad, T, l1, f]) (env := [.im (pD p), .im (pD q), .ow [], .no]) ⟨.no, rfl, rfl⟩
  rw [range_len] at e
  have R := iR1N (mx _ [] rfl) (by omega)
  have T2 := l_told_ok (.list (pL (tab f M))) (tab f M) (Row.l _) (by simp; omega)
  have es : strip (tab f M) = strip (padd p q) := strip_eq_of _ _ fun k => by
    rw [co_tab, co_padd]
    split
    · rfl
    · rw [co_big (p := p) (by omega), co_big (p := q) (by omega)]
      grind
  rw [es] at T2
  have k1 : (sOwn 2 (mLst aNil)) [.im (pD p), .im (pD q), .no, .no] [] = .ok (.nx [.im (pD p), .im (pD q), .ow [], .no] []) := by simp
  have k2 : (sFor (iRange1 (mB bMax (vCons (mB bLen (vCons (mVar 0) vNil)) (vCons (mB bLen (vCons (mVar 1) vNil)) vNil)))) (.nm 3) BP2.b__law_sum_1) [.im (pD p), .im (pD q), .ow [], .no] [] = .ok (.nx [.im (pD p), .im (pD q), .ow (pL (tab f M)), w] []) := by
    unfold sFor
    rw [R]
    exact e
  refine runP_rt (st := []) rfl ?_
  show BP2.m__law_sum [.im (pD p), .im (pD q), .no, .no] [] = _
  unfold BP2.m__law_sum
  rw [seq_nx k1, seq_nx k2]
  simp [T2]
end BP

namespace BP
open PySem (Str Stmt)
def fuel_scheme_of_1 : Env → Nat := fuelV 2
def b_scheme_of_1 : MS := (sSeq (sSet 4 (mBin oIx (mVar 2) (mUn oNeg (mC (.int 1)))))
  (sAppend 2 (mLc (iZipS (mVar 4) (mCut (mVar 4) (oSome (mC (.int 1))) oNone)) (.tp [(.nm 5), (.nm 6)]) [5, 6] (mC (.bool true)) (mCall F_add (aCons (mCall F_multiply (aCons (mVar 5) (aCons (mVar 3) aNil))) (aCons (mCall F_multiply (aCons (mVar 6) (aCons (mVar 1) aNil))) aNil))))))
def m_scheme_of : MS := (sSeq (sPar2 2 3 true false (mLst (aCons (mB bList (vCons (mVar 0) vNil)) aNil)) (mCall F_take (aCons (mC (.tuple [(.int 1), (.int 1)])) (aCons (mVar 1) aNil))))
  (sSeq (sWhile fuel_scheme_of_1 (mBin oGt (mB bLen (vCons (mBin oIx (mVar 2) (mUn oNeg (mC (.int 1)))) vNil)) (mC (.int 1))) b_scheme_of_1)
  (sFrz 2 (sRet (mVar 2)))))
def F_scheme_of : PF := runP 2 7 m_scheme_of
def m_share_at : MS := (sRet (mCall F_divide (aCons (mCall F_take (aCons (mVar 2) (aCons (mVar 0) aNil))) (aCons (mCall F_take (aCons (mVar 1) (aCons (mVar 0) aNil))) aNil))))
def F_share_at : PF := runP 3 3 m_share_at
def m_value_by : MS := (sSeq (sExpr (mCall F_check_row (aCons (mVar 0) aNil)))
  (sSeq (sExpr (mCall F_check_stretch (aCons (mVar 1) aNil)))
  (sSeq (sExpr (mCall F_check_spot (aCons (mVar 2) aNil)))
  (sRet (mBin oIx (mBin oIx (mCall F_scheme_of (aCons (mVar 0) (aCons (mCall F_share_at (aCons (mBin oIx (mVar 1) (mC (.int 0))) (aCons (mBin oIx (mVar 1) (mC (.int 1))) (aCons (mVar 2) aNil)))) aNil))) (mUn oNeg (mC (.int 1)))) (mC (.int 0)))))))
def F_value_by : PF := runP 3 3 m_value_by
def m_want_at_most : MS := (sIf (mBin oGt (mVar 2) (mVar 1)) sNever sNil)
def F_want_at_most : PF := runP 3 3 m_want_at_most
def b_raised_of_1 : MS := (sSeq (sPar2 4 5 false false (mCall F_multiply (aCons (mBin oIx (mVar 0) (mBin oSub (mVar 3) (mC (.int 1)))) (aCons (mTup (aCons (mVar 3) (aCons (mC (.int 1)) aNil))) aNil))) (mCall F_multiply (aCons (mBin oIx (mVar 0) (mVar 3)) (aCons (mTup (aCons (mBin oSub (mVar 1) (mVar 3)) (aCons (mC (.int 1)) aNil))) aNil))))
  (sAppend 2 (mCall F_divide (aCons (mCall F_add (aCons (mVar 4) (aCons (mVar 5) aNil))) (aCons (mTup (aCons (mVar 1) (aCons (mC (.int 1)) aNil))) aNil)))))
def m_raised_of : MS := (sSeq (sPar2 1 2 false true (mB bLen (vCons (mVar 0) vNil)) (mLst (aCons (mBin oIx (mVar 0) (mC (.int 0))) aNil)))
  (sSeq (sFor (iRange2 (mC (.int 1)) (mVar 1)) (.nm 3) b_raised_of_1)
  (sRetF (mBin oAdd (mVar 2) (mLst (aCons (mBin oIx (mVar 0) (mUn oNeg (mC (.int 1)))) aNil))))))
def F_raised_of : PFo := runPo 1 6 m_raised_of
def V_raised_of : PF := fun ds => (F_raised_of ds).bind fun es => .ok (.list es)
def m_raised : MS := (sSeq (sExpr (mCall F_check_row (aCons (mVar 0) aNil)))
  (sSeq (sExpr (mCall F_want_at_most (aCons (mC (.str "size")) (aCons (mC (.int 8)) (aCons (mB bLen (vCons (mVar 0) vNil)) aNil)))))
  (sRetF (mCallO F_raised_of (aCons (mVar 0) aNil)))))
def F_raised : PFo := runPo 1 1 m_raised
def V_raised : PF := fun ds => (F_raised ds).bind fun es => .ok (.list es)
def b_total_1 : MS := (sSet 1 (mCall F_add (aCons (mVar 1) (aCons (mVar 2) aNil))))
def m_total : MS := (sSeq (sSet 1 (mC (.tuple [(.int 0), (.int 1)])))
  (sSeq (sFor (iSeq (mVar 0)) (.nm 2) b_total_1)
  (sRet (mVar 1))))
def F_total : PF := runP 1 3 m_total
def m_area_by : MS := (sSeq (sExpr (mCall F_check_row (aCons (mVar 0) aNil)))
  (sSeq (sExpr (mCall F_check_stretch (aCons (mVar 1) aNil)))
  (sRet (mCall F_divide (aCons (mCall F_multiply (aCons (mCall F_total (aCons (mVar 0) aNil)) (aCons (mCall F_take (aCons (mBin oIx (mVar 1) (mC (.int 1))) (aCons (mBin oIx (mVar 1) (mC (.int 0))) aNil))) aNil))) (aCons (mTup (aCons (mB bLen (vCons (mVar 0) vNil)) (aCons (mC (.int 1)) aNil))) aNil))))))
def F_area_by : PF := runP 2 2 m_area_by
def m_changes_of : MS := (sSeq (sSet 1 (mLc (iSeq (mVar 0)) (.nm 2) [2] (mBin oNe (mBin oIx (mVar 2) (mC (.int 0))) (mC (.int 0))) (mVar 2)))
  (sRet (mB bLen (vCons (mLc (iZipS (mVar 1) (mCut (mVar 1) (oSome (mC (.int 1))) oNone)) (.tp [(.nm 2), (.nm 3)]) [2, 3] (mBin oNe (mBin oGt (mBin oIx (mVar 2) (mC (.int 0))) (mC (.int 0))) (mBin oGt (mBin oIx (mVar 3) (mC (.int 0))) (mC (.int 0)))) (mVar 2)) vNil))))
def F_changes_of : PF := runP 1 4 m_changes_of
def m_changes : MS := (sSeq (sExpr (mCall F_check_row (aCons (mVar 0) aNil)))
  (sRet (mCall F_changes_of (aCons (mVar 0) aNil))))
def F_changes : PF := runP 1 1 m_changes
def m_are_fractions : MS := (sRet (mAnd (mCall F_is_list (aCons (mVar 0) aNil)) (mB bAll (vCons (mLc (iSeq (mVar 0)) (.nm 1) [1] (mC (.bool true)) (mCall F_is_fraction_of (aCons (mVar 1) aNil))) vNil))))
def F_are_fractions : PF := runP 1 2 m_are_fractions
def m_is_row_of : MS := (sSeq (sExpr (mCall F_check_poly (aCons (mVar 0) aNil)))
  (sSeq (sExpr (mCall F_check_stretch (aCons (mVar 1) aNil)))
  (sSeq (sIf (mOr (mUn oNot (mCall F_is_list (aCons (mVar 2) aNil))) (mOr (mUn oNot (mChain oLe oLe (mC (.int 1)) (mB bLen (vCons (mVar 2) vNil)) (mBin oAdd (mC (.int 8)) (mC (.int 1))))) (mUn oNot (mCall F_are_fractions (aCons (mVar 2) aNil))))) (sRet (mC (.bool false))) sNil)
  (sRet (mBin oEq (mCall F_poly_by (aCons (mVar 2) (aCons (mBin oIx (mVar 1) (mC (.int 0))) (aCons (mBin oIx (mVar 1) (mC (.int 1))) aNil)))) (mCall F_told_of (aCons (mVar 0) aNil)))))))
def F_is_row_of : PF := runP 3 3 m_is_row_of
def b__law_raised_1 : MS := (sSeq (sSet 4 (mIf (mBin oGt (mVar 3) (mC (.int 0))) (mCall F__law_times (aCons (mBin oIx (mVar 0) (mBin oSub (mVar 3) (mC (.int 1)))) (aCons (mTup (aCons (mVar 3) (aCons (mC (.int 1)) aNil))) aNil))) (mTup (aCons (mC (.int 0)) (aCons (mC (.int 1)) aNil)))))
  (sSeq (sSet 5 (mIf (mBin oLe (mVar 3) (mVar 1)) (mCall F__law_times (aCons (mBin oIx (mVar 0) (mVar 3)) (aCons (mTup (aCons (mBin oSub (mBin oAdd (mVar 1) (mC (.int 1))) (mVar 3)) (aCons (mC (.int 1)) aNil))) aNil))) (mTup (aCons (mC (.int 0)) (aCons (mC (.int 1)) aNil)))))
  (sAppend 2 (mCall F__law_times (aCons (mCall F__law_plus (aCons (mVar 4) (aCons (mVar 5) aNil))) (aCons (mTup (aCons (mC (.int 1)) (aCons (mBin oAdd (mVar 1) (mC (.int 1))) aNil))) aNil))))))
def m__law_raised : MS := (sSeq (sPar2 1 2 false true (mBin oSub (mB bLen (vCons (mVar 0) vNil)) (mC (.int 1))) (mLst aNil))
  (sSeq (sFor (iRange1 (mBin oAdd (mVar 1) (mC (.int 2)))) (.nm 3) b__law_raised_1)
  (sFrz 2 (sRet (mVar 2)))))
def F__law_raised : PF := runP 1 6 m__law_raised
end BP

namespace BP
/-! ### the scheme -/
def schR (u : Rat) (r : Nat → Rat) (n k : Nat) : D := pD (tab (dc u r k) (n + 1 - k))
def sch (u : Rat) (r : Nat → Rat) (n k : Nat) : List D := (List.range (k + 1)).map (schR u r n)
theorem sch_succ (u : Rat) (r : Nat → Rat) (n k : Nat) : sch u r n (k + 1) = sch u r n k ++ [schR u r n (k + 1)] := by
  simp [sch, List.range_succ]
theorem sch_last (u : Rat) (r : Nat → Rat) (n k : Nat) : atD (sch u r n k) (-1) = some (schR u r n k) := by
  cases k with
  | zero => exact at_last [] _
  | succ k =>
    rw [sch_succ]
    exact at_last _ _
theorem cut1_tab (f : Nat → Rat) (m : Nat) : cutD (pL (tab f (m + 1))) (some 1) none = pL (tab (fun i => f (i + 1)) m) := by
  rw [cut1, pL_tail]
  congr 1
  simp [tab, List.range_succ_eq_map]
theorem zipW_tab (g : Rat → Rat → Rat) (f h : Nat → Rat) (m : Nat) : List.zipWith g (tab f (m + 1)) (tab h m) = tab (fun i => g (f i) (h i)) m := by
  refine tab_ext (by simp) fun k hk => ?_
  have h1 : k < m + 1 := by omega
  simp [co, tab, List.getElem?_zipWith, h1, hk]
theorem dc_fit {u : Rat} {r : Nat → Rat} {N M n m : Nat} (h0 : 0 < n) (hN : 0 < N) (hu : In n m u) (hr : ∀ i, In N M (r i)) : ∀ (k i : Nat), In (N * n ^ k) (M * (2 * m + 1) ^ k) (dc u r k i)
  | 0, i => by simpa [dc] using hr i
  | k + 1, i => by
    have a := dc_fit h0 hN hu hr k i
    have b := dc_fit h0 hN hu hr k (i + 1)
    have c := (In_one n 1 h0 (by omega)).sub hu h0
    have np := Nat.mul_pos hN (Nat.pow_pos (n := k) h0)
    have s := (a.mul c np h0).add (b.mul hu np h0) (Nat.mul_pos np h0)
    rw [dc, Nat.pow_succ, Nat.pow_succ, ← Nat.mul_assoc, ← Nat.mul_assoc]
    refine s.mono ?_
    rw [← Nat.mul_add]
    exact Nat.mul_le_mul_left _ (by omega)
theorem scheme_step (x0 : EV) (u : Rat) (r : Nat → Rat) (n k : Nat) (hk : k < n) (hn : n ≤ 20) (x4 x5 x6 : EV) (h4 : isPt x4 = false) (h5 : isLk x5 = false) (h6 : isLk x6 = false) (hf : ∀ i, Fit (dc u r k i) ∧ Fit (dc u r k i * (1 - u)) ∧ Fit (dc u r k i * u)) (fu : Fit u) (fu1 : Fit (1 - u)) :
    b_scheme_of_1 [x0, .im (qD u), .ow (sch u r n k), .im (qD (1 - u)), x4, x5, x6] [] = .ok (.nx [x0, .im (qD u), .ow (sch u r n (k + 1)), .im (qD (1 - u)), .im (schR u r n k), x5, x6] []) := by
  obtain ⟨m, hm⟩ : ∃ m, n + 1 - k = m + 1 ∧ n + 1 - (k + 1) = m := ⟨n - k, by omega, by omega⟩
  have s1 : (sSet 4 (mBin oIx (mVar 2) (mUn oNeg (mC (.int 1))))) [x0, .im (qD u), .ow (sch u r n k), .im (qD (1 - u)), x4, x5, x6] [] = .ok (.nx [x0, .im (qD u), .ow (sch u r n k), .im (qD (1 - u)), .im (schR u r n k), x5, x6] []) := by
    simp [sch_last, h4]
  have eR : schR u r n k = .list (pL (tab (dc u r k) (m + 1))) := by unfold schR pD; rw [hm.1]
  have eR1 : schR u r n (k + 1) = .list (pL (tab (dc u r (k + 1)) m)) := by unfold schR pD; rw [hm.2]
  let G : Rat → Rat → Rat := fun a b => a * (1 - u) + b * u
  have L : ∀ (p q : List Rat), (∀ a ∈ p, ∃ i, a = dc u r k i) → (∀ a ∈ q, ∃ i, a = dc u r k i) → lcL (.tp [.nm 5, .nm 6]) (mC (.bool true)) (mCall F_add (aCons (mCall F_multiply (aCons (mVar 5) (aCons (mVar 3) aNil))) (aCons (mCall F_multiply (aCons (mVar 6) (aCons (mVar 1) aNil))) aNil))) [x0, .im (qD u), .ow (sch u r n k), .im (qD (1 - u)), .im (schR u r n k), .no, .no] (zipL (pL p) (pL q)) [] = .ok (pL (List.zipWith G p q), []) := fun p => by
    induction p with
    | nil => intro q _ _; simp [lcL]
    | cons a p ih =>
      intro q hp hq
      cases q with
      | nil => simp [lcL]
      | cons b q =>
        obtain ⟨i, rfl⟩ := hp a (by simp)
        obtain ⟨j, rfl⟩ := hq b (by simp)
        have m1 : F_multiply [qD (dc u r k i), qD (1 - u)] = .ok (qD (dc u r k i * (1 - u))) := mul_op _ _ (hf i).1 fu1
        have m2 : F_multiply [qD (dc u r k j), qD u] = .ok (qD (dc u r k j * u)) := mul_op _ _ (hf j).1 fu
        have a1 : F_add [qD (dc u r k i * (1 - u)), qD (dc u r k j * u)] = .ok (qD (dc u r k i * (1 - u) + dc u r k j * u)) := add_op _ _ (hf i).2.1 (hf j).2.2
        have ih2 := ih q (fun x hx => hp x (List.mem_cons_of_mem _ hx)) fun x hx => hq x (List.mem_cons_of_mem _ hx)
        simp [lcL, m1, m2, a1, ih2, G]
  have L2 := L (tab (dc u r k) (m + 1)) (tab (fun i => dc u r k (i + 1)) m) (fun a ha => by
    obtain ⟨i, _, e⟩ := mem_tab ha
    exact ⟨i, e⟩) fun a ha => by
    obtain ⟨i, _, e⟩ := mem_tab ha
    exact ⟨i + 1, e⟩
  rw [zipW_tab] at L2
  have e2 : tab (fun i => G (dc u r k i) (dc u r k (i + 1))) m = tab (dc u r (k + 1)) m := rfl
  rw [e2] at L2
  have lz : (zipL (pL (tab (dc u r k) (m + 1))) (pL (tab (fun i => dc u r k (i + 1)) m))).length ≤ LIM := by
    have := zip_le (pL (tab (dc u r k) (m + 1))) (pL (tab (fun i => dc u r k (i + 1)) m))
    rw [pL_len, tab_len] at this
    show _ ≤ 1000000
    omega
  have ML := mLc_ok (it := iZipS (mVar 4) (mCut (mVar 4) (oSome (mC (.int 1))) oNone)) (vs := [5, 6]) (env := [x0, .im (qD u), .ow (sch u r n k), .im (qD (1 - u)), .im (schR u r n k), x5, x6]) (st := []) (by simp [eR, cut1_tab]) ⟨lz, by simp [h5, h6]⟩ L2
  have ll : (sch u r n k).length < 1000000 := by simp [sch]; omega
  unfold b_scheme_of_1
  rw [seq_nx s1, sch_succ, eR1]
  simp [-iZipS, ML, ll]
theorem scheme_loop (x0 : EV) (u : Rat) (r : Nat → Rat) (n : Nat) (hn : n ≤ 20) (fu : Fit u) (fu1 : Fit (1 - u)) (hf : ∀ k i, k ≤ n → Fit (dc u r k i) ∧ Fit (dc u r k i * (1 - u)) ∧ Fit (dc u r k i * u)) :
    ∀ (f k : Nat) (x4 : EV), isPt x4 = false → k ≤ n → n - k < f → ∃ x4', whileL (mBin oGt (mB bLen (vCons (mBin oIx (mVar 2) (mUn oNeg (mC (.int 1)))) vNil)) (mC (.int 1))) b_scheme_of_1 f [x0, .im (qD u), .ow (sch u r n k), .im (qD (1 - u)), x4, .no, .no] [] = .ok (.nx [x0, .im (qD u), .ow (sch u r n n), .im (qD (1 - u)), x4', .no, .no] [])
  | 0, k, x4, _, _, h => absurd h (Nat.not_lt_zero _)
  | f + 1, k, x4, h4, hk, h => by
    have lk : (tab (dc u r k) (n + 1 - k)).length = n + 1 - k := by simp
    by_cases hkn : k = n
    · subst hkn
      refine ⟨x4, ?_⟩
      have c : ¬ (1 : Int) < ((k + 1 - k : Nat) : Int) := by omega
      simp only [whileL, mBin, mB, vCons, mVar, getE, vNil, R.bind, EV.view, mUn, mC, oNeg, oIx, sch_last, schR, pD, bLen, pL_len, lk, oGt, bl, decide_eq_false c]
    · have c : (1 : Int) < ((n + 1 - k : Nat) : Int) := by omega
      obtain ⟨x4', e⟩ := scheme_loop x0 u r n hn fu fu1 hf f (k + 1) (.im (schR u r n k)) rfl (by omega) (by omega)
      refine ⟨x4', ?_⟩
      have s := scheme_step x0 u r n k (by omega) hn x4 .no .no h4 rfl rfl (fun i => hf k i hk) fu fu1
      simp only [whileL, mBin, mB, vCons, mVar, getE, vNil, R.bind, EV.view, mUn, mC, oNeg, oIx, sch_last, schR, pD, bLen, pL_len, lk, oGt, bl, decide_eq_true c, s]
      simp only [schR, pD] at e
      exact e
theorem scheme_ok (d : D) (row : List Rat) (u : Rat) (N M n1 m1 : Nat) (hd : Row d row) (hl1 : 1 ≤ row.length) (hl : row.length ≤ 9) (hN : 0 < N) (h1 : 0 < n1) (hr : Inp N M row) (hu : In n1 m1 u) (hc : Cap (N * n1 ^ 9) (M * (2 * m1 + 1) ^ 9)) (fu : Fit u) (fu1 : Fit (1 - u)) : F_scheme_of [d, qD u] = .ok (.list (sch u (co row) (row.length - 1) (row.length - 1))) := by
  obtain ⟨n, hn⟩ : ∃ n, row.length = n + 1 := ⟨row.length - 1, by omega⟩
  rw [hn, Nat.add_sub_cancel]
  have hf : ∀ k i, k ≤ n → Fit (dc u (co row) k i) ∧ Fit (dc u (co row) k i * (1 - u)) ∧ Fit (dc u (co row) k i * u) := fun k i hk => by
    have a := dc_fit h1 hN hu (fun i => hr.co hN i) k i
    have np := Nat.mul_pos hN (Nat.pow_pos (n := k) h1)
    have np1 := Nat.mul_pos np h1
    have c := (In_one n1 1 h1 (by omega)).sub hu h1
    have e1 : N * n1 ^ k ≤ N * n1 ^ 9 := Nat.mul_le_mul_left _ (Nat.pow_le_pow_right h1 (by omega))
    have e2 : N * n1 ^ k * n1 ≤ N * n1 ^ 9 := by
      rw [Nat.mul_assoc, ← Nat.pow_succ]
      exact Nat.mul_le_mul_left _ (Nat.pow_le_pow_right h1 (by omega))
    have e3 : M * (2 * m1 + 1) ^ k ≤ M * (2 * m1 + 1) ^ 9 := Nat.mul_le_mul_left _ (Nat.pow_le_pow_right (by omega) (by omega))
    have e4 : M * (2 * m1 + 1) ^ k * (2 * m1 + 1) ≤ M * (2 * m1 + 1) ^ 9 := by
      rw [Nat.mul_assoc, ← Nat.pow_succ]
      exact Nat.mul_le_mul_left _ (Nat.pow_le_pow_right (by omega) (by omega))
    exact ⟨a.fit np (hc.le e1 e3), (a.mul c np h1).fit np1 (hc.le e2 (Nat.le_trans (Nat.mul_le_mul_left _ (by omega)) e4)), (a.mul hu np h1).fit np1 (hc.le e2 (Nat.le_trans (Nat.mul_le_mul_left _ (by omega)) e4))⟩
  obtain ⟨x4, e⟩ := scheme_loop (.im d) u (co row) n (by omega) fu fu1 hf 1000 0 .no rfl (by omega) (by omega)
  have t1 : F_take [qD 1, qD u] = .ok (qD (1 - u)) := take_op _ _ fit1 fu
  have e0 : sch u (co row) n 0 = [.list (pL row)] := by
    show [schR u (co row) n 0] = _
    unfold schR pD
    rw [Nat.sub_zero, ← hn]
    have : tab (dc u (co row) 0) row.length = row := (tab_ext rfl fun k _ => rfl).symm
    rw [this]
  rw [e0] at e
  have k1 : (sPar2 2 3 true false (mLst (aCons (mB bList (vCons (mVar 0) vNil)) aNil)) (mCall F_take (aCons (mC (.tuple [(.int 1), (.int 1)])) (aCons (mVar 1) aNil)))) [.im d, .im (qD u), .no, .no, .no, .no, .no] [] = .ok (.nx [.im d, .im (qD u), .ow [.list (pL row)], .im (qD (1 - u)), .no, .no, .no] []) := by
    rcases hd with rfl | rfl <;> simp [q1, t1]
  have k2 : (sWhile fuel_scheme_of_1 (mBin oGt (mB bLen (vCons (mBin oIx (mVar 2) (mUn oNeg (mC (.int 1)))) vNil)) (mC (.int 1))) b_scheme_of_1) [.im d, .im (qD u), .ow [.list (pL row)], .im (qD (1 - u)), .no, .no, .no] [] = .ok (.nx [.im d, .im (qD u), .ow (sch u (co row) n n), .im (qD (1 - u)), x4, .no, .no] []) := e
  refine runP_rt (st := []) rfl ?_
  show m_scheme_of [.im d, .im (qD u), .no, .no, .no, .no, .no] [] = _
  unfold m_scheme_of
  rw [seq_nx k1, seq_nx k2]
  simp
/-- the value by the scheme -/
theorem value_by_ok {d : D} {row : List Rat} {low high x : Rat} (hd : Row d row) (hl1 : 1 ≤ row.length) (hl : row.length ≤ 9) (hs : row.all sm = true) (h1 : sm low = true) (h2 : sm high = true) (h : low < high) (hx : sm x = true) :
    F_value_by [d, .tuple [qD low, qD high], qD x] = .ok (qD (bern (co row) (row.length - 1) ((x - low) / (high - low)))) := by
  obtain ⟨nw, w0, w1, hw⟩ := share_in h1 h2 h
  have hne := lt_ne h
  have c1 := check_row_ok hd hl1 hl hs
  have c2 := check_stretch_ok h1 h2 h
  have c3 := check_spot_ok hx
  have t1 : F_take [qD x, qD low] = .ok (qD (x - low)) := take_op _ _ (sm_fit hx) (sm_fit h1)
  have t2 : F_take [qD high, qD low] = .ok (qD (high - low)) := take_op _ _ (sm_fit h2) (sm_fit h1)
  have ix := wide_in h1 hx
  have cL : Cap LC 1998 := by constructor <;> decide +kernel
  have dv1 : F_divide [qD (x - low), qD (high - low)] = .ok (qD ((x - low) / (high - low))) := divide_ok _ _ (ix.fit LC_pos cL) ((wide_in h1 h2).fit LC_pos cL) hne
  have iu : In (LC * nw) (1998 * 9801) ((x - low) / (high - low)) := by
    have e : (x - low) / (high - low) = (x - low) * (1 / (high - low)) := by grind
    rw [e]
    exact ix.mul hw LC_pos w0
  have np := Nat.mul_pos LC_pos w0
  have capu : Cap (LC * nw) (1998 * 9801 + 1) := Cap.le (n := LC * 2 ^ 18) (m := 1998 * 9801 + 1) (by constructor <;> decide +kernel) (Nat.mul_le_mul_left _ w1) (Nat.le_refl _)
  have fu := iu.fit np (capu.mono (by omega))
  have fu1 := ((In_one (LC * nw) 1 np (by omega)).sub iu np).fit np (capu.mono (by omega))
  have cap : Cap (LC * (LC * nw) ^ 9) (999 * (2 * (1998 * 9801) + 1) ^ 9) := Cap.le (n := LC * (LC * 2 ^ 18) ^ 9) (m := 999 * (2 * (1998 * 9801) + 1) ^ 9) (by constructor <;> decide +kernel) (Nat.mul_le_mul_left _ (Nat.pow_le_pow_left (Nat.mul_le_mul_left _ w1) 9)) (Nat.le_refl _)
  have S := scheme_ok d row ((x - low) / (high - low)) LC 999 (LC * nw) (1998 * 9801) hd hl1 hl LC_pos np (sms_in hs) iu cap fu fu1
  have e : F_share_at [qD low, qD high, qD x] = .ok (qD ((x - low) / (high - low))) := by
    simp [F_share_at, m_share_at, t1, t2, dv1]
  obtain ⟨n, hn⟩ : ∃ n, row.length = n + 1 := ⟨row.length - 1, by omega⟩
  rw [hn, Nat.add_sub_cancel] at S ⊢
  have a1 := sch_last ((x - low) / (high - low)) (co row) n n
  have a2 : schR ((x - low) / (high - low)) (co row) n n = .list [qD (dc ((x - low) / (high - low)) (co row) n 0)] := by
    unfold schR pD
    have : n + 1 - n = 1 := by omega
    rw [this]
    rfl
  rw [a2, dc_bern _ _ _ (by omega)] at a1
  generalize sch ((x - low) / (high - low)) (co row) n n = ss at S a1
  rcases hd with rfl | rfl <;> simp [F_value_by, m_value_by, c1, c2, c3, e, S, a1]
end BP

namespace BP
/-! ### raised -/
theorem rz_0 (r : Nat → Rat) (n : Nat) : rz r n 0 = r 0 := by
  have := nz (show 0 < n + 1 by omega)
  unfold rz
  rw [Nat.sub_zero]
  push_cast at *
  grind
theorem rz_n (r : Nat → Rat) (n : Nat) : rz r n (n + 1) = r n := by
  have := nz (show 0 < n + 1 by omega)
  unfold rz
  rw [Nat.sub_self, Nat.add_sub_cancel]
  push_cast at *
  grind
theorem inv_in {c : Nat} (h0 : 1 ≤ c) (h : c ≤ 9) : In 2520 1 (1 / (c : Rat)) := by
  have d : c ∣ 2520 := by
    have : ∀ c : Nat, c < 10 → 1 ≤ c → c ∣ 2520 := by decide
    exact this c (by omega) h0
  refine In.dvd (n := c) ⟨1, ?_, by simp; omega⟩ (by decide) d
  rw [dv_eq _ (by omega)]
  rfl
theorem ninth {c : Nat} (h0 : 1 ≤ c) (h : c ≤ 9) : (.tuple [.int 1, .int (c : Int)] : D) = qD (1 / (c : Rat)) := by
  have k : ∀ c : Nat, c < 10 → 1 ≤ c → ((1 / ((c : Nat) : Rat)) : Rat).num = 1 ∧ ((1 / ((c : Nat) : Rat)) : Rat).den = c := by decide +kernel
  obtain ⟨a, b⟩ := k c (by omega) h0
  rw [qD, a, b]
theorem rz_parts {r : List Rat} {N M : Nat} (hN : 0 < N) (hr : Inp N M r) {n i : Nat} (hn : n ≤ 8) (hi : i ≤ n + 1) : In N (9 * M) ((i : Rat) * co r (i - 1)) ∧ In N (9 * M) (((n + 1 - i : Nat) : Rat) * co r i) ∧ In N (9 * M + 9 * M) ((i : Rat) * co r (i - 1) + ((n + 1 - i : Nat) : Rat) * co r i) ∧ In (N * 2520) (9 * M + 9 * M) (rz (co r) n i) := by
  have a : In N (9 * M) ((i : Rat) * co r (i - 1)) := by
    have := (In_int 1 (i : Int) 9 (by decide) (by rw [Int.natAbs_natCast]; omega)).mul (hr.co hN (i - 1)) (by decide) hN
    rwa [Nat.one_mul] at this
  have b : In N (9 * M) (((n + 1 - i : Nat) : Rat) * co r i) := by
    have := (In_int 1 ((n + 1 - i : Nat) : Int) 9 (by decide) (by rw [Int.natAbs_natCast]; omega)).mul (hr.co hN i) (by decide) hN
    rwa [Nat.one_mul] at this
  have s := a.add b hN
  have t := s.mul (inv_in (c := n + 1) (by omega) (by omega)) hN (by decide)
  rw [Nat.mul_one] at t
  exact ⟨a, b, s, t⟩
theorem iR2N {a b : ME} {env : Env} {st : Pt} {k : Nat} (ha : a env st = .ok (.im (.int 1), st)) (hb : b env st = .ok (.im (.int (k : Int)), st)) (h1 : k ≤ 1000) : iRange2 a b env st = .ok (rangeL 1 (k : Int), st) := by
  unfold iRange2
  rw [ha]
  show ((b env st).bind _) = _
  rw [hb]
  exact if_pos ⟨by omega, by omega⟩
theorem range1_get {n : Nat} {i : Nat} {d : D} (h : (rangeL 1 ((n + 1 : Nat) : Int))[i]? = some d) : i < n ∧ d = .int (((i + 1 : Nat)) : Int) := by
  have hl : (rangeL 1 ((n + 1 : Nat) : Int)).length = n := by simp [rangeL]
  have hi : i < n := by
    have := (List.getElem?_eq_some_iff.mp h).1
    omega
  refine ⟨hi, ?_⟩
  have e : ((((n + 1 : Nat) : Int) - 1)).toNat = n := by omega
  simp only [rangeL, e] at h
  simp [hi] at h
  rw [← h]
  congr 1
  omega
theorem range1_len (n : Nat) : (rangeL 1 ((n + 1 : Nat) : Int)).length = n := by simp [rangeL]
theorem raised_of_ok (d : D) (row : List Rat) (N M : Nat) (hd : Row d row) (n : Nat) (hn : row.length = n + 1) (hn8 : n ≤ 8) (hN : 0 < N) (hr : Inp N M row) (hc : Cap N (9 * M + 9 * M)) : F_raised_of [d] = .ok (pL (tab (rz (co row) n) (n + 2))) := by
  have fr : ∀ i, Fit (co row i) := fun i => (hr.co hN i).fit hN (hc.mono (by omega))
  let I : Nat → Env → Prop := fun k env => ∃ x y z, env = [.im d, .im (.int ((n + 1 : Nat) : Int)), .ow (pL (tab (rz (co row) n) (k + 1))), x, y, z] ∧ isPt x = false ∧ isPt y = false ∧ isPt z = false
  obtain ⟨env2, e, x, y, z, rfl, _⟩ := forL_inv (p := .nm 3) (b := b_raised_of_1) (st := []) (ds := rangeL 1 ((n + 1 : Nat) : Int)) I (fun k d1 hd1 env hI => by
    obtain ⟨x, y, z, rfl, h1, h2, h3⟩ := hI
    obtain ⟨hk, rfl⟩ := range1_get hd1
    obtain ⟨i1, i2, i3, i4⟩ := rz_parts hN hr (n := n) (i := k + 1) hn8 (by omega)
    rw [Nat.add_sub_cancel] at i1 i3
    have c1 := co_at row k (by omega)
    have c2 := co_at row (k + 1) (by omega)
    have ek : ((k + 1 : Nat) : Int) - 1 = (k : Int) := by omega
    have es : ((n + 1 : Nat) : Int) - ((k + 1 : Nat) : Int) = ((n + 1 - (k + 1) : Nat) : Int) := by omega
    have m1 : F_multiply [qD (co row k), qD ((k + 1 : Nat) : Rat)] = .ok (qD (((k + 1 : Nat) : Rat) * co row k)) := by
      have := mul_op (co row k) ((k + 1 : Nat) : Rat) (fr k) (fit_nat _ (by omega))
      rw [this]
      congr 2
      grind
    have m2 : F_multiply [qD (co row (k + 1)), qD ((n + 1 - (k + 1) : Nat) : Rat)] = .ok (qD (((n + 1 - (k + 1) : Nat) : Rat) * co row (k + 1))) := by
      have := mul_op (co row (k + 1)) ((n + 1 - (k + 1) : Nat) : Rat) (fr (k + 1)) (fit_nat _ (by omega))
      rw [this]
      congr 2
      grind
    have a1 : F_add [qD (((k + 1 : Nat) : Rat) * co row k), qD (((n + 1 - (k + 1) : Nat) : Rat) * co row (k + 1))] = .ok (qD (((k + 1 : Nat) : Rat) * co row k + ((n + 1 - (k + 1) : Nat) : Rat) * co row (k + 1))) := add_op _ _ (i1.fit hN (hc.mono (by omega))) (i2.fit hN (hc.mono (by omega)))
    have v1 : F_divide [qD (((k + 1 : Nat) : Rat) * co row k + ((n + 1 - (k + 1) : Nat) : Rat) * co row (k + 1)), qD ((n + 1 : Nat) : Rat)] = .ok (qD (rz (co row) n (k + 1))) := by
      rw [divide_ok _ _ (i3.fit hN hc) (fit_nat _ (by omega)) (nz (by omega))]
      congr 2
      unfold rz
      rw [Nat.add_sub_cancel]
      grind
    have q : ∀ c : Nat, (.tuple [.int (c : Int), .int 1] : D) = qD ((c : Nat) : Rat) := fun c => qi _
    have q1' := q (k + 1)
    have q2' := q (n + 1 - (k + 1))
    have q3' := q (n + 1)
    have l1 : k + 1 < 1000000 := by omega
    have s1 : (sPar2 4 5 false false (mCall F_multiply (aCons (mBin oIx (mVar 0) (mBin oSub (mVar 3) (mC (.int 1)))) (aCons (mTup (aCons (mVar 3) (aCons (mC (.int 1)) aNil))) aNil))) (mCall F_multiply (aCons (mBin oIx (mVar 0) (mVar 3)) (aCons (mTup (aCons (mBin oSub (mVar 1) (mVar 3)) (aCons (mC (.int 1)) aNil))) aNil)))) [.im d, .im (.int ((n + 1 : Nat) : Int)), .ow (pL (tab (rz (co row) n) (k + 1))), .im (.int ((k + 1 : Nat) : Int)), y, z] [] = .ok (.nx [.im d, .im (.int ((n + 1 : Nat) : Int)), .ow (pL (tab (rz (co row) n) (k + 1))), .im (.int ((k + 1 : Nat) : Int)), .im (qD (((k + 1 : Nat) : Rat) * co row k)), .im (qD (((n + 1 - (k + 1) : Nat) : Rat) * co row (k + 1)))] []) := by
      generalize ((n + 1 : Nat) : Int) = A at *
      generalize ((k + 1 : Nat) : Int) = B at *
      rcases hd with rfl | rfl <;> simp only [sPar2, mCall, aCons, mBin, mVar, getE, mC, mTup, aNil, R.bind, EV.view, oSub, ek, oIx, c1, c2, EV.val, es, List.length_cons, List.length_nil, LIM, Nat.reduceAdd, Nat.reduceLeDiff, if_true, q1', q2', m1, m2, keepE, Bool.false_eq_true, if_false, putE, h2, h3, setE]
    refine ⟨[.im d, .im (.int ((n + 1 : Nat) : Int)), .ow (pL (tab (rz (co row) n) (k + 1))), .im (.int ((k + 1 : Nat) : Int)), y, z], by simp [h1], [.im d, .im (.int ((n + 1 : Nat) : Int)), .ow (pL (tab (rz (co row) n) (k + 1 + 1))), .im (.int ((k + 1 : Nat) : Int)), .im (qD (((k + 1 : Nat) : Rat) * co row k)), .im (qD (((n + 1 - (k + 1) : Nat) : Rat) * co row (k + 1)))], ?_, _, _, _, rfl, rfl, rfl, rfl⟩
    unfold b_raised_of_1
    rw [seq_nx s1, tab_succ (rz (co row) n) (k + 1), pL_app]
    generalize ((n + 1 : Nat) : Int) = A at *
    simp only [sAppend, mCall, aCons, mVar, getE, mTup, mC, aNil, R.bind, EV.val, a1, List.length_cons, List.length_nil, LIM, Nat.reduceAdd, Nat.reduceLeDiff, if_true, q3', v1, pL_len, tab_len, l1, setE, pL_cons, pL_nil]) (env := [.im d, .im (.int ((n + 1 : Nat) : Int)), .ow [qD (co row 0)], .no, .no, .no]) ⟨.no, .no, .no, by simp [tab, rz_0], rfl, rfl, rfl⟩
  rw [range1_len] at e
  have R := iR2N (a := mC (.int 1)) (b := mVar 1) (env := [.im d, .im (.int ((n + 1 : Nat) : Int)), .ow [qD (co row 0)], .no, .no, .no]) (st := []) (k := n + 1) rfl rfl (by omega)
  have c0 := co_at row 0 (by omega)
  have cl : atD (pL row) (-1) = some (qD (co row n)) := by
    have e1 : row = tab (co row) (n + 1) := tab_ext hn fun k _ => rfl
    have e2 := congrArg pL e1
    rw [tab_succ, pL_app] at e2
    rw [e2]
    exact at_last _ _
  have k1 : (sPar2 1 2 false true (mB bLen (vCons (mVar 0) vNil)) (mLst (aCons (mBin oIx (mVar 0) (mC (.int 0))) aNil))) [.im d, .no, .no, .no, .no, .no] [] = .ok (.nx [.im d, .im (.int ((n + 1 : Nat) : Int)), .ow [qD (co row 0)], .no, .no, .no] []) := by
    have c0' : atD (pL row) 0 = some (qD (co row 0)) := c0
    rcases hd with rfl | rfl <;> simp [hn, c0']
  have k2 : (sFor (iRange2 (mC (.int 1)) (mVar 1)) (.nm 3) b_raised_of_1) [.im d, .im (.int ((n + 1 : Nat) : Int)), .ow [qD (co row 0)], .no, .no, .no] [] = .ok (.nx [.im d, .im (.int ((n + 1 : Nat) : Int)), .ow (pL (tab (rz (co row) n) (n + 1))), x, y, z] []) := by
    unfold sFor
    rw [R]
    exact e
  have ad : oAdd (.list (pL (tab (rz (co row) n) (n + 1)))) (.list [qD (co row n)]) = .ok (.ow (pL (tab (rz (co row) n) (n + 2)))) := by
    rw [oAdd_l, if_pos (by simp; omega), tab_succ _ (n + 1), pL_app, rz_n]
    rfl
  refine runPo_ro (st := []) rfl ?_
  show m_raised_of [.im d, .no, .no, .no, .no, .no] [] = _
  unfold m_raised_of
  rw [seq_nx k1, seq_nx k2]
  rcases hd with rfl | rfl <;> simp [-oAdd_l, cl, ad]
theorem raised_at_ok (d : D) (row : List Rat) (hd : Row d row) (n : Nat) (hn : row.length = n + 1) (hn8 : n ≤ 7) (hs : row.all sm = true) : F_raised [d] = .ok (pL (tab (rz (co row) n) (n + 2))) ∧ V_raised [d] = .ok (pD (tab (rz (co row) n) (n + 2))) := by
  have c1 := check_row_ok hd (by omega) (by omega) hs
  have c2 : F_want_at_most [.str "size", .int 8, .int (row.length : Int)] = .ok .none := by
    have : ¬ (8 : Int) < (row.length : Int) := by omega
    simp [F_want_at_most, m_want_at_most, this]
  have r := raised_of_ok d row LC 999 hd n hn (by omega) LC_pos (sms_in hs) (by constructor <;> decide +kernel)
  have k : F_raised [d] = .ok (pL (tab (rz (co row) n) (n + 2))) := by
    refine runPo_ro (st := []) rfl ?_
    show m_raised [.im d] [] = _
    have s1 : (sExpr (mCall F_check_row (aCons (mVar 0) aNil))) [.im d] [] = .ok (.nx [.im d] []) := by simp [c1]
    have s2 : (sExpr (mCall F_want_at_most (aCons (mC (.str "size")) (aCons (mC (.int 8)) (aCons (mB bLen (vCons (mVar 0) vNil)) aNil))))) [.im d] [] = .ok (.nx [.im d] []) := by
      rcases hd with rfl | rfl <;> simp [c2]
    unfold m_raised
    rw [seq_nx s1, seq_nx s2]
    simp [r]
  refine ⟨k, ?_⟩
  unfold V_raised
  rw [k]
  rfl
/-! the law's own raised row -/
theorem l_raised_ok (row : List Rat) (N M : Nat) (n : Nat) (hn : row.length = n + 1) (hn8 : n ≤ 8) (hN : 0 < N) (hr : Inp N M row) (hc : Cap N (9 * M + 9 * M)) : F__law_raised [pD row] = .ok (pD (tab (rz (co row) n) (n + 2))) := by
  have fr : ∀ i, Fit (co row i) := fun i => (hr.co hN i).fit hN (hc.mono (by omega))
  let I : Nat → Env → Prop := fun k env => ∃ x y z, env = [.im (pD row), .im (.int (n : Int)), .ow (pL (tab (rz (co row) n) k)), x, y, z] ∧ isPt x = false ∧ isPt y = false ∧ isPt z = false
  obtain ⟨env2, e, x, y, z, rfl, _⟩ := forL_inv (p := .nm 3) (b := b__law_raised_1) (st := []) (ds := rangeL 0 ((n + 2 : Nat) : Int)) I (fun k d1 hd1 env hI => by
    obtain ⟨x, y, z, rfl, h1, h2, h3⟩ := hI
    obtain ⟨hk, rfl⟩ := range_get hd1
    obtain ⟨i1, i2, i3, i4⟩ := rz_parts hN hr (n := n) (i := k) hn8 (by omega)
    have q : ∀ c : Nat, (.tuple [.int (c : Int), .int 1] : D) = qD ((c : Nat) : Rat) := fun c => qi _
    -- ahead
    obtain ⟨A, hA⟩ : ∃ A, A = (k : Rat) * co row (k - 1) := ⟨_, rfl⟩
    obtain ⟨B, hB⟩ : ∃ B, B = ((n + 1 - k : Nat) : Rat) * co row k := ⟨_, rfl⟩
    rw [← hA] at i1 i3
    rw [← hB] at i2 i3
    have a1 : F__law_plus [qD A, qD B] = .ok (qD (A + B)) := l_plus_op _ _ (i1.fit hN (hc.mono (by omega))) (i2.fit hN (hc.mono (by omega)))
    have t1 : F__law_times [qD (A + B), qD (1 / ((n + 1 : Nat) : Rat))] = .ok (qD (rz (co row) n k)) := by
      have := l_times_op (A + B) (1 / ((n + 1 : Nat) : Rat)) (i3.fit hN hc) ((inv_in (c := n + 1) (by omega) (by omega)).fit (by decide) (by constructor <;> decide +kernel))
      rw [this, hA, hB]
      rfl
    have n9 := ninth (c := n + 1) (by omega) (by omega)
    have s1 : (sSet 4 (mIf (mBin oGt (mVar 3) (mC (.int 0))) (mCall F__law_times (aCons (mBin oIx (mVar 0) (mBin oSub (mVar 3) (mC (.int 1)))) (aCons (mTup (aCons (mVar 3) (aCons (mC (.int 1)) aNil))) aNil))) (mTup (aCons (mC (.int 0)) (aCons (mC (.int 1)) aNil))))) [.im (pD row), .im (.int (n : Int)), .ow (pL (tab (rz (co row) n) k)), .im (.int (k : Int)), y, z] [] = .ok (.nx [.im (pD row), .im (.int (n : Int)), .ow (pL (tab (rz (co row) n) k)), .im (.int (k : Int)), .im (qD A), z] []) := by
      by_cases h : k = 0
      · subst h
        have : A = 0 := by rw [hA]; simp
        rw [this]
        simp [h2, q0]
      · have c1 := co_at row (k - 1) (by omega)
        have ek : (k : Int) - 1 = ((k - 1 : Nat) : Int) := by omega
        have m1 : F__law_times [qD (co row (k - 1)), qD ((k : Nat) : Rat)] = .ok (qD A) := by
          rw [l_times_op (co row (k - 1)) ((k : Nat) : Rat) (fr _) (fit_nat _ (by omega)), hA]
          congr 2
          grind
        have hk0 : (0 : Int) < (k : Int) := by omega
        simp only [sSet, mIf, mCall, aCons, mBin, mVar, getE, mC, mTup, aNil, R.bind, EV.view, pD, oGt, bl, hk0, decide_true, oSub, ek, oIx, c1, EV.val, List.length_cons, List.length_nil, LIM, Nat.reduceAdd, Nat.reduceLeDiff, if_true, q, m1, putE, h2, Bool.false_eq_true, if_false, setE]
    have s2 : (sSet 5 (mIf (mBin oLe (mVar 3) (mVar 1)) (mCall F__law_times (aCons (mBin oIx (mVar 0) (mVar 3)) (aCons (mTup (aCons (mBin oSub (mBin oAdd (mVar 1) (mC (.int 1))) (mVar 3)) (aCons (mC (.int 1)) aNil))) aNil))) (mTup (aCons (mC (.int 0)) (aCons (mC (.int 1)) aNil))))) [.im (pD row), .im (.int (n : Int)), .ow (pL (tab (rz (co row) n) k)), .im (.int (k : Int)), .im (qD A), z] [] = .ok (.nx [.im (pD row), .im (.int (n : Int)), .ow (pL (tab (rz (co row) n) k)), .im (.int (k : Int)), .im (qD A), .im (qD B)] []) := by
      by_cases h : k ≤ n
      · have c1 := co_at row k (by omega)
        have ek : (n : Int) + 1 - (k : Int) = ((n + 1 - k : Nat) : Int) := by omega
        have m1 : F__law_times [qD (co row k), qD ((n + 1 - k : Nat) : Rat)] = .ok (qD B) := by
          rw [l_times_op (co row k) ((n + 1 - k : Nat) : Rat) (fr _) (fit_nat _ (by omega)), hB]
          congr 2
          grind
        have hk0 : (k : Int) ≤ (n : Int) := by omega
        simp only [sSet, mIf, mCall, aCons, mBin, mVar, getE, mC, mTup, aNil, R.bind, EV.view, pD, oLe, bl, hk0, decide_true, oSub, oAdd, ek, oIx, c1, EV.val, List.length_cons, List.length_nil, LIM, Nat.reduceAdd, Nat.reduceLeDiff, if_true, q, m1, putE, h3, Bool.false_eq_true, if_false, setE]
      · have hk0 : ¬ k ≤ n := h
        have : B = 0 := by
          rw [hB, show n + 1 - k = 0 by omega]
          simp
        rw [this]
        simp [h3, q0, hk0]
    have l1 : k < 1000000 := by omega
    refine ⟨[.im (pD row), .im (.int (n : Int)), .ow (pL (tab (rz (co row) n) k)), .im (.int (k : Int)), y, z], by simp [h1], [.im (pD row), .im (.int (n : Int)), .ow (pL (tab (rz (co row) n) (k + 1))), .im (.int (k : Int)), .im (qD A), .im (qD B)], ?_, _, _, _, rfl, rfl, rfl, rfl⟩
    unfold b__law_raised_1
    rw [seq_nx s1, seq_nx s2, tab_succ, pL_app]
    have ec : (n : Int) + 1 = ((n + 1 : Nat) : Int) := rfl
    simp only [sAppend, mCall, aCons, mVar, getE, mBin, mTup, mC, aNil, R.bind, EV.val, EV.view, oAdd, ec, a1, n9, t1, List.length_cons, List.length_nil, LIM, Nat.reduceAdd, Nat.reduceLeDiff, if_true, pL_len, tab_len, l1, setE, pL_cons, pL_nil]) (env := [.im (pD row), .im (.int (n : Int)), .ow [], .no, .no, .no]) ⟨.no, .no, .no, rfl, rfl, rfl, rfl⟩
  rw [range_len] at e
  have R := iR1N (m := mBin oAdd (mVar 1) (mC (.int 2))) (env := [.im (pD row), .im (.int (n : Int)), .ow [], .no, .no, .no]) (st := []) (st' := []) (k := n + 2) rfl (by omega)
  have k1 : (sPar2 1 2 false true (mBin oSub (mB bLen (vCons (mVar 0) vNil)) (mC (.int 1))) (mLst aNil)) [.im (pD row), .no, .no, .no, .no, .no] [] = .ok (.nx [.im (pD row), .im (.int (n : Int)), .ow [], .no, .no, .no] []) := by
    have ee : (row.length : Int) - 1 = (n : Int) := by omega
    simp [pD, ee]
  have k2 : (sFor (iRange1 (mBin oAdd (mVar 1) (mC (.int 2)))) (.nm 3) b__law_raised_1) [.im (pD row), .im (.int (n : Int)), .ow [], .no, .no, .no] [] = .ok (.nx [.im (pD row), .im (.int (n : Int)), .ow (pL (tab (rz (co row) n) (n + 2))), x, y, z] []) := by
    unfold sFor
    rw [R]
    exact e
  refine runP_rt (st := []) rfl ?_
  show m__law_raised [.im (pD row), .no, .no, .no, .no, .no] [] = _
  unfold m__law_raised
  rw [seq_nx k1, seq_nx k2]
  simp [pD]
end BP

namespace BP
theorem lcL_opt {pt : Pat} {c e : ME} {env : Env} {st : Pt} : ∀ (ds : List D) (f : List (Option Rat)), ds.length = f.length → (∀ (i : Nat) (d : D) (o : Option Rat), ds[i]? = some d → f[i]? = some o → ∃ env1, pt.set d env = .ok env1 ∧ c env1 st = .ok (.im (.bool o.isSome), st) ∧ ∀ x, o = some x → e env1 st = .ok (.im (qD x), st)) → lcL pt c e env ds st = .ok (pL (f.filterMap id), st)
  | [], [], _, _ => by simp [lcL]
  | [], _ :: _, h, _ => by simp at h
  | _ :: _, [], h, _ => by simp at h
  | d :: ds, o :: f, hl, h => by
    obtain ⟨env1, e1, e2, e3⟩ := h 0 d o rfl rfl
    have ih := lcL_opt (pt := pt) (c := c) (e := e) (env := env) (st := st) ds f (by simpa using hl) fun i d' x' h1 h2 => h (i + 1) d' x' (by simpa using h1) (by simpa using h2)
    cases o with
    | none => simp [lcL, e1, e2, ih]
    | some x => simp [lcL, e1, e2, e3 x rfl, ih]
theorem sumL_fm (g : Nat → Option Rat) : ∀ n, sumL (((List.range n).map g).filterMap id) = su (fun k => (g k).getD 0) n
  | 0 => rfl
  | n + 1 => by
    rw [List.range_succ, List.map_append, List.filterMap_append, sumL_app, sumL_fm g n, su]
    cases h : g n with
    | none => simp [h, sumL]
    | some x => simp [h, sumL]; grind
theorem fm_len (g : Nat → Option Rat) (n : Nat) : (((List.range n).map g).filterMap id).length ≤ n := by
  refine Nat.le_trans (List.length_filterMap_le _ _) ?_
  simp
theorem prod2_ok (p q : List Rat) (n m n1 m1 : Nat) (h0 : 0 < n) (h1 : 0 < n1) (hp : Inp n m p) (hq : Inp n1 m1 q) (fp : Fits p) (fq : Fits q) (hl : p.length < 90) (hl2 : q.length < 90) (hc : Cap (n * n1) ((p.length + 1) * (m * m1))) : BP2.F__law_product [pD p, pD q] = .ok (pD (strip (pmul p q))) := by
  let I : Nat → Env → Prop := fun i env => ∃ w x, env = [.im (pD p), .im (pD q), .ow (pL (tab (cv p q) i)), w, x] ∧ isPt w = false ∧ isLk x = false
  obtain ⟨env2, e, w, x, rfl, _⟩ := forL_inv (p := .nm 3) (b := BP2.b__law_product_1) (st := []) (ds := rangeL 0 ((p.length + q.length : Nat) : Int)) I (fun w d1 hd1 env hI => by
    obtain ⟨a, x, rfl, ha, hx⟩ := hI
    obtain ⟨hi, rfl⟩ := range_get hd1
    let g : Nat → Option Rat := fun k => if k ≤ w ∧ w - k < q.length then some (co p k * co q (w - k)) else none
    have L := lcL_opt (pt := .nm 4) (c := mChain oLe oLt (mC (.int 0)) (mBin oSub (mVar 3) (mVar 4)) (mB bLen (vCons (mVar 1) vNil))) (e := mCall BP2.F__law_times (aCons (mBin oIx (mVar 0) (mVar 4)) (aCons (mBin oIx (mVar 1) (mBin oSub (mVar 3) (mVar 4))) aNil))) (env := [.im (pD p), .im (pD q), .ow (pL (tab (cv p q) w)), .im (.int (w : Int)), .no]) (st := []) (rangeL 0 (p.length : Int)) ((List.range p.length).map g) (by rw [range_len]; simp) fun k d o hd ho => by
      obtain ⟨hk, rfl⟩ := range_get hd
      have eo : o = g k := by simp [hk] at ho; exact ho.symm
      refine ⟨[.im (pD p), .im (pD q), .ow (pL (tab (cv p q) w)), .im (.int (w : Int)), .im (.int (k : Int))], by simp, ?_, fun y hy => ?_⟩
      · by_cases c1 : k ≤ w
        · have e1 : (k : Int) ≤ (w : Int) := by omega
          have e2 : ((w : Int) - (k : Int) < (q.length : Int)) ↔ w - k < q.length := by omega
          rw [eo]
          by_cases c2 : w - k < q.length <;> simp [pD, g, c1, c2, e1, e2]
        · have e1 : ¬ (k : Int) ≤ (w : Int) := by omega
          rw [eo]
          simp [pD, g, c1, e1]
      · rw [eo] at hy
        by_cases c : k ≤ w ∧ w - k < q.length
        · have hy2 : co p k * co q (w - k) = y := by
            have : g k = some (co p k * co q (w - k)) := if_pos c
            rw [this] at hy
            injection hy
          have a1 := co_at p k hk
          have a2 := co_at q (w - k) c.2
          have ed : (w : Int) - (k : Int) = ((w - k : Nat) : Int) := by omega
          have T : BP2.F__law_times [qD (co p k), qD (co q (w - k))] = .ok (qD (co p k * co q (w - k))) := times2_op _ _ (fp _ (co_mem hk)) (fq _ (co_mem c.2))
          rw [← hy2]
          simp [pD, a1, ed, a2, T]
        · have : g k = none := if_neg c
          rw [this] at hy
          cases hy
    have ifm : Inp (n * n1) (m * m1) (((List.range p.length).map g).filterMap id) := fun a ha => by
      obtain ⟨o, ho, rfl⟩ := List.mem_filterMap.mp ha
      obtain ⟨k, hk, ek⟩ := List.mem_map.mp ho
      by_cases c : k ≤ w ∧ w - k < q.length
      · have : g k = some (co p k * co q (w - k)) := if_pos c
        rw [this] at ek
        injection ek with ek
        rw [← ek]
        exact (hp.co h0 k).mul (hq.co h1 (w - k)) h0 h1
      · have : g k = none := if_neg c
        rw [this] at ek
        cases ek
    have T := total2_ok _ (n * n1) (m * m1) (Nat.mul_pos h0 h1) ifm (hc.mono (Nat.mul_le_mul_right _ (Nat.succ_le_succ (fm_len g p.length))))
    have es : sumL (((List.range p.length).map g).filterMap id) = cv p q w := by
      rw [sumL_fm]
      refine su_congr fun k hk => ?_
      by_cases c : k ≤ w
      · by_cases c2 : w - k < q.length
        · simp [g, c, c2]
        · rw [if_pos c, co_big (p := q) (by omega)]
          simp [g, c2]
      · simp [g, c]
    rw [es] at T
    have R := iR1N (m := mB bLen (vCons (mVar 0) vNil)) (env := [.im (pD p), .im (pD q), .ow (pL (tab (cv p q) w)), .im (.int (w : Int)), x]) (st := []) (st' := []) (k := p.length) (by simp [pD]) (by omega)
    have ML := mLc_ok' (vs := [4]) R (by rw [range_len]; show _ ≤ 1000000; omega) (by simp [hx]) L
    have l1 : w < 1000000 := by omega
    generalize ((List.range p.length).map g).filterMap id = fm at T ML
    refine ⟨[.im (pD p), .im (pD q), .ow (pL (tab (cv p q) w)), .im (.int (w : Int)), x], by simp [ha], [.im (pD p), .im (pD q), .ow (pL (tab (cv p q) (w + 1))), .im (.int (w : Int)), x], ?_, _, _, rfl, rfl, hx⟩
    rw [tab_succ, pL_app]
    simp [BP2.b__law_product_1, -iRange1, ML, T, l1]) (env := [.im (pD p), .im (pD q), .ow [], .no, .no]) ⟨.no, .no, rfl, rfl, rfl⟩
  rw [range_len] at e
  have R := iR1N (m := mBin oAdd (mB bLen (vCons (mVar 0) vNil)) (mB bLen (vCons (mVar 1) vNil))) (env := [.im (pD p), .im (pD q), .ow [], .no, .no]) (st := []) (st' := []) (k := p.length + q.length) (by simp [pD]) (by omega)
  have T2 := l_told_ok (.list (pL (tab (cv p q) (p.length + q.length)))) _ (Row.l _) (by simp; omega)
  rw [strip_cv] at T2
  have k1 : (sOwn 2 (mLst aNil)) [.im (pD p), .im (pD q), .no, .no, .no] [] = .ok (.nx [.im (pD p), .im (pD q), .ow [], .no, .no] []) := by simp
  have k2 : (sFor (iRange1 (mBin oAdd (mB bLen (vCons (mVar 0) vNil)) (mB bLen (vCons (mVar 1) vNil)))) (.nm 3) BP2.b__law_product_1) [.im (pD p), .im (pD q), .ow [], .no, .no] [] = .ok (.nx [.im (pD p), .im (pD q), .ow (pL (tab (cv p q) (p.length + q.length))), w, x] []) := by
    unfold sFor
    rw [R]
    exact e
  refine runP_rt (st := []) rfl ?_
  show BP2.m__law_product [.im (pD p), .im (pD q), .no, .no, .no] [] = _
  unfold BP2.m__law_product
  rw [seq_nx k1, seq_nx k2]
  simp [T2]
theorem scaled2L_ok : ScaleOk BP2.F__law_scaled := C_scale_ok times2_op l_told_ok
theorem derived2L_ok (p : List Rat) (hl : p.length < 800) (fp : Fits p) : BP2.F__law_derived [pD p] = .ok (pD (strip (dv p))) := by
  have L := lc_enum (F := BP2.F__law_times) (e := mCall BP2.F__law_times (aCons (mTup (aCons (mVar 1) (aCons (mC (.int 1)) aNil))) (aCons (mVar 2) aNil))) (i := 1) (j := 2) (env := [.im (pD p), .no, .no]) (p := p) (fun k : Nat => (k : Rat) * co p k) (fun x y => ⟨[.im (pD p), .im x, .im y], by simp, rfl, rfl⟩) fun k env1 hk h1 h2 => by
    have m : BP2.F__law_times [qD ((k : Nat) : Rat), qD (co p k)] = .ok (qD ((k : Rat) * co p k)) := times2_op _ _ (fit_nat' (by omega)) (fp _ (co_mem hk))
    have q : (.tuple [.int (k : Int), .int 1] : D) = qD ((k : Nat) : Rat) := qi _
    simp [h1, h2, q, m]
  have T := l_told_ok (.list (pL (dv p))) (dv p) (Row.l _) (by rw [dv_len]; omega)
  have l : (enumL (pL p)).length ≤ LIM := by
    rw [enum_len]
    show _ ≤ 1000000
    omega
  have k0 : mLc (iEnumL (mVar 0)) (.tp [(.nm 1), (.nm 2)]) [1, 2] (mC (.bool true)) (mCall BP2.F__law_times (aCons (mTup (aCons (mVar 1) (aCons (mC (.int 1)) aNil))) (aCons (mVar 2) aNil))) [.im (pD p), .no, .no] [] = .ok (.ow (pL ((List.range p.length).map fun k : Nat => (k : Rat) * co p k)), []) := mLc_ok (by simp [pD]) ⟨l, rfl⟩ L
  have e : (pL ((List.range p.length).map fun k : Nat => (k : Rat) * co p k)).tail = pL (dv p) := pL_tail _
  refine runP_rt (st := []) rfl ?_
  show BP2.m__law_derived [.im (pD p), .no, .no] [] = _
  simp [BP2.m__law_derived, k0, cut1, e, T]
theorem summed2L_ok (p : List Rat) (hl : p.length < 700) (fp : Fits p) : BP2.F__law_summed [pD p] = .ok (pD (strip (sm1 p))) := by
  have k0 := sum_eq BP2.F__law_over over2_op p (pD p) (Row.l _) hl fp
  have T := l_told_ok (.list (pL (sm1 p))) (sm1 p) (Row.l _) (by rw [sm1_len]; omega)
  have e := sm1_eq p
  simp only [pL_cons, pL_nil, List.cons_append, List.nil_append] at e
  have l2 : 1 + p.length ≤ 1000000 := by omega
  have l3 : p.length ≤ 999999 := by omega
  refine runP_rt (st := []) rfl ?_
  show BP2.m__law_summed [.im (pD p), .no, .no] [] = _
  simp [BP2.m__law_summed, k0, q0, e, T, sm1_len, l2, l3]
/-! ### from outside: small polys of at most five -/
theorem cf_ok {q : Rat} (hs : sm q = true) : BP2.F_check_fraction [qD q] = .ok .none := by
  simp [BP2.F_check_fraction, BP2.m_check_fraction, is_sm_ok, hs]
end BP

namespace BP
/-! ### areas, changes, rows of a poly -/
theorem total_ok (d : D) (xs : List Rat) (hd : Row d xs) (n m : Nat) (h0 : 0 < n) (hf : Inp n m xs) (hc : Cap n ((xs.length + 1) * m)) : F_total [d] = .ok (qD (sumL xs)) := by
  let I : Nat → Env → Prop := fun i env => ∃ w, env = [.im d, .im (qD (sumL (xs.take i))), w] ∧ isPt w = false
  obtain ⟨env2, e, w, rfl, _⟩ := forL_inv (p := .nm 2) (b := b_total_1) (st := []) (ds := pL xs) I (fun i d1 hd1 env hI => by
    obtain ⟨w, rfl, hw⟩ := hI
    obtain ⟨hi, rfl⟩ := pL_get hd1
    have f1 := (sumL_in h0 (p := xs.take i) fun x hx => hf x (List.mem_of_mem_take hx)).fit h0 (hc.mono (Nat.mul_le_mul_right _ (by simp; omega)))
    have f2 := (hf _ (co_mem hi)).fit h0 (hc.mono (by rw [Nat.add_mul]; omega))
    have a1 : F_add [qD (sumL (xs.take i)), qD (co xs i)] = .ok (qD (sumL (xs.take (i + 1)))) := by
      rw [take_co xs i hi, sumL_snoc]
      exact add_op _ _ f1 f2
    exact ⟨_, by simp [hw]; rfl, _, by simp [b_total_1, a1]; rfl, _, rfl, rfl⟩) (env := [.im d, .im (qD 0), .no]) ⟨_, rfl, rfl⟩
  rw [pL_len, List.take_length] at e
  have k2 : (sFor (iSeq (mVar 0)) (.nm 2) b_total_1) [.im d, .im (qD 0), .no] [] = .ok (.nx [.im d, .im (qD (sumL xs)), w] []) := by
    rcases hd with rfl | rfl <;> simp [sFor, e]
  have k1 : (sSet 1 (mC (.tuple [(.int 0), (.int 1)]))) [.im d, .no, .no] [] = .ok (.nx [.im d, .im (qD 0), .no] []) := by
    simp [q0]
  refine runP_rt (st := []) rfl ?_
  show m_total [.im d, .no, .no] [] = _
  unfold m_total
  rw [seq_nx k1, seq_nx k2]
  rfl
theorem sumL_su (p : List Rat) : sumL p = su (co p) p.length := by
  have e : p = (List.range p.length).map (co p) := tab_ext rfl fun k _ => rfl
  conv => lhs; rw [e]
  exact sumL_map _ _
theorem area_by_ok {d : D} {row : List Rat} {low high : Rat} (hd : Row d row) (hl1 : 1 ≤ row.length) (hl : row.length ≤ 9) (hs : row.all sm = true) (h1 : sm low = true) (h2 : sm high = true) (h : low < high) :
    F_area_by [d, .tuple [qD low, qD high]] = .ok (qD (su (co row) row.length * (high - low) / (row.length : Rat))) := by
  have c1 := check_row_ok hd hl1 hl hs
  have c2 := check_stretch_ok h1 h2 h
  have t := total_ok d row hd LC 999 LC_pos (sms_in hs) (Cap.le (n := LC) (m := 10 * 999) (by constructor <;> decide +kernel) (Nat.le_refl _) (Nat.mul_le_mul_right _ (by omega)))
  rw [sumL_su] at t
  have it := sumL_in LC_pos (sms_in hs)
  rw [sumL_su] at it
  have it9 := it.mono (Nat.mul_le_mul_right 999 hl)
  have k := take_op _ _ (sm_fit h2) (sm_fit h1)
  have iw := wide_in h1 h2
  have m1 := mul_op _ _ (it9.fit LC_pos (by constructor <;> decide +kernel)) (iw.fit LC_pos (by constructor <;> decide +kernel))
  have im := it9.mul iw LC_pos LC_pos
  have d1 := divide_ok (su (co row) row.length * (high - low)) (row.length : Rat) (im.fit (Nat.mul_pos LC_pos LC_pos) (by constructor <;> decide +kernel)) (fit_nat _ (by omega)) (nz (by omega))
  have q : (.tuple [.int (row.length : Int), .int 1] : D) = qD ((row.length : Nat) : Rat) := qi _
  simp only [] at m1 k
  have b : (mB bLen (vCons (mVar 0) vNil)) [.im d, .im (.tuple [qD low, qD high])] [] = .ok (.im (.int (row.length : Int)), []) := by
    rcases hd with rfl | rfl <;> simp
  have s1 : (sExpr (mCall F_check_row (aCons (mVar 0) aNil))) [.im d, .im (.tuple [qD low, qD high])] [] = .ok (.nx [.im d, .im (.tuple [qD low, qD high])] []) := by simp [c1]
  have s2 : (sExpr (mCall F_check_stretch (aCons (mVar 1) aNil))) [.im d, .im (.tuple [qD low, qD high])] [] = .ok (.nx [.im d, .im (.tuple [qD low, qD high])] []) := by simp [c2]
  refine runP_rt (st := []) rfl ?_
  show m_area_by [.im d, .im (.tuple [qD low, qD high])] [] = _
  unfold m_area_by
  rw [seq_nx s1, seq_nx s2]
  simp [-mB, b, t, k, m1, q, d1]
/-! changes -/
theorem lcL_cnt {pt : Pat} {c e : ME} {env : Env} {st : Pt} (g : Nat → Bool) : ∀ (ds : List D), (∀ (i : Nat) (d : D), ds[i]? = some d → ∃ env1, pt.set d env = .ok env1 ∧ c env1 st = .ok (.im (.bool (g i)), st) ∧ ∃ x, e env1 st = .ok (.im x, st)) → ∃ xs, lcL pt c e env ds st = .ok (xs, st) ∧ xs.length = cntN g ds.length := fun ds => by
  induction ds generalizing g with
  | nil => exact fun _ => ⟨[], by simp [lcL], rfl⟩
  | cons d ds ih =>
    intro h
    obtain ⟨env1, e1, e2, x, e3⟩ := h 0 d rfl
    obtain ⟨xs, e4, e5⟩ := ih (fun k => g (k + 1)) fun i d' h1 => h (i + 1) d' (by simpa using h1)
    cases hg : g 0 with
    | false =>
      rw [hg] at e2
      exact ⟨xs, by simp [lcL, e1, e2, e4], by rw [e5, List.length_cons, cntN_head, hg]; simp [n1]⟩
    | true =>
      rw [hg] at e2
      exact ⟨x :: xs, by simp [lcL, e1, e2, e3, e4], by rw [List.length_cons, e5, List.length_cons, cntN_head, hg]; simp [n1]; omega⟩
theorem zipT_get (s : List Rat) (i : Nat) (d : D) (h : (zipL (pL s) (pL s.tail))[i]? = some d) : i + 1 < s.length ∧ d = .tuple [qD (co s i), qD (co s (i + 1))] := by
  have hl : (zipL (pL s) (pL s.tail)).length = s.length - 1 := by
    rw [zipL_len]
    simp
  have hi : i < s.length - 1 := by
    have := (List.getElem?_eq_some_iff.mp h).1
    omega
  have e1 : (pL s)[i]? = some (qD (co s i)) := by
    have : i < s.length := by omega
    simp [pL, co, this]
  have e2 : (pL s.tail)[i]? = some (qD (co s (i + 1))) := by
    have h1 : i < s.tail.length := by simp; omega
    have h2 : i + 1 < s.length := by omega
    simp [pL, co, h2]
  have := zipL_get _ _ _ _ _ e1 e2
  rw [h] at this
  injection this with this
  exact ⟨by omega, this⟩
theorem zipT_len (s : List Rat) : (zipL (pL s) (pL s.tail)).length = s.length - 1 := by
  rw [zipL_len]
  simp
theorem num0 (q : Rat) : (q.num == 0) = decide (q = 0) := by
  rw [Bool.eq_iff_iff, beq_iff_eq, decide_eq_true_iff, Rat.num_eq_zero]
theorem pos_num (q : Rat) : decide (0 < q.num) = decide (0 < q) := by
  have : (0 < q) ↔ 0 < q.num := by rw [Rat.lt_iff]; simp
  simp [this]
theorem opp_pos {a b : Rat} (ha : a ≠ 0) (hb : b ≠ 0) : (!(decide (0 < a) == decide (0 < b))) = opp a b := by
  by_cases h1 : 0 < a <;> by_cases h2 : 0 < b
  · have : ¬ b < 0 := by grind
    simp [opp, h1, h2, this]
    grind
  · have : b < 0 := by grind
    simp [opp, h1, h2, this]
  · have : a < 0 := by grind
    simp [opp, h1, h2, this]
  · have : ¬ 0 < b := h2
    simp [opp, h1, h2]
theorem changes_ok {d : D} {row : List Rat} (hd : Row d row) (hl1 : 1 ≤ row.length) (hl : row.length ≤ 9) (hs : row.all sm = true) : F_changes [d] = .ok (.int (VS 0 row : Nat)) := by
  have c1 := check_row_ok hd hl1 hl hs
  obtain ⟨s, hsd⟩ : ∃ s, s = row.filter fun a => decide (a ≠ 0) := ⟨_, rfl⟩
  have ls : s.length ≤ row.length := by
    rw [hsd]
    exact List.length_filter_le _ _
  have F := lcL_opt (pt := .nm 2) (c := mBin oNe (mBin oIx (mVar 2) (mC (.int 0))) (mC (.int 0))) (e := mVar 2) (env := [.im d, .no, .no, .no]) (st := []) (pL row) (row.map fun a => if a = 0 then none else some a) (by simp) fun i d' y hd' hy => by
    obtain ⟨hi, rfl⟩ := pL_get hd'
    have ey : y = if co row i = 0 then none else some (co row i) := by
      have ex : row[i] = co row i := by simp [co, hi]
      simp [hi] at hy
      rw [← hy, ex]
    refine ⟨[.im d, .no, .im (qD (co row i)), .no], by simp, ?_, fun z hz => ?_⟩
    · rw [ey]
      by_cases c : co row i = 0
      · rw [c]
        simp [qD, sh_i, eqv_i]
      · have := num0 (co row i)
        simp [qD, sh_i, eqv_i, this, c]
    · rw [ey] at hz
      by_cases c : co row i = 0
      · rw [if_pos c] at hz
        cases hz
      · rw [if_neg c] at hz
        injection hz with hz
        rw [← hz]
        simp
  have ef : (row.map fun a => if a = 0 then none else some a).filterMap id = s := by
    rw [List.filterMap_map, hsd]
    clear F hl hl1 hs hd hsd c1 ls
    induction row with
    | nil => rfl
    | cons a L ih =>
      by_cases c : a = 0 <;> simp [c] at ih ⊢ <;> exact ih
  rw [ef] at F
  have nz0 : ∀ i, i < s.length → co s i ≠ 0 := fun i hi => by
    have := co_mem hi
    rw [hsd] at this
    have := (List.mem_filter.mp this).2
    rw [← hsd] at this
    simpa using this
  obtain ⟨xs, C, lx⟩ := lcL_cnt (pt := .tp [.nm 2, .nm 3]) (c := mBin oNe (mBin oGt (mBin oIx (mVar 2) (mC (.int 0))) (mC (.int 0))) (mBin oGt (mBin oIx (mVar 3) (mC (.int 0))) (mC (.int 0)))) (e := mVar 2) (env := [.im d, .im (pD s), .no, .no]) (st := []) (fun i => opp (co s i) (co s (i + 1))) (zipL (pL s) (pL s.tail)) fun i d' h => by
    obtain ⟨hi, rfl⟩ := zipT_get s i d' h
    refine ⟨[.im d, .im (pD s), .im (qD (co s i)), .im (qD (co s (i + 1)))], by simp, ?_, qD (co s i), by simp⟩
    have eb : ∀ a b : Bool, PySem.PyData.eqv (.bool a) (.bool b) = (a == b) := fun a b => by simp [PySem.PyData.eqv]
    have := opp_pos (nz0 i (by omega)) (nz0 (i + 1) hi)
    rw [← this, ← pos_num, ← pos_num]
    simp [qD, sh_b, eb]
  rw [zipT_len] at lx
  have hv : VS 0 row = xs.length := by rw [VS_filter, ← hsd, CS_0, lx]
  have M1 := mLc_ok' (it := iSeq (mVar 0)) (vs := [2]) (env := [.im d, .no, .no, .no]) (st := []) (ds := pL row) (by rcases hd with rfl | rfl <;> simp) (by rw [pL_len]; show _ ≤ 1000000; omega) rfl F
  have cz : cutD (pL s) (some 1) none = pL s.tail := by rw [cut1, pL_tail]
  have M2 := mLc_ok' (it := iZipS (mVar 1) (mCut (mVar 1) (oSome (mC (.int 1))) oNone)) (vs := [2, 3]) (env := [.im d, .im (pD s), .no, .no]) (st := []) (ds := zipL (pL s) (pL s.tail)) (by simp [pD, cz]) (by rw [zipT_len]; show _ ≤ 1000000; omega) rfl C
  have k : F_changes_of [d] = .ok (.int (VS 0 row : Nat)) := by
    refine runP_rt (st := []) rfl ?_
    show m_changes_of [.im d, .no, .no, .no] [] = _
    unfold m_changes_of
    rw [seq_nx (sSet_ok (u := pD s) M1 rfl rfl), hv]
    simp [-iZipS, -oNe, M2]
  rcases hd with rfl | rfl <;> simp [F_changes, m_changes, c1, k]
/-! is a row of a poly -/
theorem are_fr_ok {d : D} {p : List Rat} (h : Row d p) (hl : p.length ≤ 1000) : F_are_fractions [d] = .ok (.bool true) := by
  have l := is_list_ok h
  have L := fun x : EV => lc_bools (e := mCall F_is_fraction_of (aCons (mVar 1) aNil)) (env := [x, .no]) (st := []) (pt := .nm 1) (fun _ => true) (p := p) fun a ha => ⟨[x, .im (qD a)], by simp, by simp [is_fr_ok]⟩
  have hl2 : p.length ≤ 1000000 := by omega
  have B := bAll_q p fun _ => true
  have T : (p.all fun _ => true) = true := by simp
  rw [T] at B
  rcases h with rfl | rfl <;> simp [F_are_fractions, m_are_fractions, l, mLc, hl2, L, B]
theorem is_row_ok {poly : List Rat} {low high : Rat} {row : List Rat} {q : List Rat} (hl : poly.length ≤ 5) (hs : poly.all sm = true) (h1 : sm low = true) (h2 : sm high = true) (h : low < high) (hr1 : 1 ≤ row.length) (hr9 : row.length ≤ 9) (hp : F_poly_by [pD row, qD low, qD high] = .ok (pD q)) : F_is_row_of [pD poly, .tuple [qD low, qD high], pD row] = .ok (.bool (decide (q = strip poly))) := by
  have c1 := check_poly_ok (Row.l poly) hl hs
  have c2 := check_stretch_ok h1 h2 h
  have l := is_list_ok (Row.l row)
  have f := are_fr_ok (Row.l row) (by omega)
  have t := told_ok (pD poly) poly (Row.l _) (by omega)
  have l1 : (1 : Int) ≤ (row.length : Int) := by omega
  have l2 : (row.length : Int) ≤ 9 := by omega
  have E1 := sh_p q
  have E2 := sh_p (strip poly)
  have E3 := eqv_p q (strip poly)
  unfold pD at *
  simp [F_is_row_of, m_is_row_of, c1, c2, l, f, t, l1, l2, hp, E1, E2, E3]
end BP

namespace BP
/-! ### a poly of a line: derived, its area -/
theorem ev_dv_pmulr' (x : Rat) (q : List Rat) : ∀ p : List Rat, ev (dv (pmulr p q)) x = ev (dv p) x * ev q x + ev p x * ev (dv q) x
  | [] => by
    simp [pmulr, dv]
    grind
  | a :: p => by
    rw [pmulr, ev_dv_padd, ev_dv_pmulc, ev_dv_cons, ev_dv_cons, ev_dv_pmulr' x q p, ev_pmulr, ev_cons]
    grind
/-- U at a + b t -/
def cmp (a b : Rat) : List Rat → List Rat
  | [] => []
  | c :: U => padd [c] (pmulr [a, b] (cmp a b U))
theorem ev_cmp (a b t : Rat) : ∀ U : List Rat, ev (cmp a b U) t = ev U (a + b * t)
  | [] => rfl
  | c :: U => by
    rw [cmp, ev_padd, ev_pmulr, ev_cmp a b t U, ev_cons]
    simp
    grind
theorem ev_dv_cmp (a b t : Rat) : ∀ U : List Rat, ev (dv (cmp a b U)) t = b * ev (dv U) (a + b * t)
  | [] => by
    simp [cmp, dv]
  | c :: U => by
    have e1 : ev (dv [c]) t = 0 := by
      rw [ev_dv_cons]
      simp [dv]
      grind
    have e2 : ev (dv [a, b]) t = b := by
      rw [ev_dv_cons, ev_dv_cons]
      simp [dv]
      grind
    rw [cmp, ev_dv_padd, e1, ev_dv_pmulr', e2, ev_dv_cmp a b t U, ev_cmp, ev_dv_cons]
    simp
    grind
/-- told by its values: derived -/
theorem dv_of {p U : List Rat} {a b : Rat} (h : ∀ t : Rat, ev p t = ev U (a + b * t)) (t : Rat) : ev (dv p) t = b * ev (dv U) (a + b * t) := by
  rw [← ev_dv_cmp]
  refine ev_dv_strip t (strip_ext fun n => ?_)
  rw [h, ev_cmp]
/-- nothing derived: a number -/
theorem const_of {p : List Rat} (h : ∀ t : Rat, ev (dv p) t = 0) (s t : Rat) : ev p s = ev p t := by
  have z : strip (dv p) = strip [] := strip_ext fun n => by rw [h]; rfl
  have c : ∀ k, co p (k + 1) = 0 := fun k => by
    have e : co (dv p) k = 0 := by
      rw [← co_strip, z]
      simp [strip]
    rw [co_dv] at e
    have nk : ((k + 1 : Nat) : Rat) ≠ 0 := by
      intro z
      have : k + 1 = 0 := by exact_mod_cast z
      omega
    rcases Rat.mul_eq_zero.mp e with e | e
    · exact absurd e nk
    · exact e
  have k : ∀ x : Rat, ev p x = ev [co p 0] x := fun x => ev_of_co x fun j => by
    cases j with
    | zero => simp
    | succ j =>
      rw [c]
      simp
  rw [k s, k t]
  simp
/-- summed: number k over its place and one, one place up -/
def sm0 (p : List Rat) : List Rat := 0 :: (List.range p.length).map fun k : Nat => co p k / ((k + 1 : Nat) : Rat)
theorem ev_dv_sm0 (p : List Rat) (x : Rat) : ev (dv (sm0 p)) x = ev p x := ev_of_co x fun k => by
  rw [co_dv]
  unfold sm0
  rw [co_consS, co_mapR]
  have nk : ((k + 1 : Nat) : Rat) ≠ 0 := by
    intro z
    have : k + 1 = 0 := by exact_mod_cast z
    omega
  split
  · grind
  · rename_i h
    rw [co_out (by omega)]
    grind
/-- areas: of a poly of a line -/
theorem area_of_line {p U : List Rat} {a b : Rat} (hb : b ≠ 0) (h : ∀ t : Rat, ev p t = ev U (a + b * t)) (s t : Rat) : ev (sm0 p) t - ev (sm0 p) s = (1 / b) * (ev (sm0 U) (a + b * t) - ev (sm0 U) (a + b * s)) := by
  have k := const_of (p := padd (sm0 p) (pmulc (-(1 / b)) (cmp a b (sm0 U)))) (fun x => by
    rw [ev_dv_padd, ev_dv_pmulc, ev_dv_sm0, ev_dv_cmp, ev_dv_sm0, h]
    grind) s t
  rw [ev_padd, ev_padd, ev_pmulc, ev_pmulc, ev_cmp, ev_cmp] at k
  grind
end BP

namespace BP
open PySem (Str Stmt)
def k_derived_row_1 : MS := (sRetF (mLc (iZipS (mVar 0) (mCut (mVar 0) (oSome (mC (.int 1))) oNone)) (.tp [(.nm 3), (.nm 4)]) [3, 4] (mC (.bool true)) (mCall F_multiply (aCons (mCall F_take (aCons (mVar 4) (aCons (mVar 3) aNil))) (aCons (mVar 2) aNil)))))
def k_derived_row_2 : MS := (sSeq (sSet 2 (mCall F_divide (aCons (mTup (aCons (mBin oSub (mB bLen (vCons (mVar 0) vNil)) (mC (.int 1))) (aCons (mC (.int 1)) aNil))) (aCons (mCall F_take (aCons (mBin oIx (mVar 1) (mC (.int 1))) (aCons (mBin oIx (mVar 1) (mC (.int 0))) aNil))) aNil))))
  k_derived_row_1)
def k_derived_row_3 : MS := (sSeq (sIf (mBin oEq (mB bLen (vCons (mVar 0) vNil)) (mC (.int 1))) sNever sNil)
  k_derived_row_2)
def k_derived_row_4 : MS := (sSeq (sExpr (mCall F_check_stretch (aCons (mVar 1) aNil)))
  k_derived_row_3)
def m_derived_row : MS := (sSeq (sExpr (mCall F_check_row (aCons (mVar 0) aNil)))
  k_derived_row_4)
def F_derived_row : PFo := runPo 2 5 m_derived_row
def V_derived_row : PF := fun ds => (F_derived_row ds).bind fun es => .ok (.list es)
def m__law_derived : MS := (sRet (mCall F__law_told (aCons (mCut (mLc (iEnumL (mVar 0)) (.tp [(.nm 1), (.nm 2)]) [1, 2] (mC (.bool true)) (mCall F__law_times (aCons (mVar 2) (aCons (mTup (aCons (mVar 1) (aCons (mC (.int 1)) aNil))) aNil)))) (oSome (mC (.int 1))) oNone) aNil)))
def F__law_derived : PF := runP 1 3 m__law_derived
def m__law_summed : MS := (sRet (mCall F__law_told (aCons (mBin oAdd (mLst (aCons (mTup (aCons (mC (.int 0)) (aCons (mC (.int 1)) aNil))) aNil)) (mLc (iEnumL (mVar 0)) (.tp [(.nm 1), (.nm 2)]) [1, 2] (mC (.bool true)) (mCall F__law_times (aCons (mVar 2) (aCons (mTup (aCons (mC (.int 1)) (aCons (mBin oAdd (mVar 1) (mC (.int 1))) aNil))) aNil))))) aNil)))
def F__law_summed : PF := runP 1 3 m__law_summed
def m__law_area : MS := (sSeq (sSet 3 (mCall F__law_summed (aCons (mVar 0) aNil)))
  (sRet (mCall F__law_less (aCons (mCall F__law_value (aCons (mVar 3) (aCons (mVar 2) aNil))) (aCons (mCall F__law_value (aCons (mVar 3) (aCons (mVar 1) aNil))) aNil)))))
def F__law_area : PF := runP 3 4 m__law_area
def m__law_is_fraction : MS := (sSeq (sIf (mOr (mUn oNot (mUn (oIsI .tuple) (mVar 0))) (mOr (mBin oNe (mB bLen (vCons (mVar 0) vNil)) (mC (.int 2))) (mUn oNot (mB bAll (vCons (mLc (iSeq (mVar 0)) (.nm 1) [1] (mC (.bool true)) (mAnd (mUn (oIsI .int) (mVar 1)) (mUn oNot (mUn (oIsI .bool) (mVar 1))))) vNil))))) (sRet (mC (.bool false))) sNil)
  (sRet (mAnd (mBin oGe (mBin oIx (mVar 0) (mC (.int 1))) (mC (.int 1))) (mBin oEq (mCall F__law_divisor (aCons (mBin oIx (mVar 0) (mC (.int 0))) (aCons (mBin oIx (mVar 0) (mC (.int 1))) aNil))) (mC (.int 1))))))
def F__law_is_fraction : PF := runP 1 2 m__law_is_fraction
def m__law_is_row_of : MS := (sSeq (sIf (mOr (mUn oNot (mUn (oIsI .listtuple) (mVar 2))) (mOr (mUn oNot (mChain oLe oLe (mC (.int 1)) (mB bLen (vCons (mVar 2) vNil)) (mC (.int 9)))) (mUn oNot (mB bAll (vCons (mLc (iSeq (mVar 2)) (.nm 3) [3] (mC (.bool true)) (mCall F__law_is_fraction (aCons (mVar 3) aNil))) vNil))))) (sRet (mC (.bool false))) sNil)
  (sRet (mBin oEq (mCall F__law_poly_of (aCons (mB bList (vCons (mVar 2) vNil)) (aCons (mVar 1) aNil))) (mCall F__law_told (aCons (mVar 0) aNil)))))
def F__law_is_row_of : PF := runP 3 4 m__law_is_row_of
end BP

namespace BP
/-! ### rows derived, areas by parts -/
theorem uni_dv (r : Nat → Rat) (u : Rat) (n : Nat) (h : n ≤ 7) : su (fun k => ((k + 1 : Nat) : Rat) * uni r (n + 1) (k + 1) * u ^ k) (n + 1) = bern (fun i => (r (i + 1) - r i) * ((n + 1 : Nat) : Rat)) n u := by
  match n with
  | 0 => simp [su, uni, bern, ch]; grind
  | 1 => simp [su, uni, bern, ch]; grind
  | 2 => simp [su, uni, bern, ch]; grind
  | 3 => simp [su, uni, bern, ch]; grind
  | 4 => simp [su, uni, bern, ch]; grind
  | 5 => simp [su, uni, bern, ch]; grind
  | 6 => simp [su, uni, bern, ch]; grind
  | 7 => simp [su, uni, bern, ch]; grind
  | n + 8 => omega
theorem uni_area (r : Nat → Rat) (n : Nat) (h : n ≤ 8) : su (fun k => uni r n k / ((k + 1 : Nat) : Rat)) (n + 1) = su r (n + 1) / ((n + 1 : Nat) : Rat) := by
  match n with
  | 0 => simp [su, uni, ch]; grind
  | 1 => simp [su, uni, ch]; grind
  | 2 => simp [su, uni, ch]; grind
  | 3 => simp [su, uni, ch]; grind
  | 4 => simp [su, uni, ch]; grind
  | 5 => simp [su, uni, ch]; grind
  | 6 => simp [su, uni, ch]; grind
  | 7 => simp [su, uni, ch]; grind
  | 8 => simp [su, uni, ch]; grind
  | n + 9 => omega
section
variable {row own : List Rat} {low high : Rat} {n : Nat}
/-- a row's poly by its powers -/
theorem own_uni (hn : n ≤ 8) (hne : high - low ≠ 0) (oe : ∀ t : Rat, ev own t = bern (co row) n ((t - low) / (high - low))) (t : Rat) : ev own t = ev (tab (uni (co row) n) (n + 1)) (-low / (high - low) + 1 / (high - low) * t) := by
  have e : -low / (high - low) + 1 / (high - low) * t = (t - low) / (high - low) := by grind
  rw [oe, e, ← bern_uni _ _ _ hn, ev_co _ (tab (uni (co row) n) (n + 1)) (n + 1) (by simp)]
  refine su_congr fun k hk => ?_
  rw [co_tab, if_pos hk]
theorem own_dv (hn : n ≤ 7) (hne : high - low ≠ 0) (oe : ∀ t : Rat, ev own t = bern (co row) (n + 1) ((t - low) / (high - low))) (t : Rat) : ev (dv own) t = bern (fun i => (co row (i + 1) - co row i) * ((n + 1 : Nat) : Rat) / (high - low)) n ((t - low) / (high - low)) := by
  have k := dv_of (own_uni (n := n + 1) (by omega) hne oe) t
  have e : -low / (high - low) + 1 / (high - low) * t = (t - low) / (high - low) := by grind
  rw [k, e, ev_co _ (dv (tab (uni (co row) (n + 1)) (n + 1 + 1))) (n + 1) (by rw [dv_len]; simp)]
  have e2 : su (fun k => co (dv (tab (uni (co row) (n + 1)) (n + 1 + 1))) k * ((t - low) / (high - low)) ^ k) (n + 1) = su (fun k => ((k + 1 : Nat) : Rat) * uni (co row) (n + 1) (k + 1) * ((t - low) / (high - low)) ^ k) (n + 1) := su_congr fun k hk => by
    rw [co_dv, co_tab, if_pos (by omega)]
  rw [e2, uni_dv _ _ _ hn]
  unfold bern
  rw [← su_mul]
  refine su_congr fun k hk => ?_
  grind
theorem own_area (hn : n ≤ 8) (hne : high - low ≠ 0) (oe : ∀ t : Rat, ev own t = bern (co row) n ((t - low) / (high - low))) : ev (sm1 own) high - ev (sm1 own) low = su (co row) (n + 1) / ((n + 1 : Nat) : Rat) * (high - low) := by
  have hb : 1 / (high - low) ≠ 0 := by grind
  have k := area_of_line hb (own_uni hn hne oe) low high
  have e1 : -low / (high - low) + 1 / (high - low) * high = 1 := by grind
  have e0 : -low / (high - low) + 1 / (high - low) * low = 0 := by grind
  rw [e1, e0] at k
  have z : ev (sm0 (tab (uni (co row) n) (n + 1))) 0 = 0 := by
    unfold sm0
    rw [ev_cons]
    grind
  have o : ev (sm0 (tab (uni (co row) n) (n + 1))) 1 = su (fun k => uni (co row) n k / ((k + 1 : Nat) : Rat)) (n + 1) := by
    unfold sm0
    rw [ev_cons, ev_co 1 _ (n + 1) (by simp)]
    have : su (fun k => co ((List.range (tab (uni (co row) n) (n + 1)).length).map fun k : Nat => co (tab (uni (co row) n) (n + 1)) k / ((k + 1 : Nat) : Rat)) k * 1 ^ k) (n + 1) = su (fun k => uni (co row) n k / ((k + 1 : Nat) : Rat)) (n + 1) := su_congr fun k hk => by
      rw [co_mapR, tab_len, if_pos hk, co_tab, if_pos hk, one_pow']
      grind
    rw [this]
    grind
  rw [z, o, uni_area _ _ hn] at k
  have e : ev (sm0 own) high - ev (sm0 own) low = ev (sm1 own) high - ev (sm1 own) low := rfl
  rw [← e, k]
  grind
end
/-! mirrors -/
def drw (row : List Rat) (n : Nat) (w : Rat) : List Rat := tab (fun i => (co row (i + 1) - co row i) * ((n : Nat) : Rat) / w) n
theorem lc_pairs {e : ME} {env : Env} {i j : Nat} {st : Pt} (row : List Rat) (n : Nat) (hn : row.length = n + 1) (f : Nat → Rat) (hs : ∀ x y : D, ∃ env1, (Pat.tp [.nm i, .nm j]).set (.tuple [x, y]) env = .ok env1 ∧ getE env1 i = .im x ∧ getE env1 j = .im y) (he : ∀ k env1, k < n → (Pat.tp [.nm i, .nm j]).set (.tuple [qD (co row k), qD (co row (k + 1))]) env = .ok env1 → getE env1 i = .im (qD (co row k)) → getE env1 j = .im (qD (co row (k + 1))) → e env1 st = .ok (.im (qD (f k)), st)) : lcL (.tp [.nm i, .nm j]) (mC (.bool true)) e env (zipL (pL row) (pL row.tail)) st = .ok (pL (tab f n), st) := by
  refine lcL_ix (by rw [zipT_len, hn]; simp) fun k d x hd hx => ?_
  obtain ⟨hk, rfl⟩ := zipT_get row k d hd
  obtain ⟨hk2, rfl⟩ := tab_take hx
  obtain ⟨env1, e1, e2, e3⟩ := hs (qD (co row k)) (qD (co row (k + 1)))
  exact ⟨env1, e1, he k env1 hk2 e1 e2 e3⟩
theorem derived_row_ok (d : D) (row : List Rat) (low high : Rat) (n : Nat) (hd : Row d row) (hn : row.length = n + 1) (hn1 : 1 ≤ n) (hn8 : n ≤ 8) (hs : row.all sm = true) (h1 : sm low = true) (h2 : sm high = true) (h : low < high) : F_derived_row [d, .tuple [qD low, qD high]] = .ok (pL (drw row n (high - low))) ∧ V_derived_row [d, .tuple [qD low, qD high]] = .ok (pD (drw row n (high - low))) := by
  obtain ⟨nw, w0, w1, hw⟩ := share_in h1 h2 h
  have c1 := check_row_ok hd (by omega) (by omega) hs
  have c2 := check_stretch_ok h1 h2 h
  have t1 : F_take [qD high, qD low] = .ok (qD (high - low)) := take_op _ _ (sm_fit h2) (sm_fit h1)
  have fw : Fit (high - low) := (wide_in h1 h2).fit LC_pos (by constructor <;> decide +kernel)
  have hne := lt_ne h
  have d1 : F_divide [qD ((n : Nat) : Rat), qD (high - low)] = .ok (qD (((n : Nat) : Rat) / (high - low))) := divide_ok _ _ (fit_nat _ (by omega)) fw hne
  have q : (.tuple [.int (n : Int), .int 1] : D) = qD ((n : Nat) : Rat) := qi _
  have isn : In nw (9 * 9801) (((n : Nat) : Rat) / (high - low)) := by
    have i1 := (In_int 1 (n : Int) 9 (by decide) (by rw [Int.natAbs_natCast]; omega)).mul hw (by decide) w0
    rw [Nat.one_mul] at i1
    have e : ((n : Nat) : Rat) / (high - low) = ((n : Int) : Rat) * (1 / (high - low)) := by
      have : ((n : Int) : Rat) = ((n : Nat) : Rat) := rfl
      rw [this]
      grind
    rw [e]
    exact i1
  have fsn := isn.fit w0 (Cap.le (n := 2 ^ 18) (m := 9 * 9801) (by constructor <;> decide +kernel) w1 (Nat.le_refl _))
  have is := fun i => (sms_in hs).co LC_pos i
  have fs := fun i => (is i).fit LC_pos (by constructor <;> decide +kernel)
  have fd : ∀ i, Fit (co row (i + 1) - co row i) := fun i => ((is (i + 1)).sub (is i) LC_pos).fit LC_pos (by constructor <;> decide +kernel)
  have L := lc_pairs (e := mCall F_multiply (aCons (mCall F_take (aCons (mVar 4) (aCons (mVar 3) aNil))) (aCons (mVar 2) aNil))) (i := 3) (j := 4) (env := [.im d, .im (.tuple [qD low, qD high]), .im (qD (((n : Nat) : Rat) / (high - low))), .no, .no]) (st := []) row n hn (fun i => (co row (i + 1) - co row i) * ((n : Nat) : Rat) / (high - low)) (fun x y => ⟨[.im d, .im (.tuple [qD low, qD high]), .im (qD (((n : Nat) : Rat) / (high - low))), .im x, .im y], by simp, rfl, rfl⟩) fun k env1 hk he h3 h4 => by
    have ee : env1 = [.im d, .im (.tuple [qD low, qD high]), .im (qD (((n : Nat) : Rat) / (high - low))), .im (qD (co row k)), .im (qD (co row (k + 1)))] := by
      simp at he
      exact he.symm
    subst ee
    have m1 : F_take [qD (co row (k + 1)), qD (co row k)] = .ok (qD (co row (k + 1) - co row k)) := take_op _ _ (fs _) (fs _)
    have m2 : F_multiply [qD (co row (k + 1) - co row k), qD (((n : Nat) : Rat) / (high - low))] = .ok (qD ((co row (k + 1) - co row k) * ((n : Nat) : Rat) / (high - low))) := by
      rw [mul_op _ _ (fd k) fsn]
      congr 2
      grind
    simp [m1, m2]
  have cz : cutD (pL row) (some 1) none = pL row.tail := by rw [cut1, pL_tail]
  have M := mLc_ok (it := iZipS (mVar 0) (mCut (mVar 0) (oSome (mC (.int 1))) oNone)) (vs := [3, 4]) (env := [.im d, .im (.tuple [qD low, qD high]), .im (qD (((n : Nat) : Rat) / (high - low))), .no, .no]) (st := []) (ds := zipL (pL row) (pL row.tail)) (by rcases hd with rfl | rfl <;> simp [cz]) ⟨by rw [zipT_len]; show _ ≤ 1000000; omega, rfl⟩ L
  have k : F_derived_row [d, .tuple [qD low, qD high]] = .ok (pL (drw row n (high - low))) := by
    refine runPo_ro (st := []) rfl ?_
    show m_derived_row [.im d, .im (.tuple [qD low, qD high]), .no, .no, .no] [] = _
    have s1 : (sExpr (mCall F_check_row (aCons (mVar 0) aNil))) [.im d, .im (.tuple [qD low, qD high]), .no, .no, .no] [] = .ok (.nx [.im d, .im (.tuple [qD low, qD high]), .no, .no, .no] []) := by simp [c1]
    have s2 : (sExpr (mCall F_check_stretch (aCons (mVar 1) aNil))) [.im d, .im (.tuple [qD low, qD high]), .no, .no, .no] [] = .ok (.nx [.im d, .im (.tuple [qD low, qD high]), .no, .no, .no] []) := by simp [c2]
    have ne : ((row.length : Int) == 1) = false := by
      rw [beq_eq_false_iff_ne]
      omega
    have s3 : (sIf (mBin oEq (mB bLen (vCons (mVar 0) vNil)) (mC (.int 1))) sNever sNil) [.im d, .im (.tuple [qD low, qD high]), .no, .no, .no] [] = .ok (.nx [.im d, .im (.tuple [qD low, qD high]), .no, .no, .no] []) := by
      refine sIf_false ?_ rfl
      rcases hd with rfl | rfl <;> simp [sh_i, eqv_i, ne]
    have en : (row.length : Int) - 1 = (n : Int) := by omega
    have s4 : (sSet 2 (mCall F_divide (aCons (mTup (aCons (mBin oSub (mB bLen (vCons (mVar 0) vNil)) (mC (.int 1))) (aCons (mC (.int 1)) aNil))) (aCons (mCall F_take (aCons (mBin oIx (mVar 1) (mC (.int 1))) (aCons (mBin oIx (mVar 1) (mC (.int 0))) aNil))) aNil)))) [.im d, .im (.tuple [qD low, qD high]), .no, .no, .no] [] = .ok (.nx [.im d, .im (.tuple [qD low, qD high]), .im (qD (((n : Nat) : Rat) / (high - low))), .no, .no] []) := by
      rcases hd with rfl | rfl <;> simp [en, q, t1, d1]
    unfold m_derived_row
    rw [seq_nx s1]
    unfold k_derived_row_4
    rw [seq_nx s2]
    unfold k_derived_row_3
    rw [seq_nx s3]
    unfold k_derived_row_2
    rw [seq_nx s4]
    unfold k_derived_row_1
    unfold sRetF
    rw [M]
    rfl
  refine ⟨k, ?_⟩
  unfold V_derived_row
  rw [k]
  rfl
end BP

namespace BP
/-! ### any value: fractions, rows of a poly -/
def intB : D → Bool
  | .int _ => true
  | _ => false
theorem is_integer_any (d : D) : F_is_integer [d] = .ok (.bool (intB d)) := by
  cases d <;> simp [F_is_integer, m_is_integer, intB]
def frB : D → Bool
  | .tuple [.int a, .int b] => decide (1 ≤ b) && (a.natAbs.gcd b.natAbs == 1)
  | _ => false
theorem int_of {d : D} (h : intB d = true) : ∃ a, d = .int a := by
  cases d <;> first | exact ⟨_, rfl⟩ | cases h
theorem frB_x {x y : D} (h : intB x = false) : frB (.tuple [x, y]) = false := by
  cases x <;> first | rfl | cases h
theorem frB_y {x y : D} (h : intB y = false) : frB (.tuple [x, y]) = false := by
  cases y <;> first | (cases x <;> rfl) | cases h
theorem gcd_is (a n : Nat) : (((a.gcd n : Nat) : Int) == 1) = (a.gcd n == 1) := by
  rw [Bool.eq_iff_iff, beq_iff_eq, beq_iff_eq]
  omega
theorem fr_any (d : D) : F_is_fraction_of [d] = .ok (.bool (frB d)) := by
  cases d with
  | tuple ds =>
    match ds with
    | [] => simp [F_is_fraction_of, m_is_fraction_of, frB, sh_i, eqv_i]
    | [x] => simp [F_is_fraction_of, m_is_fraction_of, frB, sh_i, eqv_i]
    | x :: y :: z :: r =>
      have h : ((r.length : Int) + 1 + 1 + 1 == 2) = false := by
        rw [beq_eq_false_iff_ne]
        omega
      simp [F_is_fraction_of, m_is_fraction_of, frB, sh_i, eqv_i, h]
    | [x, y] =>
      cases hx : intB x with
      | false => simp [F_is_fraction_of, m_is_fraction_of, is_integer_any, sh_i, eqv_i, hx, frB_x hx]
      | true =>
        cases hy : intB y with
        | false => simp [F_is_fraction_of, m_is_fraction_of, is_integer_any, sh_i, eqv_i, hx, hy, frB_y hy]
        | true =>
          obtain ⟨a, rfl⟩ := int_of hx
          obtain ⟨b, rfl⟩ := int_of hy
          by_cases hb : 1 ≤ b
          · obtain ⟨n, rfl⟩ : ∃ n : Nat, b = n := ⟨b.toNat, by omega⟩
            have D := divisor_ok a.natAbs n
            have e := gcd_is a.natAbs n
            simp [F_is_fraction_of, m_is_fraction_of, is_integer_any, sh_i, eqv_i, hx, hy, hb, abs_if, D, frB, e]
          · simp [F_is_fraction_of, m_is_fraction_of, is_integer_any, sh_i, eqv_i, hx, hy, hb, frB]
  | _ => simp [F_is_fraction_of, m_is_fraction_of, frB]
theorem law_fr_any (d : D) (hN : ∀ a b : Int, d = .tuple [.int a, .int b] → a.natAbs < 2 ^ 9000 ∧ b.natAbs < 2 ^ 9000) (hl : ∀ ds, d = .tuple ds → ds.length ≤ 1000000) : F__law_is_fraction [d] = .ok (.bool (frB d)) := by
  cases d with
  | tuple ds =>
    have key : mLc (iSeq (mVar 0)) (.nm 1) [1] (mC (.bool true)) (mAnd (mUn (oIsI .int) (mVar 1)) (mUn oNot (mUn (oIsI .bool) (mVar 1)))) [.im (.tuple ds), .no] [] = .ok (.ow (ds.map fun d => .bool (intB d)), []) := by
      refine lc_bool intB (hl ds rfl) rfl (fun d _ st => ⟨[.im (.tuple ds), .im d], by simp, ?_⟩) (by simp)
      cases d <;> simp [intB]
    match ds, key, hN with
    | [], key, _ => simp [F__law_is_fraction, m__law_is_fraction, frB, sh_i, eqv_i]
    | [x], key, _ => simp [F__law_is_fraction, m__law_is_fraction, frB, sh_i, eqv_i]
    | x :: y :: z :: r, key, _ =>
      have h : ((r.length : Int) + 1 + 1 + 1 == 2) = false := by
        rw [beq_eq_false_iff_ne]
        omega
      simp [F__law_is_fraction, m__law_is_fraction, frB, sh_i, eqv_i, h]
    | [x, y], key, hN =>
      have kb := bAll_map [x, y] intB
      cases hxy : (intB x && intB y) with
      | false =>
        have e : frB (.tuple [x, y]) = false := by
          cases x <;> cases y <;> first | rfl | cases hxy
        simp only [List.map_cons, List.map_nil] at key kb
        simp [F__law_is_fraction, m__law_is_fraction, sh_i, eqv_i, key, kb, hxy, e]
      | true =>
        rw [Bool.and_eq_true] at hxy
        obtain ⟨a, rfl⟩ := int_of hxy.1
        obtain ⟨b, rfl⟩ := int_of hxy.2
        simp only [List.map_cons, List.map_nil] at key kb
        have kb2 : bAll [.list [.bool true, .bool true]] = bl true := rfl
        obtain ⟨h1, h2⟩ := hN a b rfl
        by_cases hb : 1 ≤ b
        · have D := l_divisor_ok a b h1 h2
          have e := gcd_is a.natAbs b.natAbs
          simp [F__law_is_fraction, m__law_is_fraction, sh_i, eqv_i, key, kb2, hxy, hb, D, frB, e]
        · simp [F__law_is_fraction, m__law_is_fraction, sh_i, eqv_i, key, kb2, hxy, hb, frB]
  | _ => simp [F__law_is_fraction, m__law_is_fraction, frB]
/-- an item of a bent row -/
inductive Item (N M : Nat) : D → Prop
  | q {a : Rat} (h : In N M a) : Item N M (qD a)
  | none : Item N M .none
  | int {i : Int} (h : i.natAbs < 2 ^ 100) : Item N M (.int i)
  | bool (b : Bool) : Item N M (.bool b)
  | two {i j : Int} (hi : i.natAbs < 2 ^ 100) (hj : j.natAbs < 2 ^ 100) (h : frB (.tuple [.int i, .int j]) = false) : Item N M (.tuple [.int i, .int j])
  | lst {a : Rat} (h : In N M a) : Item N M (.list [.int a.num, .int (a.den : Int)])
  | tb {a : Rat} (h : In N M a) (b : Bool) : Item N M (.tuple [.int a.num, .bool b])
theorem frB_q (q : Rat) : frB (qD q) = true := by
  have h1 := q.den_pos
  have h2 : (1 : Int) ≤ (q.den : Int) := by omega
  have h3 : q.num.natAbs.gcd q.den = 1 := q.reduced
  unfold qD frB
  simp only [Bool.and_eq_true, decide_eq_true_eq, beq_iff_eq]
  exact ⟨h2, h3⟩
theorem two_of {a b c d : Int} (h : (PySem.PyData.tuple [.int a, .int b]) = .tuple [.int c, .int d]) : a = c ∧ b = d := by
  injection h with h
  injection h with h1 h2
  injection h1 with h1
  injection h2 with h2
  injection h2 with h2
  exact ⟨h1, h2⟩
section
variable {N M : Nat} (h0 : 0 < N) (h1 : N < 2 ^ 1900) (h2 : M * N < 2 ^ 1900)
theorem lt_pow {n a b : Nat} (h : n < 2 ^ a) (hab : a ≤ b) : n < 2 ^ b := Nat.lt_of_lt_of_le h (Nat.pow_le_pow_right (by decide) hab)
include h0 h1 h2 in
theorem Item.fr {d : D} (h : Item N M d) : F__law_is_fraction [d] = .ok (.bool (frB d)) ∧ (frB d = true → ∃ a, d = qD a ∧ In N M a) ∧ Tame 4000 1 d := by
  cases h with
  | q h =>
    rename_i a
    have hq := h.qs h0 h1 h2
    refine ⟨law_fr_any _ (fun x y e => ?_) (fun ds e => ?_), fun _ => ⟨_, rfl, h⟩, (tame_q hq (by decide)).mono (by decide) (by decide)⟩
    · obtain ⟨rfl, rfl⟩ := two_of e
      exact ⟨lt_pow hq.1 (by decide), lt_pow (by simpa using hq.2) (by decide)⟩
    · injection e with e
      subst e
      simp
  | none => exact ⟨law_fr_any _ (fun x y e => by cases e) (fun ds e => by cases e), fun h => (by cases h), tame_none.mono (by decide) (by decide)⟩
  | int h => exact ⟨law_fr_any _ (fun x y e => by cases e) (fun ds e => by cases e), fun h => (by cases h), (tame_int h (by decide)).mono (by decide) (by decide)⟩
  | bool b => exact ⟨law_fr_any _ (fun x y e => by cases e) (fun ds e => by cases e), fun h => (by cases h), (tame_bool b).mono (by decide) (by decide)⟩
  | two hi hj h =>
    refine ⟨law_fr_any _ (fun x y e => ?_) (fun ds e => ?_), fun k => (by rw [h] at k; cases k), (TameAll.tuple (TameAll.cons (tame_int hi (by decide)) (TameAll.cons (tame_int hj (by decide)) tameAll_nil))).mono (by decide) (by decide)⟩
    · obtain ⟨rfl, rfl⟩ := two_of e
      exact ⟨lt_pow hi (by decide), lt_pow hj (by decide)⟩
    · injection e with e
      subst e
      simp
  | lst h =>
    rename_i a
    have hq := h.qs h0 h1 h2
    exact ⟨law_fr_any _ (fun x y e => by cases e) (fun ds e => by cases e), fun h => (by cases h), (TameAll.list (TameAll.cons (tame_int hq.1 (by decide)) (TameAll.cons (tame_int (i := (a.den : Int)) (by simpa using hq.2) (by decide)) tameAll_nil))).mono (by decide) (by decide)⟩
  | tb h b =>
    rename_i a
    have hq := h.qs h0 h1 h2
    refine ⟨law_fr_any _ (fun x y e => ?_) (fun ds e => ?_), fun h => (by cases h), (TameAll.tuple (TameAll.cons ((tame_int hq.1 (by decide))) (TameAll.cons ((tame_bool b).mono (m := 1902) (by decide) (Nat.le_refl _)) tameAll_nil))).mono (by decide) (by decide)⟩
    · injection e with e
      injection e with e1 e2
      injection e2 with e2
      cases e2
    · injection e with e
      subst e
      simp
/-- a bent row -/
inductive Val (N M : Nat) : D → Prop
  | l {ys : List D} (h : ∀ y ∈ ys, Item N M y) (hl : ys.length ≤ 30) : Val N M (.list ys)
  | t {ys : List D} (h : ∀ y ∈ ys, Item N M y) (hl : ys.length ≤ 30) : Val N M (.tuple ys)
  | none : Val N M .none
  | dict : Val N M (.dict [])
  | str {s : PySem.Str} (h : Tame 4000 1 (.str s)) : Val N M (.str s)
  | int {i : Int} (h : i.natAbs < 2 ^ 100) : Val N M (.int i)
theorem Item.mono {m n : Nat} {d : D} (h : Item n m d) {M : Nat} (hM : m ≤ M) : Item n M d := by
  cases h with
  | q h => exact .q (h.mono hM)
  | none => exact .none
  | int h => exact .int h
  | bool b => exact .bool b
  | two hi hj h => exact .two hi hj h
  | lst h => exact .lst (h.mono hM)
  | tb h b => exact .tb (h.mono hM) b
include h0 h1 h2 in
theorem Val.tame {v : D} (h : Val N M v) : Tame 200000 2 v := by
  have key : ∀ ys : List D, (∀ y ∈ ys, Item N M y) → ys.length ≤ 30 → TameAll ((4000 + 2) * 30) 1 ys := fun ys h hl => (TameAll.of fun y hy => ((h y hy).fr h0 h1 h2).2.2).mono (Nat.mul_le_mul_left _ hl) (Nat.le_refl _)
  cases h with
  | l h hl => exact (key _ h hl).list.mono (by decide) (by decide)
  | t h hl => exact (key _ h hl).tuple.mono (by decide) (by decide)
  | none => exact tame_none.mono (by decide) (by decide)
  | dict => exact ⟨rfl, rfl, by simp [wt], by simp [PySem.PyData.depth, PySem.PyData.depthKv]⟩
  | str h => exact h.mono (by decide) (by decide)
  | int h => exact (tame_int h (by decide)).mono (by decide) (by decide)
include h0 h1 h2 in
theorem Val.repr {v : D} (h : Val N M v) : reprOk v = true := (h.tame h0 h1 h2).repr (by decide) (by decide)
include h0 h1 h2 in
theorem items_rows : ∀ {ys : List D}, (∀ y ∈ ys, Item N M y) → ys.all frB = true → ∃ p : List Rat, ys = pL p ∧ Inp N M p
  | [], _, _ => ⟨[], rfl, fun a ha => by simp at ha⟩
  | y :: ys, h, hf => by
    rw [List.all_cons, Bool.and_eq_true] at hf
    obtain ⟨p, rfl, hp⟩ := items_rows (fun z hz => h z (List.mem_cons_of_mem _ hz)) hf.2
    obtain ⟨a, rfl, ha⟩ := ((h y List.mem_cons_self).fr h0 h1 h2).2.1 hf.1
    refine ⟨a :: p, rfl, fun b hb => ?_⟩
    rcases List.mem_cons.mp hb with rfl | hb
    · exact ha
    · exact hp b hb
theorem are_fr_any {d : D} {ys : List D} (hd : d = .list ys ∨ d = .tuple ys) (hl : ys.length ≤ 30) : F_are_fractions [d] = .ok (.bool (ys.all frB)) := by
  have hl2 : ys.length ≤ 1000000 := by omega
  have key : ∀ e : EV, (∀ st, iSeq (mVar 0) [e, .no] st = .ok (ys, st)) → mLc (iSeq (mVar 0)) (.nm 1) [1] (mC (.bool true)) (mCall F_is_fraction_of (aCons (mVar 1) aNil)) [e, .no] [] = .ok (.ow (ys.map fun d => .bool (frB d)), []) := fun e hi =>
    lc_bool frB hl2 rfl (fun d _ st => ⟨[e, .im d], by simp, by simp [fr_any]⟩) (hi [])
  rcases hd with rfl | rfl
  · have k := key (.im (.list ys)) (fun st => by simp)
    simp [F_are_fractions, m_are_fractions, F_is_list, m_is_list, k]
  · have k := key (.im (.tuple ys)) (fun st => by simp)
    simp [F_are_fractions, m_are_fractions, F_is_list, m_is_list, k]
include h0 h1 h2 in
theorem row_seq {ys : List D} {d : D} {pl : List Rat} {low high : Rat} (hd : d = .list ys ∨ d = .tuple ys) (hy : ∀ y ∈ ys, Item N M y) (hl : ys.length ≤ 30) (hl5 : pl.length ≤ 5) (hs : pl.all sm = true) (S : Str' low high) (hm0 : 1 ≤ M) (hc : Cap (N * 2520 ^ 9 * 12 ^ 10) (M * 44100 * 3 ^ 9 * (19 * 6 + 1) ^ 10)) (hc2 : Cap (N * (12 * 2520) ^ 9) (10 * (M * 70 * (21 * 15 * 3) ^ 9))) :
    ∃ b, F_is_row_of [pD pl, .tuple [qD low, qD high], d] = .ok (.bool b) ∧ F__law_is_row_of [pD pl, .tuple [qD low, qD high], d] = .ok (.bool b) := by
  have c1 := check_poly_ok (Row.l pl) hl5 hs
  have c2 := check_stretch_ok S.sl S.sh S.lt
  have af := are_fr_any hd hl
  have hl2 : ys.length ≤ 1000000 := by omega
  have L : mLc (iSeq (mVar 2)) (.nm 3) [3] (mC (.bool true)) (mCall F__law_is_fraction (aCons (mVar 3) aNil)) [.im (pD pl), .im (.tuple [qD low, qD high]), .im d, .no] [] = .ok (.ow (ys.map fun d => .bool (frB d)), []) :=
    lc_bool frB hl2 rfl (fun y hm st => ⟨[.im (pD pl), .im (.tuple [qD low, qD high]), .im d, .im y], by simp, by simp [((hy y hm).fr h0 h1 h2).1]⟩) (by rcases hd with rfl | rfl <;> simp)
  have t1 := told_ok (pD pl) pl (Row.l _) (by omega)
  have t2 := l_told_ok (pD pl) pl (Row.l _) (by omega)
  unfold pD at *
  by_cases k1 : (1 : Int) ≤ (ys.length : Int)
  · by_cases k2 : (ys.length : Int) ≤ 9
    · cases hf : ys.all frB with
      | false =>
        rw [hf] at af
        rcases hd with rfl | rfl <;> exact ⟨false, by simp [F_is_row_of, m_is_row_of, c1, c2, F_is_list, m_is_list, k1, k2, af], by simp [F__law_is_row_of, m__law_is_row_of, k1, k2, L, hf]⟩
      | true =>
        rw [hf] at af
        obtain ⟨p, rfl, hp⟩ := items_rows h0 h1 h2 hy hf
        rw [pL_len] at k1 k2
        have fw : Fit (high - low) := (wide_in S.sl S.sh).fit LC_pos (by constructor <;> decide +kernel)
        have hne := lt_ne S.lt
        obtain ⟨r1, e1, q1, _, v1⟩ := poly_by_ok d p low high N M 12 6 2520 3 (by rcases hd with rfl | rfl; exact Row.l _; exact Row.t _) (by omega) (by omega) h0 hm0 (by decide) (by decide) (by decide) (by decide) hp S.il (sm_fit S.sh) fw hne S.iv (by constructor <;> decide +kernel) (by constructor <;> decide +kernel) hc
        have ih15 : In 12 15 high := by
          have := S.il.add (S.iw.dvd (k := 12) (by decide) (by decide)) (by decide)
          have e : low + (high - low) = high := by grind
          rwa [e] at this
        obtain ⟨r2, e2, q2, _, _, v2⟩ := l_poly_of_ok p low high N M 12 15 2520 3 (by omega) (by omega) h0 hm0 (by decide) (by decide) (by decide) (by decide) hp (S.il.mono (by omega)) ih15 fw hne S.iv (by constructor <;> decide +kernel) (by constructor <;> decide +kernel) hc2
        have e : r1 = r2 := told_ext q1 q2 fun t => by rw [v1, v2]
        subst e
        have E1 := sh_p r1
        have E2 := sh_p (strip pl)
        have E3 := eqv_p r1 (strip pl)
        have k1' := k1
        have k2' := k2
        rw [← pL_len] at k1' k2'
        refine ⟨decide (r1 = strip pl), ?_, ?_⟩
        · unfold pD at *
          rcases hd with rfl | rfl <;> simp [F_is_row_of, m_is_row_of, c1, c2, F_is_list, m_is_list, k1, k2, af, e1, t1, E1, E2, E3]
        · unfold pD at *
          rcases hd with rfl | rfl <;> simp [F__law_is_row_of, m__law_is_row_of, k1, k2, L, hf, e2, t2, E1, E2, E3]
    · rcases hd with rfl | rfl <;> exact ⟨false, by simp [F_is_row_of, m_is_row_of, c1, c2, F_is_list, m_is_list, k1, k2], by simp [F__law_is_row_of, m__law_is_row_of, k1, k2]⟩
  · rcases hd with rfl | rfl <;> exact ⟨false, by simp [F_is_row_of, m_is_row_of, c1, c2, F_is_list, m_is_list, k1], by simp [F__law_is_row_of, m__law_is_row_of, k1]⟩
include h0 h1 h2 in
theorem row_val {v : D} {pl : List Rat} {low high : Rat} (hv : Val N M v) (hl5 : pl.length ≤ 5) (hs : pl.all sm = true) (S : Str' low high) (hm0 : 1 ≤ M) (hc : Cap (N * 2520 ^ 9 * 12 ^ 10) (M * 44100 * 3 ^ 9 * (19 * 6 + 1) ^ 10)) (hc2 : Cap (N * (12 * 2520) ^ 9) (10 * (M * 70 * (21 * 15 * 3) ^ 9))) :
    ∃ b, F_is_row_of [pD pl, .tuple [qD low, qD high], v] = .ok (.bool b) ∧ F__law_is_row_of [pD pl, .tuple [qD low, qD high], v] = .ok (.bool b) := by
  have c1 := check_poly_ok (Row.l pl) hl5 hs
  have c2 := check_stretch_ok S.sl S.sh S.lt
  unfold pD at *
  cases hv with
  | l h hl => exact row_seq h0 h1 h2 (.inl rfl) h hl hl5 hs S hm0 hc hc2
  | t h hl => exact row_seq h0 h1 h2 (.inr rfl) h hl hl5 hs S hm0 hc hc2
  | none => exact ⟨false, by simp [F_is_row_of, m_is_row_of, c1, c2, F_is_list, m_is_list], by simp [F__law_is_row_of, m__law_is_row_of]⟩
  | dict => exact ⟨false, by simp [F_is_row_of, m_is_row_of, c1, c2, F_is_list, m_is_list], by simp [F__law_is_row_of, m__law_is_row_of]⟩
  | str h => exact ⟨false, by simp [F_is_row_of, m_is_row_of, c1, c2, F_is_list, m_is_list], by simp [F__law_is_row_of, m__law_is_row_of]⟩
  | int h => exact ⟨false, by simp [F_is_row_of, m_is_row_of, c1, c2, F_is_list, m_is_list], by simp [F__law_is_row_of, m__law_is_row_of]⟩
end
end BP

namespace BP
/-! ### the law's derived, summed, area (k19, k20) -/
theorem derivedE_ok (p : List Rat) (hl : p.length < 800) (fp : Fits p) : F__law_derived [pD p] = .ok (pD (strip (dv p))) := by
  have L := lc_enum (F := F__law_times) (e := mCall F__law_times (aCons (mVar 2) (aCons (mTup (aCons (mVar 1) (aCons (mC (.int 1)) aNil))) aNil))) (i := 1) (j := 2) (env := [.im (pD p), .no, .no]) (p := p) (fun k : Nat => (k : Rat) * co p k) (fun x y => ⟨[.im (pD p), .im x, .im y], by simp, rfl, rfl⟩) fun k env1 hk h1 h2 => by
    have m : F__law_times [qD (co p k), qD ((k : Nat) : Rat)] = .ok (qD ((k : Rat) * co p k)) := by
      rw [Rat.mul_comm]
      exact l_times_op _ _ (fp _ (co_mem hk)) (fit_nat' (by omega))
    have q : (.tuple [.int (k : Int), .int 1] : D) = qD ((k : Nat) : Rat) := qi _
    simp [h1, h2, q, m]
  have T := l_told_ok (.list (pL (dv p))) (dv p) (Row.l _) (by rw [dv_len]; omega)
  have l : (enumL (pL p)).length ≤ LIM := by
    rw [enum_len]
    show _ ≤ 1000000
    omega
  have k0 : mLc (iEnumL (mVar 0)) (.tp [(.nm 1), (.nm 2)]) [1, 2] (mC (.bool true)) (mCall F__law_times (aCons (mVar 2) (aCons (mTup (aCons (mVar 1) (aCons (mC (.int 1)) aNil))) aNil))) [.im (pD p), .no, .no] [] = .ok (.ow (pL ((List.range p.length).map fun k : Nat => (k : Rat) * co p k)), []) := mLc_ok (by simp [pD]) ⟨l, rfl⟩ L
  have e : (pL ((List.range p.length).map fun k : Nat => (k : Rat) * co p k)).tail = pL (dv p) := pL_tail _
  refine runP_rt (st := []) rfl ?_
  show m__law_derived [.im (pD p), .no, .no] [] = _
  simp [m__law_derived, k0, cut1, e, T]
theorem summedE_ok (p : List Rat) (hl : p.length ≤ 9) (fp : Fits p) : F__law_summed [pD p] = .ok (pD (strip (sm1 p))) := by
  have L := lc_enum (F := F__law_times) (e := mCall F__law_times (aCons (mVar 2) (aCons (mTup (aCons (mC (.int 1)) (aCons (mBin oAdd (mVar 1) (mC (.int 1))) aNil))) aNil))) (i := 1) (j := 2) (env := [.im (pD p), .no, .no]) (p := p) (fun k : Nat => co p k / ((k + 1 : Nat) : Rat)) (fun x y => ⟨[.im (pD p), .im x, .im y], by simp, rfl, rfl⟩) fun k env1 hk h1 h2 => by
    have i1 : In (k + 1) 1 (1 / ((k + 1 : Nat) : Rat)) := ⟨1, by rw [dv_eq _ (by omega)]; rfl, by simp⟩
    have f1 : Fit (1 / ((k + 1 : Nat) : Rat)) := i1.fit (by omega) (Cap.le (n := 10) (m := 1) (by constructor <;> decide +kernel) (by omega) (Nat.le_refl _))
    have m : F__law_times [qD (co p k), qD (1 / ((k + 1 : Nat) : Rat))] = .ok (qD (co p k / ((k + 1 : Nat) : Rat))) := by
      rw [l_times_op _ _ (fp _ (co_mem hk)) f1]
      congr 2
      grind
    have q : (.tuple [.int 1, .int ((k : Int) + 1)] : D) = qD (1 / ((k + 1 : Nat) : Rat)) := ninth (c := k + 1) (by omega) (by omega)
    simp only [mCall, aCons, mVar, h1, h2, mTup, mBin, mC, aNil, R.bind, EV.view, oAdd, EV.val, List.length_cons, List.length_nil, LIM, Nat.reduceAdd, Nat.reduceLeDiff, if_true, q, m]
  have l : (enumL (pL p)).length ≤ LIM := by
    rw [enum_len]
    show _ ≤ 1000000
    omega
  have k0 : mLc (iEnumL (mVar 0)) (.tp [(.nm 1), (.nm 2)]) [1, 2] (mC (.bool true)) (mCall F__law_times (aCons (mVar 2) (aCons (mTup (aCons (mC (.int 1)) (aCons (mBin oAdd (mVar 1) (mC (.int 1))) aNil))) aNil))) [.im (pD p), .no, .no] [] = .ok (.ow (pL (sm1 p).tail), []) := mLc_ok (by simp [pD]) ⟨l, rfl⟩ L
  have T := l_told_ok (.list (pL (sm1 p))) (sm1 p) (Row.l _) (by rw [sm1_len]; omega)
  have e := sm1_eq p
  simp only [pL_cons, pL_nil, List.cons_append, List.nil_append] at e
  have l2 : 1 + p.length ≤ 1000000 := by omega
  have l3 : p.length ≤ 999999 := by omega
  refine runP_rt (st := []) rfl ?_
  show m__law_summed [.im (pD p), .no, .no] [] = _
  simp [m__law_summed, k0, q0, e, T, sm1_len, l2, l3]
theorem sm1_in9 {p : List Rat} {n m : Nat} (h0 : 0 < n) (hp : Inp n m p) (hl : p.length ≤ 9) : Inp (n * 2520) m (sm1 p) := fun a ha => by
  unfold sm1 at ha
  rcases List.mem_cons.mp ha with rfl | ha
  · exact In_zero _ _ (by omega)
  · obtain ⟨k, hk, rfl⟩ := List.mem_map.mp ha
    rw [List.mem_range] at hk
    have dk : (k + 1) ∣ 2520 := by
      have : ∀ k, k < 9 → (k + 1) ∣ 2520 := by decide
      exact this k (by omega)
    have i1 : In 2520 1 (1 / ((k + 1 : Nat) : Rat)) := by
      refine In.dvd (n := k + 1) ⟨1, ?_, by simp⟩ (by decide) dk
      rw [dv_eq _ (by omega)]
      rfl
    have := (hp.co h0 k).mul i1 h0 (by decide)
    rw [Nat.mul_one] at this
    have e : co p k / ((k + 1 : Nat) : Rat) = co p k * (1 / ((k + 1 : Nat) : Rat)) := by grind
    rw [e]
    exact this
theorem areaE_ok (p : List Rat) (low high : Rat) (n m n1 m1 : Nat) (h0 : 0 < n) (h1 : 0 < n1) (hm1 : 1 ≤ m1) (hl : p.length ≤ 9) (hp : Inp n m p) (fp : Fits p) (i1 : In n1 m1 low) (i2 : In n1 m1 high) (hc : Cap (n * 2520 * n1 ^ 11) (10 * (m * m1 ^ 11))) (f1 : Fit low) (f2 : Fit high) : F__law_area [pD p, qD low, qD high] = .ok (qD (ev (sm1 p) high - ev (sm1 p) low)) := by
  have a := summedE_ok p hl fp
  have is := (sm1_in9 h0 hp hl).strip
  have h2 : 0 < n * 2520 := Nat.mul_pos h0 (by decide)
  have ls : (strip (sm1 p)).length ≤ 10 := Nat.le_trans (strip_le _) (by rw [sm1_len]; omega)
  have fs := is.fits h2 (hc.le (Nat.le_mul_of_pos_right _ (Nat.pow_pos h1)) (by
    have : m * 1 ≤ m * m1 ^ 11 := Nat.mul_le_mul_left _ (Nat.pow_pos hm1)
    omega))
  have cc : Cap (n * 2520 * n1 ^ ((strip (sm1 p)).length + 1)) ((strip (sm1 p)).length * (m * m1 ^ ((strip (sm1 p)).length + 1))) := hc.le (Nat.mul_le_mul_left _ (Nat.pow_le_pow_right h1 (by omega))) (Nat.mul_le_mul ls (Nat.mul_le_mul_left _ (Nat.pow_le_pow_right hm1 (by omega))))
  have v1 := l_value_ok (strip (sm1 p)) high (n * 2520) n1 m m1 h2 h1 hm1 is i2 fs f2 cc
  have v2 := l_value_ok (strip (sm1 p)) low (n * 2520) n1 m m1 h2 h1 hm1 is i1 fs f1 cc
  have f := fun (x : Rat) (hx : In n1 m1 x) => (val_fit (n := n * 2520) (n1 := n1) (m := m) (m1 := m1) h2 h1 hm1 hx (p := strip (sm1 p)) (l := 10) ls is hc).1
  have t := l_less_op _ _ (f high i2) (f low i1)
  rw [ev_strip] at v1 v2
  rw [ev_strip, ev_strip] at t
  simp [F__law_area, m__law_area, a, v1, v2, t]
theorem totalE_ok (p : List Rat) (n m : Nat) (h0 : 0 < n) (hp : Inp n m p) (hc : Cap n ((p.length + 1) * m)) : F__law_total [pD p] = .ok (qD (su (co p) p.length)) := by
  have e : p = tab (co p) p.length := tab_ext rfl fun k _ => rfl
  have k := l_total_ok (co p) p.length n m h0 (fun i hi => hp _ (co_mem hi)) hc
  rw [← e] at k
  exact k
theorem get_set {x y : EV} (hy : y ≠ .no) : ∀ (env : Env) (i : Nat), getE env i = y → getE (setE env i x) i = x
  | [], i, h => absurd h.symm hy
  | e :: r, 0, h => rfl
  | e :: r, i + 1, h => get_set hy r i h
/-- a def that gives out an own list, read as one that keeps it -/
theorem own_frz {a n i : Nat} {A B : MS} {ds es : List D} (h : runPo a n (sSeq A (sSeq B (sRetOwn i))) ds = .ok es) : runP a n (sSeq A (sSeq B (sFrz i (sRet (mVar i))))) ds = .ok (.list es) := by
  simp only [runPo, runP] at h ⊢
  split at h
  · rename_i hl
    rw [if_pos hl]
    simp only [sSeq] at h ⊢
    cases hA : A (startE n ds) [] with
    | ok o =>
      rw [hA] at h
      simp only [R.bind] at h ⊢
      cases o with
      | nx env st =>
        simp only at h ⊢
        cases hB : B env st with
        | ok o2 =>
          rw [hB] at h
          simp only at h ⊢
          cases o2 with
          | nx env2 st2 =>
            simp only [sRetOwn] at h
            simp only [sFrz]
            cases hg : getE env2 i with
            | ow es2 =>
              rw [hg] at h
              simp only at h ⊢
              injection h with h
              subst h
              have := get_set (x := .im (.list es2)) (fun z => by cases z) env2 i hg
              simp [this]
            | _ =>
              rw [hg] at h
              simp at h
          | rt x st2 => simp at h
          | ro x st2 =>
            simp only at h ⊢
            injection h with h
            subst h
            rfl
        | _ =>
          rw [hB] at h
          simp at h
      | rt x st => simp at h
      | ro x st =>
        simp only at h ⊢
        injection h with h
        subst h
        rfl
    | _ =>
      rw [hA] at h
      simp at h
  · simp at h
end BP

namespace BP
open PySem (Str Stmt)
def m_are_knots_of : MS := (sSeq (sIf (mOr (mUn oNot (mCall F_are_small (aCons (mVar 0) aNil))) (mUn oNot (mChain oLe oLe (mC (.int 2)) (mB bLen (vCons (mVar 0) vNil)) (mC (.int 6))))) (sRet (mC (.bool false))) sNil)
  (sRet (mB bAll (vCons (mLc (iZipS (mVar 0) (mCut (mVar 0) (oSome (mC (.int 1))) oNone)) (.tp [(.nm 1), (.nm 2)]) [1, 2] (mC (.bool true)) (mCall F_is_below (aCons (mVar 1) (aCons (mVar 2) aNil)))) vNil))))
def F_are_knots_of : PF := runP 1 3 m_are_knots_of
def m_is_space_of : MS := (sSeq (sIf (mOr (mUn oNot (mUn (oIsI .tuple) (mVar 0))) (mOr (mBin oNe (mB bLen (vCons (mVar 0) vNil)) (mC (.int 3))) (mUn oNot (mCall F_is_within (aCons (mBin oIx (mVar 0) (mC (.int 0))) (aCons (mC (.int 0)) (aCons (mC (.int 4)) aNil))))))) (sRet (mC (.bool false))) sNil)
  (sSeq (sIf (mOr (mUn oNot (mCall F_are_knots_of (aCons (mBin oIx (mVar 0) (mC (.int 1))) aNil))) (mOr (mUn oNot (mCall F_is_list (aCons (mBin oIx (mVar 0) (mC (.int 2))) aNil))) (mBin oNe (mB bLen (vCons (mBin oIx (mVar 0) (mC (.int 2))) vNil)) (mBin oSub (mB bLen (vCons (mBin oIx (mVar 0) (mC (.int 1))) vNil)) (mC (.int 2)))))) (sRet (mC (.bool false))) sNil)
  (sRet (mB bAll (vCons (mLc (iSeq (mBin oIx (mVar 0) (mC (.int 2)))) (.nm 1) [1] (mC (.bool true)) (mCall F_is_within (aCons (mVar 1) (aCons (mUn oNeg (mC (.int 1))) (aCons (mBin oIx (mVar 0) (mC (.int 0))) aNil))))) vNil)))))
def F_is_space_of : PF := runP 1 2 m_is_space_of
def m_is_space : MS := (sRet (mCall F_is_space_of (aCons (mVar 0) aNil)))
def F_is_space : PF := runP 1 1 m_is_space
def m_is_poly_of : MS := (sRet (mAnd (mCall F_are_fractions (aCons (mVar 0) aNil)) (mBin oLe (mB bLen (vCons (mVar 0) vNil)) (mC (.int 5)))))
def F_is_poly_of : PF := runP 1 1 m_is_poly_of
def m_is_bent_of : MS := (sSeq (sIf (mOr (mUn oNot (mUn (oIsI .tuple) (mVar 0))) (mOr (mBin oNe (mB bLen (vCons (mVar 0) vNil)) (mC (.int 2))) (mOr (mUn oNot (mCall F_are_knots_of (aCons (mBin oIx (mVar 0) (mC (.int 0))) aNil))) (mUn oNot (mCall F_is_list (aCons (mBin oIx (mVar 0) (mC (.int 1))) aNil)))))) (sRet (mC (.bool false))) sNil)
  (sRet (mAnd (mBin oEq (mB bLen (vCons (mBin oIx (mVar 0) (mC (.int 1))) vNil)) (mBin oSub (mB bLen (vCons (mBin oIx (mVar 0) (mC (.int 0))) vNil)) (mC (.int 1)))) (mB bAll (vCons (mLc (iSeq (mBin oIx (mVar 0) (mC (.int 1)))) (.nm 1) [1] (mC (.bool true)) (mCall F_is_poly_of (aCons (mVar 1) aNil))) vNil)))))
def F_is_bent_of : PF := runP 1 2 m_is_bent_of
def m_check_bent : MS := (sIf (mOr (mUn oNot (mCall F_is_bent_of (aCons (mVar 0) aNil))) (mUn oNot (mB bAll (vCons (mLc (iSeq (mBin oIx (mVar 0) (mC (.int 1)))) (.nm 1) [1] (mC (.bool true)) (mCall F_are_small (aCons (mVar 1) aNil))) vNil)))) sNever sNil)
def F_check_bent : PF := runP 1 2 m_check_bent
def m_check_space : MS := (sIf (mUn oNot (mCall F_is_space_of (aCons (mVar 0) aNil))) sNever sNil)
def F_check_space : PF := runP 1 1 m_check_space
def m_check_both : MS := (sSeq (sExpr (mCall F_check_space (aCons (mVar 0) aNil)))
  (sExpr (mCall F_check_bent (aCons (mVar 1) aNil))))
def F_check_both : PF := runP 2 2 m_check_both
def m_minus_of : MS := (sRet (mCall F_plus_of (aCons (mVar 0) (aCons (mLc (iSeq (mVar 1)) (.nm 2) [2] (mC (.bool true)) (mCall F_turned (aCons (mVar 2) aNil))) aNil))))
def F_minus_of : PF := runP 2 3 m_minus_of
def m_derived_of : MS := (sRet (mCall F_told_of (aCons (mCut (mLc (iEnumL (mVar 0)) (.tp [(.nm 1), (.nm 2)]) [1, 2] (mC (.bool true)) (mCall F_multiply (aCons (mVar 2) (aCons (mTup (aCons (mVar 1) (aCons (mC (.int 1)) aNil))) aNil)))) (oSome (mC (.int 1))) oNone) aNil)))
def F_derived_of : PF := runP 1 3 m_derived_of
def b_derived_often_1 : MS := (sSet 0 (mCall F_derived_of (aCons (mVar 0) aNil)))
def m_derived_often : MS := (sSeq (sFor (iRange1 (mVar 1)) (.nm 2) b_derived_often_1)
  (sRet (mVar 0)))
def F_derived_often : PF := runP 2 3 m_derived_often
def m_jump_at : MS := (sSeq (sSet 3 (mCall F_minus_of (aCons (mBin oIx (mBin oIx (mVar 0) (mC (.int 1))) (mVar 1)) (aCons (mBin oIx (mBin oIx (mVar 0) (mC (.int 1))) (mBin oSub (mVar 1) (mC (.int 1)))) aNil))))
  (sRet (mCall F_value_of (aCons (mCall F_derived_often (aCons (mVar 3) (aCons (mVar 2) aNil))) (aCons (mBin oIx (mBin oIx (mVar 0) (mC (.int 0))) (mVar 1)) aNil)))))
def F_jump_at : PF := runP 3 4 m_jump_at
def b_breaks_of_1 : MS := (sSeq (sSet 5 (mLc (iRange1 (mBin oAdd (mVar 4) (mC (.int 1)))) (.nm 8) [8] (mBin oNe (mCall F_jump_at (aCons (mVar 1) (aCons (mBin oAdd (mVar 3) (mC (.int 1))) (aCons (mVar 8) aNil)))) (mC (.tuple [(.int 0), (.int 1)]))) (mVar 8)))
  (sExtend 2 (mLc (iSeq (mVar 5)) (.nm 8) [8] (mC (.bool true)) (mTup (aCons (mC (.str "jump")) (aCons (mBin oAdd (mVar 3) (mC (.int 1))) (aCons (mVar 8) aNil)))))))
def m_breaks_of : MS := (sSeq (sOwn 2 (mLc (iEnumL (mBin oIx (mVar 1) (mC (.int 1)))) (.tp [(.nm 6), (.nm 7)]) [6, 7] (mBin oGt (mBin oSub (mB bLen (vCons (mCall F_told_of (aCons (mVar 7) aNil)) vNil)) (mC (.int 1))) (mBin oIx (mVar 0) (mC (.int 0)))) (mTup (aCons (mC (.str "degree")) (aCons (mVar 6) aNil)))))
  (sSeq (sFor (iEnumL (mBin oIx (mVar 0) (mC (.int 2)))) (.tp [(.nm 3), (.nm 4)]) b_breaks_of_1)
  (sFrz 2 (sRet (mVar 2)))))
def F_breaks_of : PF := runP 2 9 m_breaks_of
def m_is_in_of : MS := (sRet (mAnd (mBin oEq (mB bList (vCons (mBin oIx (mVar 1) (mC (.int 0))) vNil)) (mB bList (vCons (mBin oIx (mVar 0) (mC (.int 1))) vNil))) (mBin oEq (mCall F_breaks_of (aCons (mVar 0) (aCons (mVar 1) aNil))) (mLst aNil))))
def F_is_in_of : PF := runP 2 2 m_is_in_of
def m_is_in : MS := (sSeq (sExpr (mCall F_check_both (aCons (mVar 0) (aCons (mVar 1) aNil))))
  (sRet (mCall F_is_in_of (aCons (mVar 0) (aCons (mVar 1) aNil)))))
def F_is_in : PF := runP 2 2 m_is_in
def m_dimension_of : MS := (sRet (mBin oAdd (mBin oAdd (mBin oIx (mVar 0) (mC (.int 0))) (mC (.int 1))) (mB bSum (vCons (mLc (iSeq (mBin oIx (mVar 0) (mC (.int 2)))) (.nm 1) [1] (mC (.bool true)) (mBin oSub (mBin oIx (mVar 0) (mC (.int 0))) (mVar 1))) vNil))))
def F_dimension_of : PF := runP 1 2 m_dimension_of
def m_dimension : MS := (sSeq (sExpr (mCall F_check_space (aCons (mVar 0) aNil)))
  (sRet (mCall F_dimension_of (aCons (mVar 0) aNil))))
def F_dimension : PF := runP 1 1 m_dimension
def m_want_knots : MS := (sIf (mBin oNe (mB bList (vCons (mBin oIx (mVar 1) (mC (.int 0))) vNil)) (mB bList (vCons (mBin oIx (mVar 0) (mC (.int 1))) vNil))) sNever sNil)
def F_want_knots : PF := runP 2 2 m_want_knots
def m_break_of : MS := (sSeq (sExpr (mCall F_check_both (aCons (mVar 0) (aCons (mVar 1) aNil))))
  (sSeq (sExpr (mCall F_want_knots (aCons (mVar 0) (aCons (mVar 1) aNil))))
  (sSeq (sSet 2 (mCall F_breaks_of (aCons (mVar 0) (aCons (mVar 1) aNil))))
  (sRet (mIf (mBin oNe (mVar 2) (mLst aNil)) (mBin oIx (mVar 2) (mC (.int 0))) (mC .none))))))
def F_break_of : PF := runP 2 3 m_break_of
def k_is_break_1 : MS := (sRet (mBin oIn (mVar 2) (mCall F_breaks_of (aCons (mVar 0) (aCons (mVar 1) aNil)))))
def k_is_break_2 : MS := (sSeq (sIf (mUn oNot (mB bAll (vCons (mLc (iSeq (mCut (mVar 2) (oSome (mC (.int 1))) oNone)) (.nm 3) [3] (mC (.bool true)) (mCall F_is_within (aCons (mVar 3) (aCons (mC (.int 0)) (aCons (mBin oAdd (mB bLen (vCons (mBin oIx (mVar 0) (mC (.int 1))) vNil)) (mC (.int 4))) aNil))))) vNil))) (sRet (mC (.bool false))) sNil)
  k_is_break_1)
def k_is_break_3 : MS := (sSeq (sIf (mOr (mUn oNot (mUn (oIsI .tuple) (mVar 2))) (mOr (mBin oLt (mB bLen (vCons (mVar 2) vNil)) (mC (.int 2))) (mUn oNot (mUn (oIsI .str) (mBin oIx (mVar 2) (mC (.int 0))))))) (sRet (mC (.bool false))) sNil)
  k_is_break_2)
def k_is_break_4 : MS := (sSeq (sExpr (mCall F_want_knots (aCons (mVar 0) (aCons (mVar 1) aNil))))
  k_is_break_3)
def m_is_break : MS := (sSeq (sExpr (mCall F_check_both (aCons (mVar 0) (aCons (mVar 1) aNil))))
  k_is_break_4)
def F_is_break : PF := runP 3 4 m_is_break
def m_lies_within : MS := (sSeq (sExpr (mCall F_check_space (aCons (mVar 0) aNil)))
  (sSeq (sExpr (mCall F_check_space (aCons (mVar 1) aNil)))
  (sSeq (sIf (mOr (mBin oNe (mB bList (vCons (mBin oIx (mVar 0) (mC (.int 1))) vNil)) (mB bList (vCons (mBin oIx (mVar 1) (mC (.int 1))) vNil))) (mBin oGt (mBin oIx (mVar 0) (mC (.int 0))) (mBin oIx (mVar 1) (mC (.int 0))))) (sRet (mC (.bool false))) sNil)
  (sRet (mB bAll (vCons (mLc (iZipS (mBin oIx (mVar 0) (mC (.int 2))) (mBin oIx (mVar 1) (mC (.int 2)))) (.tp [(.nm 2), (.nm 3)]) [2, 3] (mC (.bool true)) (mOr (mBin oEq (mVar 2) (mBin oIx (mVar 0) (mC (.int 0)))) (mBin oGe (mVar 2) (mVar 3)))) vNil))))))
def F_lies_within : PF := runP 2 4 m_lies_within
def b__law_cuts_1 : MS := (sExtend 4 (mLc (iRange2 (mBin oAdd (mVar 6) (mC (.int 1))) (mBin oAdd (mVar 1) (mC (.int 1)))) (.nm 7) [7] (mC (.bool true)) (mTup (aCons (mBin oAdd (mVar 5) (mC (.int 1))) (aCons (mVar 7) aNil)))))
def m__law_cuts : MS := (sSeq (sPat (.tp [(.nm 1), (.nm 2), (.nm 3)]) (mVar 0))
  (sSeq (sOwn 4 (mLst aNil))
  (sSeq (sFor (iEnumL (mVar 3)) (.tp [(.nm 5), (.nm 6)]) b__law_cuts_1)
  (sFrz 4 (sRet (mVar 4))))))
def F__law_cuts : PF := runP 1 8 m__law_cuts
def b__law_often_1 : MS := (sSet 2 (mCall F__law_derived (aCons (mVar 2) aNil)))
def m__law_often : MS := (sSeq (sSet 2 (mB bList (vCons (mVar 0) vNil)))
  (sSeq (sFor (iRange1 (mVar 1)) (.nm 3) b__law_often_1)
  (sRet (mCall F__law_told (aCons (mVar 2) aNil)))))
def F__law_often : PF := runP 2 4 m__law_often
def b__law_breaks_1 : MS := (sIf (mBin oNe (mCall F__law_value (aCons (mCall F__law_often (aCons (mVar 8) (aCons (mVar 10) aNil))) (aCons (mBin oIx (mVar 3) (mBin oAdd (mVar 6) (mC (.int 1)))) aNil))) (mCall F__law_value (aCons (mCall F__law_often (aCons (mVar 9) (aCons (mVar 10) aNil))) (aCons (mBin oIx (mVar 3) (mBin oAdd (mVar 6) (mC (.int 1)))) aNil)))) (sAppend 5 (mTup (aCons (mC (.str "jump")) (aCons (mBin oAdd (mVar 6) (mC (.int 1))) (aCons (mVar 10) aNil))))) sNil)
def b__law_breaks_2 : MS := (sSeq (sPar2 8 9 false false (mBin oIx (mBin oIx (mVar 1) (mC (.int 1))) (mVar 6)) (mBin oIx (mBin oIx (mVar 1) (mC (.int 1))) (mBin oAdd (mVar 6) (mC (.int 1)))))
  (sFor (iRange1 (mBin oAdd (mVar 7) (mC (.int 1)))) (.nm 10) b__law_breaks_1))
def m__law_breaks : MS := (sSeq (sPat (.tp [(.nm 2), (.nm 3), (.nm 4)]) (mVar 0))
  (sSeq (sOwn 5 (mLc (iEnumL (mBin oIx (mVar 1) (mC (.int 1)))) (.tp [(.nm 11), (.nm 12)]) [11, 12] (mBin oGt (mB bLen (vCons (mCall F__law_told (aCons (mVar 12) aNil)) vNil)) (mBin oAdd (mVar 2) (mC (.int 1)))) (mTup (aCons (mC (.str "degree")) (aCons (mVar 11) aNil)))))
  (sSeq (sFor (iEnumL (mVar 4)) (.tp [(.nm 6), (.nm 7)]) b__law_breaks_2)
  (sFrz 5 (sRet (mVar 5))))))
def F__law_breaks : PF := runP 2 13 m__law_breaks
def m__law_are_small_polys : MS := (sRet (mB bAll (vCons (mLc (iSeq (mVar 0)) (.nm 1) [1] (mC (.bool true)) (mAnd (mBin oLt (mB bLen (vCons (mVar 1) vNil)) (mC (.int 6))) (mCall F__law_are_small (aCons (mVar 1) aNil)))) vNil)))
def F__law_are_small_polys : PF := runP 1 2 m__law_are_small_polys
def b__law_power_1 : MS := (sSet 2 (mCall F__law_product (aCons (mVar 2) (aCons (mVar 0) aNil))))
def m__law_power : MS := (sSeq (sSet 2 (mLst (aCons (mTup (aCons (mC (.int 1)) (aCons (mC (.int 1)) aNil))) aNil)))
  (sSeq (sFor (iRange1 (mVar 1)) (.nm 3) b__law_power_1)
  (sRet (mVar 2))))
def F__law_power : PF := runP 2 4 m__law_power
def b__law_cut_sum_1 : MS := (sIf (mBin oGe (mVar 7) (mVar 9)) (sSet 8 (mCall F__law_add (aCons (mVar 8) (aCons (mCall F__law_scale (aCons (mCall F__law_power (aCons (mLst (aCons (mCall F__law_less (aCons (mTup (aCons (mC (.int 0)) (aCons (mC (.int 1)) aNil))) (aCons (mBin oIx (mVar 3) (mVar 9)) aNil))) (aCons (mTup (aCons (mC (.int 1)) (aCons (mC (.int 1)) aNil))) aNil))) (aCons (mVar 10) aNil))) (aCons (mVar 11) aNil))) aNil)))) sNil)
def b__law_cut_sum_2 : MS := (sSeq (sSet 8 (mVar 5))
  (sSeq (sFor (iZipS (mCall F__law_cuts (aCons (mVar 0) aNil)) (mCut (mVar 1) (oSome (mBin oAdd (mVar 2) (mC (.int 1)))) oNone)) (.tp [(.tp [(.nm 9), (.nm 10)]), (.nm 11)]) b__law_cut_sum_1)
  (sAppend 6 (mVar 8))))
def m__law_cut_sum : MS := (sSeq (sPat (.tp [(.nm 2), (.nm 3), (.nm 4)]) (mVar 0))
  (sSeq (sPar2 5 6 false true (mCall F__law_told (aCons (mCut (mVar 1) oNone (oSome (mBin oAdd (mVar 2) (mC (.int 1))))) aNil)) (mLst aNil))
  (sSeq (sFor (iRange1 (mBin oSub (mB bLen (vCons (mVar 3) vNil)) (mC (.int 1)))) (.nm 7) b__law_cut_sum_2)
  (sFrz 6 (sRet (mTup (aCons (mB bList (vCons (mVar 3) vNil)) (aCons (mVar 6) aNil))))))))
def F__law_cut_sum : PF := runP 2 12 m__law_cut_sum
def m__law_lies_within : MS := (sSeq (sIf (mOr (mBin oNe (mBin oIx (mVar 0) (mC (.int 1))) (mBin oIx (mVar 1) (mC (.int 1)))) (mBin oGt (mBin oIx (mVar 0) (mC (.int 0))) (mBin oIx (mVar 1) (mC (.int 0))))) (sRet (mC (.bool false))) sNil)
  (sRet (mB bAll (vCons (mLc (iZipS (mBin oIx (mVar 0) (mC (.int 2))) (mBin oIx (mVar 1) (mC (.int 2)))) (.tp [(.nm 2), (.nm 3)]) [2, 3] (mC (.bool true)) (mOr (mBin oEq (mVar 2) (mBin oIx (mVar 0) (mC (.int 0)))) (mBin oGe (mVar 2) (mVar 3)))) vNil))))
def F__law_lies_within : PF := runP 2 4 m__law_lies_within
end BP

namespace BP
/-! ### spaces, bent ones: looks, dimensions -/
theorem lcL_mapg {α : Type} {pt : Pat} {e : ME} {env : Env} {st : Pt} (inj g : α → D) : ∀ (l : List α), (∀ a ∈ l, ∃ env1, pt.set (inj a) env = .ok env1 ∧ e env1 st = .ok (.im (g a), st)) → lcL pt (mC (.bool true)) e env (l.map inj) st = .ok (l.map g, st)
  | [], _ => rfl
  | a :: l, h => by
    obtain ⟨env1, e1, e2⟩ := h a List.mem_cons_self
    have ih := lcL_mapg inj g l fun b hb => h b (List.mem_cons_of_mem _ hb)
    simp [lcL, e1, e2, ih]
theorem bools_t {α : Type} : ∀ l : List α, boolsOf (l.map fun _ => (.bool true : D)) = some (l.map fun _ => true)
  | [] => rfl
  | a :: l => by simp [boolsOf, bools_t l]
theorem bAll_t {α : Type} (l : List α) : bAll [.list (l.map fun _ => .bool true)] = bl true := by
  rw [bAll_l, bools_t]
  simp
theorem ints_map {α : Type} (f : α → Int) : ∀ l : List α, intsOf (l.map fun a => (.int (f a) : D)) = some (l.map f)
  | [] => rfl
  | a :: l => by simp [intsOf, ints_map f l]
theorem bSum_m {α : Type} (f : α → Int) (l : List α) : bSum [.list (l.map fun a => .int (f a))] = .ok (.im (.int (l.map f).sum)) := by
  rw [bSum_l, ints_map]
def iD (l : List Int) : List D := l.map .int
@[simp] theorem iD_len (l : List Int) : (iD l).length = l.length := by simp [iD]
def psD (ps : List (List Rat)) : List D := ps.map pD
@[simp] theorem psD_len (l : List (List Rat)) : (psD l).length = l.length := by simp [psD]
def spcD (d : Nat) (ks : List Rat) (ss : List Int) : D := .tuple [.int (d : Int), pD ks, .list (iD ss)]
def bnD (ks : List Rat) (ps : List (List Rat)) : D := .tuple [pD ks, .list (psD ps)]
structure Kn (ks : List Rat) : Prop where
  l2 : 2 ≤ ks.length
  l6 : ks.length ≤ 6
  sm : ks.all sm = true
  up : ∀ i, i + 1 < ks.length → co ks i < co ks (i + 1)
theorem Kn.co_sm {ks : List Rat} (k : Kn ks) {i : Nat} (h : i < ks.length) : BP.sm (co ks i) = true := List.all_eq_true.mp k.sm _ (co_mem h)
theorem knots_ok {x : D} {ks : List Rat} (h : Row x ks) (k : Kn ks) : F_are_knots_of [x] = .ok (.bool true) := by
  have l2 := k.l2
  have l6 := k.l6
  have a := are_sm_ok h (by omega)
  rw [k.sm] at a
  have c : cutD (pL ks) (some 1) none = pL ks.tail := by rw [cut1, pL_tail]
  have L := lcL_ix (p := .tp [.nm 1, .nm 2]) (e := mCall F_is_below (aCons (mVar 1) (aCons (mVar 2) aNil))) (env := [.im x, .no, .no]) (st := []) (ds := zipL (pL ks) (pL ks.tail)) (es := ks.tail.map fun _ => .bool true) (by rw [zipT_len]; simp) fun i d y hd hy => by
    obtain ⟨hi, rfl⟩ := zipT_get ks i d hd
    have b := below_op (sm_fit (k.co_sm (i := i) (by omega))) (sm_fit (k.co_sm hi))
    rw [decide_eq_true (k.up i hi)] at b
    have ey : y = .bool true := by
      rw [List.getElem?_map] at hy
      cases hz : ks.tail[i]? with
      | none => rw [hz] at hy; cases hy
      | some z =>
        rw [hz] at hy
        injection hy with hy
        exact hy.symm
    exact ⟨_, by simp; rfl, by simp [b, ey]⟩
  have M := mLc_ok (it := iZipS (mVar 0) (mCut (mVar 0) (oSome (mC (.int 1))) oNone)) (vs := [1, 2]) (env := [.im x, .no, .no]) (st := []) (ds := zipL (pL ks) (pL ks.tail)) (by rcases h with rfl | rfl <;> simp [c]) ⟨by rw [zipT_len]; show _ ≤ 1000000; omega, rfl⟩ L
  have B := bAll_t ks.tail
  have l2' : (2 : Int) ≤ (ks.length : Int) := by omega
  have l6' : (ks.length : Int) ≤ 6 := by omega
  refine runP_rt (st := []) rfl ?_
  show m_are_knots_of [.im x, .no, .no] [] = _
  unfold m_are_knots_of
  refine (seq_nx (env1 := [.im x, .no, .no]) (st1 := []) ?_).trans ?_
  · refine sIf_false (st1 := []) ?_ rfl
    rcases h with rfl | rfl <;> simp [a, l2', l6', mChain]
  · generalize (ks.tail.map fun _ => (.bool true : D)) = es at M B
    simp [-iZipS, M, B]
structure Spc (d : Nat) (ks : List Rat) (ss : List Int) : Prop where
  d4 : d ≤ 4
  kn : Kn ks
  len : ss.length + 2 = ks.length
  s : ∀ s ∈ ss, -1 ≤ s ∧ s ≤ (d : Int)
theorem is_listT (xs : List D) : F_is_list [.list xs] = .ok (.bool true) := by simp [F_is_list, m_is_list]
theorem is_listT2 (xs : List D) : F_is_list [.tuple xs] = .ok (.bool true) := by simp [F_is_list, m_is_list]
theorem nI' (i j : Int) : oNe (.int i) (.int j) = bl (!(decide (i = j))) := by
  simp [sh_i, eqv_i]
  rfl
theorem eI' (i j : Int) : oEq (.int i) (.int j) = bl (decide (i = j)) := by
  simp [sh_i, eqv_i]
  rfl
theorem space_ok {d : Nat} {ks : List Rat} {ss : List Int} {kx sx : D} (S : Spc d ks ss) (h : Row kx ks) (hs : sx = .list (iD ss) ∨ sx = .tuple (iD ss)) : F_is_space_of [.tuple [.int (d : Int), kx, sx]] = .ok (.bool true) := by
  have K := knots_ok h S.kn
  have d4 := S.d4
  have W : F_is_within [.int (d : Int), .int 0, .int 4] = .ok (.bool true) := is_within_ok (by omega) (by omega)
  have l6 := S.kn.l6
  have len := S.len
  have L := lcL_mapg (pt := .nm 1) (e := mCall F_is_within (aCons (mVar 1) (aCons (mUn oNeg (mC (.int 1))) (aCons (mBin oIx (mVar 0) (mC (.int 0))) aNil)))) (env := [.im (.tuple [.int (d : Int), kx, sx]), .no]) (st := []) (fun i : Int => .int i) (fun _ => .bool true) ss fun a ha => by
    have w : F_is_within [.int a, .int (-1), .int (d : Int)] = .ok (.bool true) := is_within_ok (S.s a ha).1 (S.s a ha).2
    exact ⟨_, by simp; rfl, by simp [w, atD, ixD]⟩
  have M := mLc_ok (it := iSeq (mBin oIx (mVar 0) (mC (.int 2)))) (vs := [1]) (env := [.im (.tuple [.int (d : Int), kx, sx]), .no]) (st := []) (ds := iD ss) (by rcases hs with rfl | rfl <;> simp [atD, ixD]) ⟨by rw [iD_len]; show _ ≤ 1000000; omega, rfl⟩ L
  have B := bAll_t ss
  have le : ¬ (ss.length : Int) = (ks.length : Int) - 2 → False := fun z => z (by omega)
  have le' : (ss.length : Int) = (ks.length : Int) - 2 := by omega
  refine runP_rt (st := []) rfl ?_
  show m_is_space_of [.im (.tuple [.int (d : Int), kx, sx]), .no] [] = _
  unfold m_is_space_of
  refine (seq_nx (env1 := [.im (.tuple [.int (d : Int), kx, sx]), .no]) (st1 := []) ?_).trans ?_
  · refine sIf_false (st1 := []) ?_ rfl
    simp [-oNe, nI', W, atD, ixD]
  · refine (seq_nx (env1 := [.im (.tuple [.int (d : Int), kx, sx]), .no]) (st1 := []) ?_).trans ?_
    · refine sIf_false (st1 := []) ?_ rfl
      rcases h with rfl | rfl <;> rcases hs with rfl | rfl <;> simp [-oNe, nI', K, is_listT, is_listT2, atD, ixD, le']
    · simp [-iSeq, M, B]
theorem sp_ok {d : Nat} {ks : List Rat} {ss : List Int} (S : Spc d ks ss) : F_is_space_of [spcD d ks ss] = .ok (.bool true) := space_ok S (Row.l ks) (.inl rfl)
theorem check_space_ok {d : Nat} {ks : List Rat} {ss : List Int} (S : Spc d ks ss) : F_check_space [spcD d ks ss] = .ok .none := by
  simp [F_check_space, m_check_space, sp_ok S]
def dimZ (d : Nat) (ss : List Int) : Int := (d : Int) + 1 + (ss.map fun s => (d : Int) - s).sum
theorem dim_of_ok {d : Nat} {ks : List Rat} {ss : List Int} (hl : ss.length ≤ 1000) : F_dimension_of [spcD d ks ss] = .ok (.int (dimZ d ss)) := by
  have L := lcL_mapg (pt := .nm 1) (e := mBin oSub (mBin oIx (mVar 0) (mC (.int 0))) (mVar 1)) (env := [.im (spcD d ks ss), .no]) (st := []) (fun i : Int => .int i) (fun s => .int ((d : Int) - s)) ss fun a ha => ⟨_, by simp; rfl, by simp [spcD, atD, ixD]⟩
  have M := mLc_ok (it := iSeq (mBin oIx (mVar 0) (mC (.int 2)))) (vs := [1]) (env := [.im (spcD d ks ss), .no]) (st := []) (ds := iD ss) (by simp [spcD, atD, ixD]) ⟨by rw [iD_len]; show _ ≤ 1000000; omega, rfl⟩ L
  have B := bSum_m (fun s : Int => (d : Int) - s) ss
  have i0 : oIx (spcD d ks ss) (.int 0) = .ok (.im (.int (d : Int))) := rfl
  refine runP_rt (st := []) rfl ?_
  show m_dimension_of [.im (spcD d ks ss), .no] [] = _
  unfold m_dimension_of
  simp [-iSeq, M, B, i0, dimZ]
theorem dimension_ok {d : Nat} {ks : List Rat} {ss : List Int} (S : Spc d ks ss) : F_dimension [spcD d ks ss] = .ok (.int (dimZ d ss)) := by
  have l := S.len
  have l6 := S.kn.l6
  simp [F_dimension, m_dimension, check_space_ok S, dim_of_ok (ks := ks) (d := d) (ss := ss) (by omega)]
structure Bn (ks : List Rat) (ps : List (List Rat)) : Prop where
  kn : Kn ks
  len : ps.length + 1 = ks.length
  p : ∀ p ∈ ps, p.length ≤ 5 ∧ p.all sm = true
theorem is_poly_ok {x : D} {p : List Rat} (h : Row x p) (hl : p.length ≤ 5) : F_is_poly_of [x] = .ok (.bool true) := by
  have a := are_fr_ok h (by omega)
  have l : (p.length : Int) ≤ 5 := by omega
  rcases h with rfl | rfl <;> simp [F_is_poly_of, m_is_poly_of, a, l]
theorem is_bent_ok {ks : List Rat} {ps : List (List Rat)} (b : Bn ks ps) : F_is_bent_of [bnD ks ps] = .ok (.bool true) := by
  have K := knots_ok (Row.l ks) b.kn
  have l6 := b.kn.l6
  have len := b.len
  have L := lcL_mapg (pt := .nm 1) (e := mCall F_is_poly_of (aCons (mVar 1) aNil)) (env := [.im (bnD ks ps), .no]) (st := []) pD (fun _ => .bool true) ps fun a ha => by
    have w := is_poly_ok (Row.l a) (b.p a ha).1
    exact ⟨_, by simp; rfl, by simp [w]⟩
  have M := mLc_ok (it := iSeq (mBin oIx (mVar 0) (mC (.int 1)))) (vs := [1]) (env := [.im (bnD ks ps), .no]) (st := []) (ds := psD ps) (by simp [bnD, atD, ixD]) ⟨by rw [psD_len]; show _ ≤ 1000000; omega, rfl⟩ L
  have B := bAll_t ps
  have le : (ps.length : Int) = (ks.length : Int) - 1 := by omega
  have i0 : oIx (bnD ks ps) (.int 0) = .ok (.im (pD ks)) := rfl
  have i1 : oIx (bnD ks ps) (.int 1) = .ok (.im (.list (psD ps))) := rfl
  refine runP_rt (st := []) rfl ?_
  show m_is_bent_of [.im (bnD ks ps), .no] [] = _
  unfold m_is_bent_of
  refine (seq_nx (env1 := [.im (bnD ks ps), .no]) (st1 := []) ?_).trans ?_
  · refine sIf_false (st1 := []) ?_ rfl
    have it : oIsI .tuple (bnD ks ps) = bl true := rfl
    have lt : bLen [bnD ks ps] = .ok (.im (.int 2)) := rfl
    simp [-oNe, -oIsI, nI', K, is_listT, i0, i1, it, lt]
  · have l1 : bLen [pD ks] = .ok (.im (.int (ks.length : Int))) := by simp [pD]
    simp [-iSeq, -oEq, eI', M, B, i0, i1, l1, le]
theorem check_bent_ok {ks : List Rat} {ps : List (List Rat)} (b : Bn ks ps) : F_check_bent [bnD ks ps] = .ok .none := by
  have l6 := b.kn.l6
  have len := b.len
  have I := is_bent_ok b
  have L := lcL_mapg (pt := .nm 1) (e := mCall F_are_small (aCons (mVar 1) aNil)) (env := [.im (bnD ks ps), .no]) (st := []) pD (fun _ => .bool true) ps fun a ha => by
    have w := are_sm_ok (Row.l a) (by have := (b.p a ha).1; omega)
    rw [(b.p a ha).2] at w
    exact ⟨_, by simp; rfl, by simp [w]⟩
  have M := mLc_ok (it := iSeq (mBin oIx (mVar 0) (mC (.int 1)))) (vs := [1]) (env := [.im (bnD ks ps), .no]) (st := []) (ds := psD ps) (by simp [bnD, atD, ixD]) ⟨by rw [psD_len]; show _ ≤ 1000000; omega, rfl⟩ L
  have B := bAll_t ps
  simp [-iSeq, F_check_bent, m_check_bent, I, M, B]
theorem check_both_ok {d : Nat} {ks : List Rat} {ss : List Int} {ps : List (List Rat)} (S : Spc d ks ss) (b : Bn ks ps) : F_check_both [spcD d ks ss, bnD ks ps] = .ok .none := by
  simp [F_check_both, m_check_both, check_space_ok S, check_bent_ok b]
end BP

namespace BP
/-! ### derived so often; jumps; breaks -/
theorem minusB_ok (d e : D) (p q : List Rat) (hd : Row d p) (he : Row e q) (hl : p.length < 800) (hl2 : q.length < 800) (fp : Fits p) (fq : Fits q) : F_minus_of [d, e] = .ok (pD (strip (padd p (pmulc (-1) q)))) := by
  have L := fun x : EV => lcL_pL (pt := .nm 2) (e := mCall F_turned (aCons (mVar 2) aNil)) (env := [.im d, x, .no]) (g := (· * (-1))) (p := q) (st := []) fun a ha st => ⟨[.im d, x, .im (qD a)], by simp, by
    have e : a * (-1) = -a := by grind
    simp [turned_ok, e]⟩
  have fq2 : Fits (pmulc (-1) q) := fun a ha => by
    unfold pmulc at ha
    obtain ⟨b, hb, rfl⟩ := List.mem_map.mp ha
    have e : b * (-1) = -b := by grind
    rw [e]
    have := fq b hb
    exact ⟨by simpa using this.1, by simpa using this.2⟩
  have A := plus_of_ok d (pD (pmulc (-1) q)) p (pmulc (-1) q) hd (Row.l _) hl (by simp [pmulc]; omega) fp fq2
  have l : q.length ≤ 1000000 := by omega
  unfold pD pmulc at A
  rcases he with rfl | rfl <;> simp [F_minus_of, m_minus_of, mLc, l, L, A, pD, pmulc]
theorem derivedB_ok (p : List Rat) (hl : p.length < 800) (fp : Fits p) : F_derived_of [pD p] = .ok (pD (strip (dv p))) := by
  have L := lc_enum (F := F_multiply) (e := mCall F_multiply (aCons (mVar 2) (aCons (mTup (aCons (mVar 1) (aCons (mC (.int 1)) aNil))) aNil))) (i := 1) (j := 2) (env := [.im (pD p), .no, .no]) (p := p) (fun k : Nat => (k : Rat) * co p k) (fun x y => ⟨[.im (pD p), .im x, .im y], by simp, rfl, rfl⟩) fun k env1 hk h1 h2 => by
    have m : F_multiply [qD (co p k), qD ((k : Nat) : Rat)] = .ok (qD ((k : Rat) * co p k)) := by
      rw [Rat.mul_comm]
      exact mul_op _ _ (fp _ (co_mem hk)) (fit_nat' (by omega))
    have q : (.tuple [.int (k : Int), .int 1] : D) = qD ((k : Nat) : Rat) := qi _
    simp [h1, h2, q, m]
  have T := told_ok (.list (pL (dv p))) (dv p) (Row.l _) (by rw [dv_len]; omega)
  have l : (enumL (pL p)).length ≤ LIM := by
    rw [enum_len]
    show _ ≤ 1000000
    omega
  have k0 : mLc (iEnumL (mVar 0)) (.tp [(.nm 1), (.nm 2)]) [1, 2] (mC (.bool true)) (mCall F_multiply (aCons (mVar 2) (aCons (mTup (aCons (mVar 1) (aCons (mC (.int 1)) aNil))) aNil))) [.im (pD p), .no, .no] [] = .ok (.ow (pL ((List.range p.length).map fun k : Nat => (k : Rat) * co p k)), []) := mLc_ok (by simp [pD]) ⟨l, rfl⟩ L
  have e : (pL ((List.range p.length).map fun k : Nat => (k : Rat) * co p k)).tail = pL (dv p) := pL_tail _
  refine runP_rt (st := []) rfl ?_
  show m_derived_of [.im (pD p), .no, .no] [] = _
  simp [m_derived_of, k0, cut1, e, T]
def dvs : Nat → List Rat → List Rat
  | 0, p => p
  | k + 1, p => strip (dv (dvs k p))
theorem dvs_len (p : List Rat) : ∀ k, (dvs k p).length ≤ p.length
  | 0 => Nat.le_refl _
  | k + 1 => by
    have := dvs_len p k
    have := strip_le (dv (dvs k p))
    rw [dv_len] at this
    rw [dvs]
    omega
theorem dv_in {n m : Nat} (h0 : 0 < n) {p : List Rat} (hp : Inp n m p) (hl : p.length ≤ 5) : Inp n (m * 4) (dv p) := fun a ha => by
  unfold dv at ha
  obtain ⟨k, hk, rfl⟩ := List.mem_map.mp (List.mem_of_mem_tail ha)
  rw [List.mem_range] at hk
  have := (In_int 1 (k : Int) 4 (by decide) (by omega)).mul (hp.co h0 k) (by decide) h0
  rw [Nat.one_mul, Nat.mul_comm] at this
  exact this
theorem dvs_in {n m : Nat} (h0 : 0 < n) {p : List Rat} (hp : Inp n m p) (hl : p.length ≤ 5) : ∀ k, Inp n (m * 4 ^ k) (dvs k p)
  | 0 => by
    rw [Nat.pow_zero, Nat.mul_one]
    exact hp
  | k + 1 => by
    have l := dvs_len p k
    have := (dv_in h0 (dvs_in h0 hp hl k) (by omega)).strip
    rw [Nat.pow_succ, ← Nat.mul_assoc]
    exact this
theorem co_dvs_lin {L p q : List Rat} (h : ∀ k, co L k = co q k - co p k) : ∀ o k, co (dvs o L) k = co (dvs o q) k - co (dvs o p) k
  | 0, k => h k
  | o + 1, k => by
    rw [dvs, dvs, dvs, co_strip, co_strip, co_strip, co_dv, co_dv, co_dv, co_dvs_lin h o (k + 1)]
    grind
theorem ev_dvs_lin {L p q : List Rat} (h : ∀ k, co L k = co q k - co p k) (o : Nat) (x : Rat) : ev (dvs o L) x = ev (dvs o q) x - ev (dvs o p) x := by
  have e : ev (dvs o L) x = ev (padd (dvs o q) (pmulc (-1) (dvs o p))) x := ev_of_co x fun k => by
    rw [co_dvs_lin h, co_padd, co_pmulc]
    grind
  rw [e, ev_padd, ev_pmulc]
  grind
theorem range0_get {n : Nat} {i : Nat} {d : D} (h : (rangeL 0 (n : Int))[i]? = some d) : i < n ∧ d = .int (i : Int) := by
  unfold rangeL at h
  have e : ((n : Int) - 0).toNat = n := by omega
  rw [e, List.getElem?_map] at h
  by_cases hi : i < n
  · rw [List.getElem?_range hi] at h
    injection h with h
    exact ⟨hi, by rw [← h]; simp⟩
  · rw [List.getElem?_eq_none (by simp; omega)] at h
    cases h
theorem often_ok (p : List Rat) (k : Nat) (hk : k ≤ 1000) (hl : p.length < 800) (hf : ∀ i, i < k → Fits (dvs i p)) : F_derived_often [pD p, .int (k : Int)] = .ok (pD (dvs k p)) := by
  obtain ⟨env2, e, x, rfl, _⟩ := forL_inv (p := .nm 2) (b := b_derived_often_1) (st := []) (ds := rangeL 0 (k : Int)) (fun i env => ∃ x, env = [.im (pD (dvs i p)), .im (.int (k : Int)), x] ∧ isPt x = false) (fun i d hd env hI => by
    obtain ⟨x, rfl, hx⟩ := hI
    obtain ⟨hi, rfl⟩ := range0_get hd
    have l := dvs_len p i
    have m := derivedB_ok (dvs i p) (by omega) (hf i hi)
    exact ⟨_, by simp [hx]; rfl, _, by unfold b_derived_often_1; exact sSet_ok (mCall_ok rfl m) rfl rfl, _, rfl, rfl⟩) (env := [.im (pD p), .im (.int (k : Int)), .no]) ⟨.no, rfl, rfl⟩
  have R := iR1N (m := mVar 1) (env := [.im (pD p), .im (.int (k : Int)), .no]) (st := []) (st' := []) (k := k) rfl hk
  rw [range_len] at e
  refine runP_rt (st := []) rfl ?_
  show m_derived_often [.im (pD p), .im (.int (k : Int)), .no] [] = _
  unfold m_derived_often sFor
  refine (seq_nx (env1 := [.im (pD (dvs k p)), .im (.int (k : Int)), x]) (st1 := []) ?_).trans ?_
  · rw [R]
    exact e
  · simp
theorem l_often_ok {d : D} (p : List Rat) (hd : Row d p) (k : Nat) (hk : k ≤ 1000) (hl : p.length < 800) (hf : ∀ i, i < k → Fits (dvs i p)) : F__law_often [d, .int (k : Int)] = .ok (pD (strip (dvs k p))) := by
  obtain ⟨env2, e, x, rfl, _⟩ := forL_inv (p := .nm 3) (b := b__law_often_1) (st := []) (ds := rangeL 0 (k : Int)) (fun i env => ∃ x, env = [.im d, .im (.int (k : Int)), .im (pD (dvs i p)), x] ∧ isPt x = false) (fun i d' hd' env hI => by
    obtain ⟨x, rfl, hx⟩ := hI
    obtain ⟨hi, rfl⟩ := range0_get hd'
    have l := dvs_len p i
    have m := derivedE_ok (dvs i p) (by omega) (hf i hi)
    exact ⟨_, by simp [hx]; rfl, _, by unfold b__law_often_1; exact sSet_ok (mCall_ok rfl m) rfl rfl, _, rfl, rfl⟩) (env := [.im d, .im (.int (k : Int)), .im (pD p), .no]) ⟨.no, rfl, rfl⟩
  have R := iR1N (m := mVar 1) (env := [.im d, .im (.int (k : Int)), .im (pD p), .no]) (st := []) (st' := []) (k := k) rfl hk
  rw [range_len] at e
  have l := dvs_len p k
  have T := l_told_ok (pD (dvs k p)) (dvs k p) (Row.l _) (by omega)
  refine runP_rt (st := []) rfl ?_
  show m__law_often [.im d, .im (.int (k : Int)), .no, .no] [] = _
  unfold m__law_often sFor
  refine (seq_nx (env1 := [.im d, .im (.int (k : Int)), .im (pD p), .no]) (st1 := []) ?_).trans ?_
  · rcases hd with rfl | rfl <;> simp [pD]
  · refine (seq_nx (env1 := [.im d, .im (.int (k : Int)), .im (pD (dvs k p)), x]) (st1 := []) ?_).trans ?_
    · rw [R]
      exact e
    · simp [T]
/-- a piece -/
def pg (ps : List (List Rat)) (i : Nat) : List Rat := ps.getD i []
theorem pg_mem {ps : List (List Rat)} {i : Nat} (h : i < ps.length) : pg ps i ∈ ps := by
  unfold pg
  rw [List.getD_eq_getElem?_getD, List.getElem?_eq_getElem h]
  exact List.getElem_mem h
theorem atD_psD {ps : List (List Rat)} {i : Nat} (h : i < ps.length) : atD (psD ps) (i : Int) = some (pD (pg ps i)) := by
  unfold atD ixD
  rw [if_pos (Int.natCast_nonneg i), if_pos (by simp; omega)]
  simp [psD, pg, h]
theorem ix_ps {ps : List (List Rat)} {i : Nat} (h : i < ps.length) : oIx (.list (psD ps)) (.int (i : Int)) = .ok (.im (pD (pg ps i))) := by
  simp [atD_psD h]
theorem ix_pL {ks : List Rat} {i : Nat} (h : i < ks.length) : oIx (pD ks) (.int (i : Int)) = .ok (.im (qD (co ks i))) := by
  simp [pD, co_at ks i h]
/-- whether the pieces at inner knot i + 1 differ in their values derived o times -/
def Jb (ks : List Rat) (ps : List (List Rat)) (i o : Nat) : Bool := !decide (ev (dvs o (pg ps i)) (co ks (i + 1)) = ev (dvs o (pg ps (i + 1))) (co ks (i + 1)))
section
variable {ks : List Rat} {ps : List (List Rat)}
theorem Bn.fits (b : Bn ks ps) {i : Nat} (h : i < ps.length) : Fits (pg ps i) := sms_fit (b.p _ (pg_mem h)).2
theorem Bn.dvs_fits (b : Bn ks ps) {i : Nat} (h : i < ps.length) {o : Nat} (ho : o ≤ 5) : Fits (dvs o (pg ps i)) := by
  have := (dvs_in LC_pos (sms_in (b.p _ (pg_mem h)).2) (b.p _ (pg_mem h)).1 o).mono (l := 999 * 4 ^ 5) (Nat.mul_le_mul_left _ (Nat.pow_le_pow_right (by decide) ho))
  exact this.fits LC_pos (by constructor <;> decide +kernel)
theorem val_dvs {p : List Rat} {m o : Nat} {x : Rat} (hp : Inp LC m p) (hm : m ≤ 1998) (hl : p.length ≤ 5) (ho : o ≤ 5) (hx : sm x = true) : Inp LC (1998 * 4 ^ 5) (dvs o p) ∧ Fits (dvs o p) ∧ (dvs o p).length ≤ 5 ∧ Cap (LC * LC ^ ((dvs o p).length + 1)) ((dvs o p).length * (1998 * 4 ^ 5 * 999 ^ ((dvs o p).length + 1))) := by
  have l := dvs_len p o
  have i := (dvs_in LC_pos hp hl o).mono (l := 1998 * 4 ^ 5) (Nat.mul_le_mul hm (Nat.pow_le_pow_right (by decide) ho))
  exact ⟨i, i.fits LC_pos (by constructor <;> decide +kernel), by omega, Cap.le (n := LC * LC ^ 6) (m := 5 * (1998 * 4 ^ 5 * 999 ^ 6)) (by constructor <;> decide +kernel) (Nat.mul_le_mul_left _ (Nat.pow_le_pow_right LC_pos (by omega))) (Nat.mul_le_mul (by omega) (Nat.mul_le_mul_left _ (Nat.pow_le_pow_right (by decide) (by omega))))⟩
theorem jump_ok (b : Bn ks ps) {i o : Nat} (hi : i + 1 < ps.length) (ho : o ≤ 5) : ∃ v, F_jump_at [bnD ks ps, .int ((i : Int) + 1), .int (o : Int)] = .ok (qD v) ∧ (!decide (v = 0)) = Jb ks ps i o := by
  obtain ⟨a1, a2⟩ := b.p _ (pg_mem (i := i) (by omega))
  obtain ⟨b1, b2⟩ := b.p _ (pg_mem hi)
  have len := b.len
  have M := minusB_ok (pD (pg ps (i + 1))) (pD (pg ps i)) _ _ (Row.l _) (Row.l _) (by omega) (by omega) (b.fits hi) (b.fits (i := i) (by omega))
  obtain ⟨L, hL⟩ : ∃ L, L = strip (padd (pg ps (i + 1)) (pmulc (-1) (pg ps i))) := ⟨_, rfl⟩
  rw [← hL] at M
  have iL : Inp LC 1998 L := by
    have i1 := sms_in b2
    have i2 := (sms_in a2).pmulc (c := -1) (In_int 1 (-1) 1 (by decide) (by decide)) LC_pos (by decide)
    rw [Nat.mul_one, Nat.mul_one] at i2
    rw [hL]
    exact (Inp.padd LC_pos i1 i2).strip
  have lL : L.length ≤ 5 := by
    rw [hL]
    refine Nat.le_trans (strip_le _) ?_
    rw [padd_len]
    simp [pmulc]
    omega
  have x := b.kn.co_sm (i := i + 1) (by omega)
  have O := often_ok L o (by omega) (by omega) fun j hj => (val_dvs iL (Nat.le_refl _) lL (o := j) (by omega) x).2.1
  obtain ⟨v1, v2, v3, v4⟩ := val_dvs iL (Nat.le_refl _) lL ho x
  have V := value_of_ok (pD (dvs o L)) (dvs o L) (co ks (i + 1)) LC LC (1998 * 4 ^ 5) 999 (Row.l _) (by omega) LC_pos LC_pos (by decide) v1 (sm_in x) v2 (sm_fit x) v4
  have e := ev_dvs_lin (L := L) (p := pg ps i) (q := pg ps (i + 1)) (fun k => by
    rw [hL, co_strip, co_padd, co_pmulc]
    grind) o (co ks (i + 1))
  refine ⟨ev (dvs o L) (co ks (i + 1)), ?_, ?_⟩
  · have i0 : oIx (bnD ks ps) (.int 0) = .ok (.im (pD ks)) := rfl
    have i1 : oIx (bnD ks ps) (.int 1) = .ok (.im (.list (psD ps))) := rfl
    have x1 : oIx (.list (psD ps)) (.int ((i : Int) + 1)) = .ok (.im (pD (pg ps (i + 1)))) := ix_ps (i := i + 1) hi
    have x2 : oIx (.list (psD ps)) (.int (i : Int)) = .ok (.im (pD (pg ps i))) := ix_ps (by omega)
    have x3 : oIx (pD ks) (.int ((i : Int) + 1)) = .ok (.im (qD (co ks (i + 1)))) := ix_pL (i := i + 1) (by omega)
    have es : ((i : Int) + 1) - 1 = (i : Int) := by omega
    refine runP_rt (st := []) rfl ?_
    show m_jump_at [.im (bnD ks ps), .im (.int ((i : Int) + 1)), .im (.int (o : Int)), .no] [] = _
    unfold m_jump_at
    refine (seq_nx (env1 := [.im (bnD ks ps), .im (.int ((i : Int) + 1)), .im (.int (o : Int)), .im (pD L)]) (st1 := []) ?_).trans ?_
    · simp [-oIx_l, i1, x1, x2, es, M]
    · simp [-oIx_l, i0, x3, O, V]
  · unfold Jb
    congr 1
    rw [decide_eq_decide, e]
    constructor
    · intro h
      grind
    · intro h
      grind
end
end BP

namespace BP
/-! ### breaks: the program's and the law's -/
theorem lcL_flt {α : Type} {pt : Pat} {c e : ME} {env : Env} {st : Pt} (inj h : α → D) (g : α → Bool) : ∀ (l : List α), (∀ a ∈ l, ∃ env1, pt.set (inj a) env = .ok env1 ∧ c env1 st = .ok (.im (.bool (g a)), st) ∧ (g a = true → e env1 st = .ok (.im (h a), st))) → lcL pt c e env (l.map inj) st = .ok ((l.filter g).map h, st)
  | [], _ => rfl
  | a :: l, H => by
    obtain ⟨env1, e1, e2, e3⟩ := H a List.mem_cons_self
    have ih := lcL_flt inj h g l fun b hb => H b (List.mem_cons_of_mem _ hb)
    cases hg : g a with
    | false =>
      rw [hg] at e2
      simp [lcL, e1, e2, ih, List.filter_cons, hg]
    | true =>
      rw [hg] at e2
      simp [lcL, e1, e2, e3 hg, ih, List.filter_cons, hg]
def sg (ss : List Int) (i : Nat) : Int := ss.getD i 0
theorem enum_psD (ps : List (List Rat)) : enumL (psD ps) = (List.range ps.length).map fun i => .tuple [.int (i : Int), pD (pg ps i)] := by
  refine List.ext_getElem (by simp [enumL]) fun i h1 h2 => ?_
  have hi : i < ps.length := by simpa using h2
  simp [enumL, psD, pg, hi]
theorem enum_iD (ss : List Int) : enumL (iD ss) = (List.range ss.length).map fun i => .tuple [.int (i : Int), .int (sg ss i)] := by
  refine List.ext_getElem (by simp [enumL]) fun i h1 h2 => ?_
  have hi : i < ss.length := by simpa using h2
  simp [enumL, iD, sg, hi]
theorem range0_map (n : Nat) : rangeL 0 (n : Int) = (List.range n).map fun k : Nat => .int (k : Int) := by simp [rangeL]
theorem map_get {α : Type} {f : α → D} {l : List α} {i : Nat} {d : D} (h : (l.map f)[i]? = some d) : ∃ a, l[i]? = some a ∧ d = f a := by
  rw [List.getElem?_map] at h
  cases hz : l[i]? with
  | none => rw [hz] at h; cases h
  | some a =>
    rw [hz] at h
    injection h with h
    exact ⟨a, rfl, h.symm⟩
theorem mapR_get {f : Nat → D} {n i : Nat} {d : D} (h : ((List.range n).map f)[i]? = some d) : i < n ∧ d = f i := by
  obtain ⟨a, ha, rfl⟩ := map_get h
  have := List.getElem?_eq_some_iff.mp ha
  obtain ⟨h1, h2⟩ := this
  simp at h1 h2
  exact ⟨h1, by rw [h2]⟩
def dgD (i : Nat) : D := .tuple [.str "degree", .int (i : Int)]
def jpD (i o : Nat) : D := .tuple [.str "jump", .int ((i : Int) + 1), .int (o : Int)]
def dgB (d : Nat) (p : List Rat) : Bool := decide (d + 1 < (strip p).length)
def dgs (d : Nat) (ps : List (List Rat)) : List D := ((List.range ps.length).filter fun i => dgB d (pg ps i)).map dgD
def os (ks : List Rat) (ps : List (List Rat)) (i : Nat) (s : Int) : List Nat := (List.range (s + 1).toNat).filter (Jb ks ps i)
def jmps (ks : List Rat) (ps : List (List Rat)) (ss : List Int) : Nat → List D
  | 0 => []
  | k + 1 => jmps ks ps ss k ++ (os ks ps k (sg ss k)).map (jpD k)
def BR (d : Nat) (ks : List Rat) (ss : List Int) (ps : List (List Rat)) : List D := dgs d ps ++ jmps ks ps ss ss.length
section
variable {d : Nat} {ks : List Rat} {ss : List Int} {ps : List (List Rat)}
theorem os_len (i : Nat) {s : Int} (hs : s ≤ 4) : (os ks ps i s).length ≤ 5 := by
  refine Nat.le_trans (List.length_filter_le _ _) ?_
  rw [List.length_range]
  omega
theorem sg_mem {i : Nat} (h : i < ss.length) : sg ss i ∈ ss := by
  unfold sg
  rw [List.getD_eq_getElem?_getD, List.getElem?_eq_getElem h]
  exact List.getElem_mem h
theorem Spc.sg (S : Spc d ks ss) {i : Nat} (h : i < ss.length) : -1 ≤ sg ss i ∧ sg ss i ≤ (d : Int) := S.s _ (sg_mem h)
theorem jmps_len (S : Spc d ks ss) : ∀ k, k ≤ ss.length → (jmps ks ps ss k).length ≤ 5 * k
  | 0, _ => Nat.le_refl _
  | k + 1, h => by
    have ih := jmps_len S k (by omega)
    have := os_len (ks := ks) (ps := ps) k (s := BP.sg ss k) (by have := (S.sg (i := k) (by omega)).2; have := S.d4; omega)
    rw [jmps, List.length_append, List.length_map]
    omega
theorem dgs_len (ps : List (List Rat)) : (dgs d ps).length ≤ ps.length := by
  unfold dgs
  rw [List.length_map]
  refine Nat.le_trans (List.length_filter_le _ _) ?_
  simp
theorem breaks_step (S : Spc d ks ss) (b : Bn ks ps) {i : Nat} (hi : i < ss.length) {acc : List D} (ha : acc.length ≤ 100) {x5 : EV} (h5 : isPt x5 = false) :
    ∃ y5, isPt y5 = false ∧ b_breaks_of_1 [.im (spcD d ks ss), .im (bnD ks ps), .ow acc, .im (.int (i : Int)), .im (.int (sg ss i)), x5, .no, .no, .no] [] = .ok (.nx [.im (spcD d ks ss), .im (bnD ks ps), .ow (acc ++ (os ks ps i (sg ss i)).map (jpD i)), .im (.int (i : Int)), .im (.int (sg ss i)), y5, .no, .no, .no] []) := by
  obtain ⟨s1, s2⟩ := S.sg hi
  have d4 := S.d4
  have sl := S.len
  have bl' := b.len
  obtain ⟨n, hn⟩ : ∃ n : Nat, (n : Int) = sg ss i + 1 := ⟨(sg ss i + 1).toNat, by omega⟩
  have hn2 : (sg ss i + 1).toNat = n := by omega
  have R := iR1N (m := mBin oAdd (mVar 4) (mC (.int 1))) (env := [.im (spcD d ks ss), .im (bnD ks ps), .ow acc, .im (.int (i : Int)), .im (.int (sg ss i)), x5, .no, .no, .no]) (st := []) (st' := []) (k := n) (by simp; omega) (by omega)
  have L := lcL_flt (pt := .nm 8) (c := mBin oNe (mCall F_jump_at (aCons (mVar 1) (aCons (mBin oAdd (mVar 3) (mC (.int 1))) (aCons (mVar 8) aNil)))) (mC (.tuple [(.int 0), (.int 1)]))) (e := mVar 8) (env := [.im (spcD d ks ss), .im (bnD ks ps), .ow acc, .im (.int (i : Int)), .im (.int (sg ss i)), x5, .no, .no, .no]) (st := []) (fun k : Nat => .int (k : Int)) (fun k : Nat => .int (k : Int)) (Jb ks ps i) (List.range n) fun o ho => by
    rw [List.mem_range] at ho
    obtain ⟨v, e1, e2⟩ := jump_ok b (i := i) (o := o) (by omega) (by omega)
    refine ⟨_, by simp; rfl, ?_, fun _ => by simp⟩
    have f1 := sh_q v
    have f2 := sh_q 0
    rw [← e2]
    simp [e1, q0, f1, f2, eqv_q]
  rw [← range0_map] at L
  have M := mLc_ok' (vs := [8]) R (by rw [range_len]; show n ≤ 1000000; omega) rfl L
  have ho : (List.range n).filter (Jb ks ps i) = os ks ps i (sg ss i) := by rw [os, hn2]
  rw [ho] at M
  have ol := os_len (ks := ks) (ps := ps) i (s := sg ss i) (by omega)
  generalize os ks ps i (sg ss i) = l at M ol
  have L2 := lcL_mapg (pt := .nm 8) (e := mTup (aCons (mC (.str "jump")) (aCons (mBin oAdd (mVar 3) (mC (.int 1))) (aCons (mVar 8) aNil)))) (env := [.im (spcD d ks ss), .im (bnD ks ps), .ow acc, .im (.int (i : Int)), .im (.int (sg ss i)), .im (.list (l.map fun k : Nat => .int (k : Int))), .no, .no, .no]) (st := []) (fun k : Nat => .int (k : Int)) (jpD i) l fun o ho => ⟨_, by simp; rfl, by simp [jpD]⟩
  have M2 := mLc_ok (it := iSeq (mVar 5)) (vs := [8]) (env := [.im (spcD d ks ss), .im (bnD ks ps), .ow acc, .im (.int (i : Int)), .im (.int (sg ss i)), .im (.list (l.map fun k : Nat => .int (k : Int))), .no, .no, .no]) (st := []) (by simp) ⟨by rw [List.length_map]; show _ ≤ 1000000; omega, rfl⟩ L2
  refine ⟨.im (.list (l.map fun k : Nat => .int (k : Int))), rfl, ?_⟩
  unfold b_breaks_of_1
  refine (seq_nx (sSet_ok M rfl (by simp [h5]; rfl))).trans ?_
  have la : acc.length + l.length ≤ 1000000 := by omega
  simp [-iSeq, M2, la]
theorem breaks_ok (S : Spc d ks ss) (b : Bn ks ps) : F_breaks_of [spcD d ks ss, bnD ks ps] = .ok (.list (BR d ks ss ps)) := by
  have l6 := b.kn.l6
  have bl' := b.len
  have sl := S.len
  have i0 : oIx (spcD d ks ss) (.int 0) = .ok (.im (.int (d : Int))) := rfl
  have i2 : oIx (spcD d ks ss) (.int 2) = .ok (.im (.list (iD ss))) := rfl
  have i1 : oIx (bnD ks ps) (.int 1) = .ok (.im (.list (psD ps))) := rfl
  have L := lcL_flt (pt := .tp [.nm 6, .nm 7]) (c := mBin oGt (mBin oSub (mB bLen (vCons (mCall F_told_of (aCons (mVar 7) aNil)) vNil)) (mC (.int 1))) (mBin oIx (mVar 0) (mC (.int 0)))) (e := mTup (aCons (mC (.str "degree")) (aCons (mVar 6) aNil))) (env := [.im (spcD d ks ss), .im (bnD ks ps), .no, .no, .no, .no, .no, .no, .no]) (st := []) (fun i : Nat => .tuple [.int (i : Int), pD (pg ps i)]) dgD (fun i => dgB d (pg ps i)) (List.range ps.length) fun i hi => by
    rw [List.mem_range] at hi
    have T := told_ok (pD (pg ps i)) (pg ps i) (Row.l _) (by have := (b.p _ (pg_mem hi)).1; omega)
    refine ⟨_, by simp; rfl, ?_, fun _ => by simp [dgD]⟩
    have : decide ((d : Int) < ((strip (pg ps i)).length : Int) - 1) = dgB d (pg ps i) := by
      unfold dgB
      rw [decide_eq_decide]
      omega
    have lt : ∀ q : List Rat, bLen [pD q] = .ok (.im (.int (q.length : Int))) := fun q => by simp [pD]
    rw [← this]
    simp [-oIx_t, T, i0, lt]
  rw [← enum_psD] at L
  have M := mLc_ok' (it := iEnumL (mBin oIx (mVar 1) (mC (.int 1)))) (vs := [6, 7]) (env := [.im (spcD d ks ss), .im (bnD ks ps), .no, .no, .no, .no, .no, .no, .no]) (st := []) (ds := enumL (psD ps)) (by simp [-oIx_t, i1]) (by rw [enum_psD]; simp; omega) rfl L
  obtain ⟨env2, e, x3, x4, x5, rfl, _⟩ := forL_inv (p := .tp [.nm 3, .nm 4]) (b := b_breaks_of_1) (st := []) (ds := enumL (iD ss)) (fun k env => ∃ x3 x4 x5, env = [.im (spcD d ks ss), .im (bnD ks ps), .ow (dgs d ps ++ jmps ks ps ss k), x3, x4, x5, .no, .no, .no] ∧ isPt x3 = false ∧ isPt x4 = false ∧ isPt x5 = false) (fun k dd hd env hI => by
    obtain ⟨x3, x4, x5, rfl, h3, h4, h5⟩ := hI
    rw [enum_iD] at hd
    obtain ⟨hk, rfl⟩ := mapR_get hd
    have l1 := dgs_len (d := d) ps
    have l2 := jmps_len (ps := ps) S k (by omega)
    obtain ⟨y5, g5, e⟩ := breaks_step S b hk (acc := dgs d ps ++ jmps ks ps ss k) (by rw [List.length_append]; omega) h5
    rw [List.append_assoc] at e
    exact ⟨_, by simp [h3, h4], _, e, _, _, _, rfl, rfl, rfl, g5⟩) (env := [.im (spcD d ks ss), .im (bnD ks ps), .ow (dgs d ps), .no, .no, .no, .no, .no, .no]) ⟨.no, .no, .no, by simp [jmps], rfl, rfl, rfl⟩
  rw [enum_iD, List.length_map, List.length_range] at e
  refine runP_rt (st := []) rfl ?_
  show m_breaks_of [.im (spcD d ks ss), .im (bnD ks ps), .no, .no, .no, .no, .no, .no, .no] [] = _
  unfold m_breaks_of
  refine (seq_nx (env1 := [.im (spcD d ks ss), .im (bnD ks ps), .ow (dgs d ps), .no, .no, .no, .no, .no, .no]) (st1 := []) ?_).trans ?_
  · unfold sOwn
    rw [M]
    rfl
  · refine (seq_nx (env1 := [.im (spcD d ks ss), .im (bnD ks ps), .ow (dgs d ps ++ jmps ks ps ss ss.length), x3, x4, x5, .no, .no, .no]) (st1 := []) ?_).trans ?_
    · unfold sFor
      have k : (iEnumL (mBin oIx (mVar 0) (mC (.int 2)))) [.im (spcD d ks ss), .im (bnD ks ps), .ow (dgs d ps), .no, .no, .no, .no, .no, .no] [] = .ok (enumL (iD ss), []) := by simp [-oIx_t, i2]
      rw [k]
      rw [← enum_iD] at e
      exact e
    · simp [BR]
/-! the law's -/
theorem cap5 {P : List Rat} (i : Inp LC (1998 * 4 ^ 5) P) (hl : P.length ≤ 5) : Fits P ∧ Cap (LC * LC ^ (P.length + 1)) (P.length * (1998 * 4 ^ 5 * 999 ^ (P.length + 1))) :=
  ⟨i.fits LC_pos (by constructor <;> decide +kernel), Cap.le (n := LC * LC ^ 6) (m := 5 * (1998 * 4 ^ 5 * 999 ^ 6)) (by constructor <;> decide +kernel) (Nat.mul_le_mul_left _ (Nat.pow_le_pow_right LC_pos (by omega))) (Nat.mul_le_mul (by omega) (Nat.mul_le_mul_left _ (Nat.pow_le_pow_right (by decide) (by omega))))⟩
theorem l_val_often {p : List Rat} (hs : p.all sm = true) (hl : p.length ≤ 5) {o : Nat} (ho : o ≤ 5) {x : Rat} (hx : sm x = true) : F__law_often [pD p, .int (o : Int)] = .ok (pD (strip (dvs o p))) ∧ F__law_value [pD (strip (dvs o p)), qD x] = .ok (qD (ev (dvs o p) x)) := by
  have O := l_often_ok p (Row.l p) o (by omega) (by omega) fun j hj => (val_dvs (sms_in hs) (by decide) hl (o := j) (by omega) hx).2.1
  obtain ⟨v1, v2, v3, _⟩ := val_dvs (sms_in hs) (by decide) hl ho hx
  obtain ⟨c1, c2⟩ := cap5 v1.strip (Nat.le_trans (strip_le _) v3)
  have V := l_value_ok (strip (dvs o p)) x LC LC (1998 * 4 ^ 5) 999 LC_pos LC_pos (by decide) v1.strip (sm_in hx) c1 (sm_fit hx) c2
  rw [ev_strip] at V
  exact ⟨O, V⟩
theorem l_breaks_in (S : Spc d ks ss) (b : Bn ks ps) {i : Nat} (hi : i < ss.length) {acc : List D} (ha : acc.length ≤ 100) {x10 : EV} (h10 : isPt x10 = false) :
    ∃ y10, isPt y10 = false ∧ forL (.nm 10) b__law_breaks_1 (rangeL 0 (((sg ss i + 1).toNat : Nat) : Int)) [.im (spcD d ks ss), .im (bnD ks ps), .im (.int (d : Int)), .im (pD ks), .im (.list (iD ss)), .ow acc, .im (.int (i : Int)), .im (.int (sg ss i)), .im (pD (pg ps i)), .im (pD (pg ps (i + 1))), x10, .no, .no] [] = .ok (.nx [.im (spcD d ks ss), .im (bnD ks ps), .im (.int (d : Int)), .im (pD ks), .im (.list (iD ss)), .ow (acc ++ (os ks ps i (sg ss i)).map (jpD i)), .im (.int (i : Int)), .im (.int (sg ss i)), .im (pD (pg ps i)), .im (pD (pg ps (i + 1))), y10, .no, .no] []) := by
  obtain ⟨s1, s2⟩ := S.sg hi
  have d4 := S.d4
  have sl := S.len
  have bl' := b.len
  have x := b.kn.co_sm (i := i + 1) (by omega)
  obtain ⟨a1, a2⟩ := b.p _ (pg_mem (i := i) (by omega))
  obtain ⟨b1, b2⟩ := b.p _ (pg_mem (i := i + 1) (by omega))
  obtain ⟨env2, e, y, rfl, hy⟩ := forL_inv (p := .nm 10) (b := b__law_breaks_1) (st := []) (ds := rangeL 0 (((sg ss i + 1).toNat : Nat) : Int)) (fun k env => ∃ y, env = [.im (spcD d ks ss), .im (bnD ks ps), .im (.int (d : Int)), .im (pD ks), .im (.list (iD ss)), .ow (acc ++ ((List.range k).filter (Jb ks ps i)).map (jpD i)), .im (.int (i : Int)), .im (.int (sg ss i)), .im (pD (pg ps i)), .im (pD (pg ps (i + 1))), y, .no, .no] ∧ isPt y = false) (fun o dd hd env hI => by
    obtain ⟨y, rfl, hy⟩ := hI
    obtain ⟨ho, rfl⟩ := range0_get hd
    obtain ⟨o1, v1⟩ := l_val_often a2 a1 (o := o) (by omega) x
    obtain ⟨o2, v2⟩ := l_val_often b2 b1 (o := o) (by omega) x
    have x3 : oIx (pD ks) (.int ((i : Int) + 1)) = .ok (.im (qD (co ks (i + 1)))) := ix_pL (i := i + 1) (by omega)
    have f1 := sh_q (ev (dvs o (pg ps i)) (co ks (i + 1)))
    have f2 := sh_q (ev (dvs o (pg ps (i + 1))) (co ks (i + 1)))
    have ll : (acc ++ ((List.range o).filter (Jb ks ps i)).map (jpD i)).length < 1000000 := by
      have := List.length_filter_le (Jb ks ps i) (List.range o)
      simp at this ⊢
      omega
    have cd : (mBin oNe (mCall F__law_value (aCons (mCall F__law_often (aCons (mVar 8) (aCons (mVar 10) aNil))) (aCons (mBin oIx (mVar 3) (mBin oAdd (mVar 6) (mC (.int 1)))) aNil))) (mCall F__law_value (aCons (mCall F__law_often (aCons (mVar 9) (aCons (mVar 10) aNil))) (aCons (mBin oIx (mVar 3) (mBin oAdd (mVar 6) (mC (.int 1)))) aNil)))) [.im (spcD d ks ss), .im (bnD ks ps), .im (.int (d : Int)), .im (pD ks), .im (.list (iD ss)), .ow (acc ++ ((List.range o).filter (Jb ks ps i)).map (jpD i)), .im (.int (i : Int)), .im (.int (sg ss i)), .im (pD (pg ps i)), .im (pD (pg ps (i + 1))), .im (.int (o : Int)), .no, .no] [] = .ok (.im (.bool (Jb ks ps i o)), []) := by
      simp [-oIx_l, x3, o1, v1, o2, v2, f1, f2, eqv_q, Jb]
    have rs : List.range (o + 1) = List.range o ++ [o] := List.range_succ
    cases hj : Jb ks ps i o with
    | false =>
      rw [hj] at cd
      refine ⟨_, by simp [hy]; rfl, _, by unfold b__law_breaks_1; exact sIf_false cd rfl, .im (.int (o : Int)), ?_, rfl⟩
      rw [rs, List.filter_append]
      simp [hj]
    | true =>
      rw [hj] at cd
      refine ⟨_, by simp [hy]; rfl, [.im (spcD d ks ss), .im (bnD ks ps), .im (.int (d : Int)), .im (pD ks), .im (.list (iD ss)), .ow ((acc ++ ((List.range o).filter (Jb ks ps i)).map (jpD i)) ++ [jpD i o]), .im (.int (i : Int)), .im (.int (sg ss i)), .im (pD (pg ps i)), .im (pD (pg ps (i + 1))), .im (.int (o : Int)), .no, .no], ?_, .im (.int (o : Int)), ?_, rfl⟩
      · unfold b__law_breaks_1
        refine sIf_true cd ?_
        generalize acc ++ ((List.range o).filter (Jb ks ps i)).map (jpD i) = l at ll
        simp [ll, jpD]
      · rw [rs, List.filter_append]
        simp [hj]) (env := [.im (spcD d ks ss), .im (bnD ks ps), .im (.int (d : Int)), .im (pD ks), .im (.list (iD ss)), .ow acc, .im (.int (i : Int)), .im (.int (sg ss i)), .im (pD (pg ps i)), .im (pD (pg ps (i + 1))), x10, .no, .no]) ⟨x10, by simp, h10⟩
  rw [range_len] at e
  exact ⟨y, hy, e⟩
theorem l_breaks_ok (S : Spc d ks ss) (b : Bn ks ps) : F__law_breaks [spcD d ks ss, bnD ks ps] = .ok (.list (BR d ks ss ps)) := by
  have l6 := b.kn.l6
  have bl' := b.len
  have sl := S.len
  have d4 := S.d4
  have i1 : oIx (bnD ks ps) (.int 1) = .ok (.im (.list (psD ps))) := rfl
  have L := lcL_flt (pt := .tp [.nm 11, .nm 12]) (c := mBin oGt (mB bLen (vCons (mCall F__law_told (aCons (mVar 12) aNil)) vNil)) (mBin oAdd (mVar 2) (mC (.int 1)))) (e := mTup (aCons (mC (.str "degree")) (aCons (mVar 11) aNil))) (env := [.im (spcD d ks ss), .im (bnD ks ps), .im (.int (d : Int)), .im (pD ks), .im (.list (iD ss)), .no, .no, .no, .no, .no, .no, .no, .no]) (st := []) (fun i : Nat => .tuple [.int (i : Int), pD (pg ps i)]) dgD (fun i => dgB d (pg ps i)) (List.range ps.length) fun i hi => by
    rw [List.mem_range] at hi
    have T := l_told_ok (pD (pg ps i)) (pg ps i) (Row.l _) (by have := (b.p _ (pg_mem hi)).1; omega)
    refine ⟨_, by simp; rfl, ?_, fun _ => by simp [dgD]⟩
    have : decide ((d : Int) + 1 < ((strip (pg ps i)).length : Int)) = dgB d (pg ps i) := by
      unfold dgB
      rw [decide_eq_decide]
      omega
    have lt : ∀ q : List Rat, bLen [pD q] = .ok (.im (.int (q.length : Int))) := fun q => by simp [pD]
    rw [← this]
    simp [T, lt]
  rw [← enum_psD] at L
  have M := mLc_ok' (it := iEnumL (mBin oIx (mVar 1) (mC (.int 1)))) (vs := [11, 12]) (env := [.im (spcD d ks ss), .im (bnD ks ps), .im (.int (d : Int)), .im (pD ks), .im (.list (iD ss)), .no, .no, .no, .no, .no, .no, .no, .no]) (st := []) (ds := enumL (psD ps)) (by simp [-oIx_t, i1]) (by rw [enum_psD]; simp; omega) rfl L
  obtain ⟨env2, e, x6, x7, x8, x9, x10, rfl, _⟩ := forL_inv (p := .tp [.nm 6, .nm 7]) (b := b__law_breaks_2) (st := []) (ds := enumL (iD ss)) (fun k env => ∃ x6 x7 x8 x9 x10, env = [.im (spcD d ks ss), .im (bnD ks ps), .im (.int (d : Int)), .im (pD ks), .im (.list (iD ss)), .ow (dgs d ps ++ jmps ks ps ss k), x6, x7, x8, x9, x10, .no, .no] ∧ isPt x6 = false ∧ isPt x7 = false ∧ isPt x8 = false ∧ isPt x9 = false ∧ isPt x10 = false) (fun k dd hd env hI => by
    obtain ⟨x6, x7, x8, x9, x10, rfl, h6, h7, h8, h9, h10⟩ := hI
    rw [enum_iD] at hd
    obtain ⟨hk, rfl⟩ := mapR_get hd
    have l1 := dgs_len (d := d) ps
    have l2 := jmps_len (ps := ps) S k (by omega)
    obtain ⟨y10, g10, e⟩ := l_breaks_in S b hk (acc := dgs d ps ++ jmps ks ps ss k) (by rw [List.length_append]; omega) h10
    rw [List.append_assoc] at e
    have y1 : oIx (.list (psD ps)) (.int ((k : Int) + 1)) = .ok (.im (pD (pg ps (k + 1)))) := ix_ps (i := k + 1) (by omega)
    have y2 : oIx (.list (psD ps)) (.int (k : Int)) = .ok (.im (pD (pg ps k))) := ix_ps (i := k) (by omega)
    obtain ⟨s1, s2⟩ := S.sg hk
    refine ⟨_, by simp [h6, h7]; rfl, [.im (spcD d ks ss), .im (bnD ks ps), .im (.int (d : Int)), .im (pD ks), .im (.list (iD ss)), .ow (dgs d ps ++ jmps ks ps ss (k + 1)), .im (.int (k : Int)), .im (.int (sg ss k)), .im (pD (pg ps k)), .im (pD (pg ps (k + 1))), y10, .no, .no], ?_, _, _, _, _, _, rfl, rfl, rfl, rfl, rfl, g10⟩
    unfold b__law_breaks_2
    refine (seq_nx (env1 := [.im (spcD d ks ss), .im (bnD ks ps), .im (.int (d : Int)), .im (pD ks), .im (.list (iD ss)), .ow (dgs d ps ++ jmps ks ps ss k), .im (.int (k : Int)), .im (.int (sg ss k)), .im (pD (pg ps k)), .im (pD (pg ps (k + 1))), x10, .no, .no]) (st1 := []) ?_).trans ?_
    · simp [-oIx_l, -oIx_t, i1, y1, y2, h8, h9]
    · unfold sFor
      have R := iR1N (m := mBin oAdd (mVar 7) (mC (.int 1))) (env := [.im (spcD d ks ss), .im (bnD ks ps), .im (.int (d : Int)), .im (pD ks), .im (.list (iD ss)), .ow (dgs d ps ++ jmps ks ps ss k), .im (.int (k : Int)), .im (.int (sg ss k)), .im (pD (pg ps k)), .im (pD (pg ps (k + 1))), x10, .no, .no]) (st := []) (st' := []) (k := (sg ss k + 1).toNat) (by simp; omega) (by omega)
      rw [R]
      exact e) (env := [.im (spcD d ks ss), .im (bnD ks ps), .im (.int (d : Int)), .im (pD ks), .im (.list (iD ss)), .ow (dgs d ps), .no, .no, .no, .no, .no, .no, .no]) ⟨.no, .no, .no, .no, .no, by simp [jmps], rfl, rfl, rfl, rfl, rfl⟩
  rw [enum_iD, List.length_map, List.length_range] at e
  refine runP_rt (st := []) rfl ?_
  show m__law_breaks [.im (spcD d ks ss), .im (bnD ks ps), .no, .no, .no, .no, .no, .no, .no, .no, .no, .no, .no] [] = _
  unfold m__law_breaks
  refine (seq_nx (env1 := [.im (spcD d ks ss), .im (bnD ks ps), .im (.int (d : Int)), .im (pD ks), .im (.list (iD ss)), .no, .no, .no, .no, .no, .no, .no, .no]) (st1 := []) ?_).trans ?_
  · simp [spcD]
  · refine (seq_nx (env1 := [.im (spcD d ks ss), .im (bnD ks ps), .im (.int (d : Int)), .im (pD ks), .im (.list (iD ss)), .ow (dgs d ps), .no, .no, .no, .no, .no, .no, .no]) (st1 := []) ?_).trans ?_
    · unfold sOwn
      rw [M]
      rfl
    · refine (seq_nx (env1 := [.im (spcD d ks ss), .im (bnD ks ps), .im (.int (d : Int)), .im (pD ks), .im (.list (iD ss)), .ow (dgs d ps ++ jmps ks ps ss ss.length), x6, x7, x8, x9, x10, .no, .no]) (st1 := []) ?_).trans ?_
      · unfold sFor
        have k : (iEnumL (mVar 4)) [.im (spcD d ks ss), .im (bnD ks ps), .im (.int (d : Int)), .im (pD ks), .im (.list (iD ss)), .ow (dgs d ps), .no, .no, .no, .no, .no, .no, .no] [] = .ok (enumL (iD ss), []) := by simp
        rw [k]
        rw [← enum_iD] at e
        exact e
      · simp [BR]
end
end BP

namespace BP
/-! ### is_in, break_of, is_break, lies_within -/
theorem bools_g {α : Type} (g : α → Bool) : ∀ l : List α, boolsOf (l.map fun a => (.bool (g a) : D)) = some (l.map g)
  | [] => rfl
  | a :: l => by simp [boolsOf, bools_g g l]
theorem bAll_g {α : Type} (g : α → Bool) (l : List α) : bAll [.list (l.map fun a => .bool (g a))] = bl (l.all g) := by
  rw [bAll_l, bools_g]
  simp
theorem lay_all : ∀ l : List D, (∀ d ∈ l, PySem.PyData.canLay0 d = true ∧ PySem.PyData.depth d ≤ 1) → PySem.PyData.canLayAll0 l = true ∧ PySem.PyData.depthAll l ≤ 1
  | [], _ => ⟨rfl, Nat.zero_le _⟩
  | d :: l, h => by
    obtain ⟨a, b⟩ := h d List.mem_cons_self
    obtain ⟨c, e⟩ := lay_all l fun x hx => h x (List.mem_cons_of_mem _ hx)
    constructor
    · simp [PySem.PyData.canLayAll0, a, c]
    · simp [PySem.PyData.depthAll]
      omega
theorem sh_l {l : List D} (h : ∀ d ∈ l, PySem.PyData.canLay0 d = true ∧ PySem.PyData.depth d ≤ 1) : PySem.SeqAt.shaped (.list l) = true := by
  obtain ⟨a, b⟩ := lay_all l h
  simp [PySem.SeqAt.shaped, PySem.PyData.canLay0, PySem.PyData.depth, a]
  omega
theorem eq_nil {l : List D} (h : PySem.SeqAt.shaped (.list l) = true) : oEq (.list l) (.list []) = bl l.isEmpty ∧ oNe (.list l) (.list []) = bl (!l.isEmpty) := by
  have h0 : PySem.SeqAt.shaped (.list []) = true := rfl
  cases l with
  | nil => exact ⟨rfl, rfl⟩
  | cons a l =>
    have e : PySem.PyData.eqv (.list (a :: l)) (.list []) = false := by simp [PySem.PyData.eqv, PySem.PyData.eqvAll]
    constructor
    · simp [h, h0, e]
    · simp [h, h0, e]
theorem eqPP (p : List Rat) : oEq (pD p) (pD p) = bl true ∧ oNe (pD p) (pD p) = bl false := by
  have f1 := sh_p p
  have f2 := eqv_p p p
  unfold pD
  constructor <;> simp [f1, f2]
theorem so1 : PySem.PyData.strOk (PySem.Str.ofString "degree") = true := by decide +kernel
theorem so2 : PySem.PyData.strOk (PySem.Str.ofString "jump") = true := by decide +kernel
theorem ix0 (x : D) (l : List D) : oIx (.tuple (x :: l)) (.int 0) = .ok (.im x) := by
  have h : (0 : Int) < ((x :: l).length : Int) := by
    rw [List.length_cons]
    omega
  rw [oIx_t]
  unfold atD ixD
  rw [if_pos (by decide), if_pos h]
  rfl
theorem ix0l (x : D) (l : List D) : oIx (.list (x :: l)) (.int 0) = .ok (.im x) := by
  have h : (0 : Int) < ((x :: l).length : Int) := by
    rw [List.length_cons]
    omega
  rw [oIx_l]
  unfold atD ixD
  rw [if_pos (by decide), if_pos h]
  rfl
section
variable {d : Nat} {ks : List Rat} {ss : List Int} {ps : List (List Rat)}
theorem mem_jmps {x : D} : ∀ {k : Nat}, x ∈ jmps ks ps ss k → ∃ i o : Nat, i < k ∧ (o : Int) ≤ sg ss i ∧ Jb ks ps i o = true ∧ x = jpD i o
  | 0, h => by simp [jmps] at h
  | k + 1, h => by
    rw [jmps, List.mem_append] at h
    rcases h with h | h
    · obtain ⟨i, o, h1, h2⟩ := mem_jmps h
      exact ⟨i, o, by omega, h2⟩
    · obtain ⟨o, ho, rfl⟩ := List.mem_map.mp h
      obtain ⟨h1, h2⟩ := List.mem_filter.mp ho
      rw [List.mem_range] at h1
      exact ⟨k, o, by omega, by omega, h2, rfl⟩
theorem mem_BR {x : D} (h : x ∈ BR d ks ss ps) : (∃ i, i < ps.length ∧ x = dgD i) ∨ ∃ i o : Nat, i < ss.length ∧ (o : Int) ≤ sg ss i ∧ x = jpD i o := by
  rw [BR, List.mem_append] at h
  rcases h with h | h
  · obtain ⟨i, hi, rfl⟩ := List.mem_map.mp h
    have := (List.mem_filter.mp hi).1
    rw [List.mem_range] at this
    exact .inl ⟨i, this, rfl⟩
  · obtain ⟨i, o, h1, h2, _, h3⟩ := mem_jmps h
    exact .inr ⟨i, o, h1, h2, h3⟩
theorem lay_BR : ∀ x ∈ BR d ks ss ps, PySem.PyData.canLay0 x = true ∧ PySem.PyData.depth x ≤ 1 := fun x hx => by
  rcases mem_BR hx with ⟨i, _, rfl⟩ | ⟨i, o, _, _, rfl⟩ <;> constructor <;> simp [dgD, jpD, PySem.PyData.canLay0, PySem.PyData.canLayAll0, PySem.PyData.depth, PySem.PyData.depthAll, so1, so2]
theorem sh_BR : PySem.SeqAt.shaped (.list (BR d ks ss ps)) = true := sh_l lay_BR
theorem is_in_ok (S : Spc d ks ss) (b : Bn ks ps) : F_is_in [spcD d ks ss, bnD ks ps] = .ok (.bool (BR d ks ss ps).isEmpty) := by
  have B := breaks_ok S b
  have c := check_both_ok S b
  have e := (eq_nil (sh_BR (d := d) (ks := ks) (ss := ss) (ps := ps))).1
  have e2 := (eqPP ks).1
  have i1 : oIx (spcD d ks ss) (.int 1) = .ok (.im (pD ks)) := rfl
  have i0 : oIx (bnD ks ps) (.int 0) = .ok (.im (pD ks)) := rfl
  have bl1 : bList [pD ks] = .ok (.ow (pL ks)) := rfl
  have e2' : oEq (.list (pL ks)) (.list (pL ks)) = bl true := e2
  have k : F_is_in_of [spcD d ks ss, bnD ks ps] = .ok (.bool (BR d ks ss ps).isEmpty) := by
    simp [-oEq, F_is_in_of, m_is_in_of, i0, i1, bl1, e2', B, e]
  simp [F_is_in, m_is_in, c, k]
theorem want_ok : F_want_knots [spcD d ks ss, bnD ks ps] = .ok .none := by
  have e2 := (eqPP ks).2
  have i1 : oIx (spcD d ks ss) (.int 1) = .ok (.im (pD ks)) := rfl
  have i0 : oIx (bnD ks ps) (.int 0) = .ok (.im (pD ks)) := rfl
  have bl1 : bList [pD ks] = .ok (.ow (pL ks)) := rfl
  have e2' : oNe (.list (pL ks)) (.list (pL ks)) = bl false := e2
  simp [-oNe, F_want_knots, m_want_knots, i0, i1, bl1, e2']
def hdD (l : List D) : D := l.headD .none
theorem break_of_ok (S : Spc d ks ss) (b : Bn ks ps) : F_break_of [spcD d ks ss, bnD ks ps] = .ok (hdD (BR d ks ss ps)) := by
  have B := breaks_ok S b
  have c := check_both_ok S b
  have w := want_ok (d := d) (ks := ks) (ss := ss) (ps := ps)
  have e := (eq_nil (sh_BR (d := d) (ks := ks) (ss := ss) (ps := ps))).2
  cases hb : BR d ks ss ps with
  | nil =>
    rw [hb] at B e
    simp [-oNe, F_break_of, m_break_of, c, w, B, e, hdD]
  | cons x l =>
    rw [hb] at B e
    simp [-oNe, -oIx_l, F_break_of, m_break_of, c, w, B, e, hdD, ix0l]
def okI (hi : Int) : D → Bool
  | .int i => decide (0 ≤ i) && decide (i ≤ hi)
  | _ => false
theorem within_any (x : D) (a b : Int) : F_is_within [x, .int a, .int b] = .ok (.bool (match x with | .int i => decide (a ≤ i) && decide (i ≤ b) | _ => false)) := by
  have I := is_integer_any x
  cases x with
  | int i =>
    by_cases h1 : a ≤ i <;> by_cases h2 : i ≤ b <;> simp [F_is_within, m_is_within, I, intB, mChain, h1, h2]
  | _ => simp [F_is_within, m_is_within, I, intB]
def isT (hi : Int) : D → Bool
  | .tuple (.str _ :: x :: r) => (x :: r).all (okI hi)
  | _ => false
theorem is_break_ok (S : Spc d ks ss) (b : Bn ks ps) (v : D) (hl : ∀ xs, v = .tuple xs → xs.length ≤ 1000 ∧ PySem.SeqAt.shaped v = true) : F_is_break [spcD d ks ss, bnD ks ps, v] = .ok (.bool (isT ((ks.length : Int) + 4) v && (BR d ks ss ps).any fun z => PySem.PyData.eqv z v)) := by
  have B := breaks_ok S b
  have c := check_both_ok S b
  have w := want_ok (d := d) (ks := ks) (ss := ss) (ps := ps)
  have i1 : oIx (spcD d ks ss) (.int 1) = .ok (.im (pD ks)) := rfl
  have sb := sh_BR (d := d) (ks := ks) (ss := ss) (ps := ps)
  have lk : bLen [pD ks] = .ok (.im (.int (ks.length : Int))) := by simp [pD]
  have oi : PySem.SeqAt.shaped v = true → oIn v (.list (BR d ks ss ps)) = bl ((BR d ks ss ps).any fun z => PySem.PyData.eqv z v) := fun hv => by
    simp [oIn, hv, sb]
  have s4 : m_is_break [.im (spcD d ks ss), .im (bnD ks ps), .im v, .no] [] = k_is_break_3 [.im (spcD d ks ss), .im (bnD ks ps), .im v, .no] [] := by
    unfold m_is_break
    refine (seq_nx (env1 := [.im (spcD d ks ss), .im (bnD ks ps), .im v, .no]) (st1 := []) (by simp [c])).trans ?_
    unfold k_is_break_4
    exact seq_nx (by simp [w])
  refine runP_rt (st := []) rfl (s4.trans ?_)
  unfold k_is_break_3
  have no : (mOr (mUn oNot (mUn (oIsI .tuple) (mVar 2))) (mOr (mBin oLt (mB bLen (vCons (mVar 2) vNil)) (mC (.int 2))) (mUn oNot (mUn (oIsI .str) (mBin oIx (mVar 2) (mC (.int 0))))))) [.im (spcD d ks ss), .im (bnD ks ps), .im v, .no] [] = .ok (.im (.bool true), []) → isT ((ks.length : Int) + 4) v = false → (sSeq (sIf (mOr (mUn oNot (mUn (oIsI .tuple) (mVar 2))) (mOr (mBin oLt (mB bLen (vCons (mVar 2) vNil)) (mC (.int 2))) (mUn oNot (mUn (oIsI .str) (mBin oIx (mVar 2) (mC (.int 0))))))) (sRet (mC (.bool false))) sNil) k_is_break_2) [.im (spcD d ks ss), .im (bnD ks ps), .im v, .no] [] = .ok (.rt (.bool (isT ((ks.length : Int) + 4) v && (BR d ks ss ps).any fun z => PySem.PyData.eqv z v)) []) := fun h1 h2 => by
    rw [h2]
    have : (sIf (mOr (mUn oNot (mUn (oIsI .tuple) (mVar 2))) (mOr (mBin oLt (mB bLen (vCons (mVar 2) vNil)) (mC (.int 2))) (mUn oNot (mUn (oIsI .str) (mBin oIx (mVar 2) (mC (.int 0))))))) (sRet (mC (.bool false))) sNil) [.im (spcD d ks ss), .im (bnD ks ps), .im v, .no] [] = .ok (.rt (.bool false) []) := sIf_true h1 rfl
    unfold sSeq
    rw [this]
    rfl
  cases v with
  | tuple xs =>
    match xs, hl with
    | [], _ => exact no (by simp) rfl
    | [x], _ => exact no (by simp) (by cases x <;> rfl)
    | x :: y :: r, hl =>
      obtain ⟨l2, hv⟩ := hl _ rfl
      have oi := oi hv
      cases hx : (match x with | .str _ => true | _ => false) with
      | false =>
        refine no ?_ ?_
        · have l : ¬ ((r.length : Int) + 1 + 1 < 2) := by omega
          cases x <;> first | (simp [-oIx_t, l, ix0] ; done) | cases hx
        · cases x <;> first | rfl | cases hx
      | true =>
        obtain ⟨s, rfl⟩ : ∃ s, x = .str s := by cases x <;> first | exact ⟨_, rfl⟩ | cases hx
        have l : ¬ ((r.length : Int) + 1 + 1 < 2) := by omega
        have L := lcL_mapg (pt := .nm 3) (e := mCall F_is_within (aCons (mVar 3) (aCons (mC (.int 0)) (aCons (mBin oAdd (mB bLen (vCons (mBin oIx (mVar 0) (mC (.int 1))) vNil)) (mC (.int 4))) aNil)))) (env := [.im (spcD d ks ss), .im (bnD ks ps), .im (.tuple (.str s :: y :: r)), .no]) (st := []) id (fun a => .bool (okI ((ks.length : Int) + 4) a)) (y :: r) fun a ha => by
          have W := within_any a 0 ((ks.length : Int) + 4)
          refine ⟨_, by simp; rfl, ?_⟩
          simp [-oIx_t, i1, lk, W]
          cases a <;> simp [okI]
        rw [List.map_id] at L
        have c1 : cutD (.str s :: y :: r) (some 1) none = (y :: r : List D) := by rw [cut1]; rfl
        have M := mLc_ok (it := iSeq (mCut (mVar 2) (oSome (mC (.int 1))) oNone)) (vs := [3]) (env := [.im (spcD d ks ss), .im (bnD ks ps), .im (.tuple (.str s :: y :: r)), .no]) (st := []) (ds := y :: r) (by simp [c1]) ⟨by simp at l2 ⊢; omega, rfl⟩ L
        have A := bAll_g (okI ((ks.length : Int) + 4)) (y :: r)
        generalize (y :: r).map (fun a => (.bool (okI ((ks.length : Int) + 4) a) : D)) = bs at M A
        refine (seq_nx (env1 := [.im (spcD d ks ss), .im (bnD ks ps), .im (.tuple (.str s :: y :: r)), .no]) (st1 := []) ?_).trans ?_
        · refine sIf_false (st1 := []) ?_ rfl
          simp [-oIx_t, l, ix0]
        · unfold k_is_break_2
          have e : isT ((ks.length : Int) + 4) (.tuple (.str s :: y :: r)) = (y :: r).all (okI ((ks.length : Int) + 4)) := rfl
          rw [e]
          cases ha : (y :: r).all (okI ((ks.length : Int) + 4)) with
          | false =>
            rw [ha] at A
            have : (sIf (mUn oNot (mB bAll (vCons (mLc (iSeq (mCut (mVar 2) (oSome (mC (.int 1))) oNone)) (.nm 3) [3] (mC (.bool true)) (mCall F_is_within (aCons (mVar 3) (aCons (mC (.int 0)) (aCons (mBin oAdd (mB bLen (vCons (mBin oIx (mVar 0) (mC (.int 1))) vNil)) (mC (.int 4))) aNil))))) vNil))) (sRet (mC (.bool false))) sNil) [.im (spcD d ks ss), .im (bnD ks ps), .im (.tuple (.str s :: y :: r)), .no] [] = .ok (.rt (.bool false) []) := sIf_true (st1 := []) (by simp [-iSeq, M, A]) rfl
            unfold sSeq
            rw [this]
            rfl
          | true =>
            rw [ha] at A
            refine (seq_nx (env1 := [.im (spcD d ks ss), .im (bnD ks ps), .im (.tuple (.str s :: y :: r)), .no]) (st1 := []) ?_).trans ?_
            · exact sIf_false (st1 := []) (by simp [-iSeq, M, A]) rfl
            · unfold k_is_break_1
              simp [B, oi]
  | _ => exact no (by simp) rfl
/-! one within another -/
theorem zip_iD : ∀ (a b : List Int), zipL (iD a) (iD b) = (List.zip a b).map fun p => .tuple [.int p.1, .int p.2]
  | [], _ => by simp [iD]
  | _ :: _, [] => by simp [iD]
  | x :: a, y :: b => by
    have := zip_iD a b
    simp [iD] at this ⊢
    exact this
def lwB (d : Nat) (p : Int × Int) : Bool := decide (p.1 = (d : Int)) || decide (p.2 ≤ p.1)
def LW (d : Nat) (ss : List Int) (d2 : Nat) (s2 : List Int) : Bool := decide (d ≤ d2) && (List.zip ss s2).all (lwB d)
theorem lw_zip {d2 : Nat} {s2 : List Int} (hl : ss.length ≤ 1000) : ∀ (x y : D), mLc (iZipS (mBin oIx (mVar 0) (mC (.int 2))) (mBin oIx (mVar 1) (mC (.int 2)))) (.tp [(.nm 2), (.nm 3)]) [2, 3] (mC (.bool true)) (mOr (mBin oEq (mVar 2) (mBin oIx (mVar 0) (mC (.int 0)))) (mBin oGe (mVar 2) (mVar 3))) [.im (spcD d ks ss), .im (spcD d2 ks s2), .no, .no] [] = .ok (.ow ((List.zip ss s2).map fun p => .bool (lwB d p)), []) := fun x y => by
  have i2 : oIx (spcD d ks ss) (.int 2) = .ok (.im (.list (iD ss))) := rfl
  have i2' : oIx (spcD d2 ks s2) (.int 2) = .ok (.im (.list (iD s2))) := rfl
  have i0 : oIx (spcD d ks ss) (.int 0) = .ok (.im (.int (d : Int))) := rfl
  have L := lcL_mapg (pt := .tp [.nm 2, .nm 3]) (e := mOr (mBin oEq (mVar 2) (mBin oIx (mVar 0) (mC (.int 0)))) (mBin oGe (mVar 2) (mVar 3))) (env := [.im (spcD d ks ss), .im (spcD d2 ks s2), .no, .no]) (st := []) (fun p : Int × Int => .tuple [.int p.1, .int p.2]) (fun p => .bool (lwB d p)) (List.zip ss s2) fun p hp => by
    refine ⟨_, by simp; rfl, ?_⟩
    by_cases h : p.1 = (d : Int) <;> simp [-oEq, -oIx_t, eI', i0, h, lwB]
  rw [← zip_iD] at L
  exact mLc_ok (by simp [-oIx_t, i2, i2']) ⟨by rw [zip_iD, List.length_map, List.length_zip]; show _ ≤ 1000000; omega, rfl⟩ L
theorem lies_ok {d2 : Nat} {s2 : List Int} (S : Spc d ks ss) (T : Spc d2 ks s2) : F_lies_within [spcD d ks ss, spcD d2 ks s2] = .ok (.bool (LW d ss d2 s2)) ∧ F__law_lies_within [spcD d ks ss, spcD d2 ks s2] = .ok (.bool (LW d ss d2 s2)) := by
  have l6 := S.kn.l6
  have sl := S.len
  have c1 := check_space_ok S
  have c2 := check_space_ok T
  have M := lw_zip (d := d) (ks := ks) (ss := ss) (d2 := d2) (s2 := s2) (by omega) .none .none
  have A := bAll_g (lwB d) (List.zip ss s2)
  have e2 := (eqPP ks).2
  have j0 : oIx (spcD d ks ss) (.int 0) = .ok (.im (.int (d : Int))) := rfl
  have j1 : oIx (spcD d ks ss) (.int 1) = .ok (.im (pD ks)) := rfl
  have k0 : oIx (spcD d2 ks s2) (.int 0) = .ok (.im (.int (d2 : Int))) := rfl
  have k1 : oIx (spcD d2 ks s2) (.int 1) = .ok (.im (pD ks)) := rfl
  have bl1 : bList [pD ks] = .ok (.ow (pL ks)) := rfl
  have e2' : oNe (.list (pL ks)) (.list (pL ks)) = bl false := e2
  generalize (List.zip ss s2).map (fun p => (.bool (lwB d p) : D)) = bs at M A
  constructor
  · refine runP_rt (st := []) rfl ?_
    show m_lies_within [.im (spcD d ks ss), .im (spcD d2 ks s2), .no, .no] [] = _
    unfold m_lies_within
    refine (seq_nx (env1 := [.im (spcD d ks ss), .im (spcD d2 ks s2), .no, .no]) (st1 := []) (by simp [c1])).trans ?_
    refine (seq_nx (env1 := [.im (spcD d ks ss), .im (spcD d2 ks s2), .no, .no]) (st1 := []) (by simp [c2])).trans ?_
    by_cases h : d ≤ d2
    · have h' : ¬ (d2 : Int) < (d : Int) := by omega
      refine (seq_nx (env1 := [.im (spcD d ks ss), .im (spcD d2 ks s2), .no, .no]) (st1 := []) (sIf_false (st1 := []) (by simp [-oNe, j0, j1, k0, k1, bl1, e2', h]) rfl)).trans ?_
      simp [-iZipS, M, A, LW, h]
    · have h' : (d2 : Int) < (d : Int) := by omega
      simp [-oNe, -iZipS, j0, j1, k0, k1, bl1, e2', h', LW, h]
      try omega
  · refine runP_rt (st := []) rfl ?_
    show m__law_lies_within [.im (spcD d ks ss), .im (spcD d2 ks s2), .no, .no] [] = _
    unfold m__law_lies_within
    by_cases h : d ≤ d2
    · have h' : ¬ (d2 : Int) < (d : Int) := by omega
      refine (seq_nx (env1 := [.im (spcD d ks ss), .im (spcD d2 ks s2), .no, .no]) (st1 := []) (sIf_false (st1 := []) (by simp [-oNe, j0, j1, k0, k1, e2, h]) rfl)).trans ?_
      simp [-iZipS, M, A, LW, h]
    · have h' : (d2 : Int) < (d : Int) := by omega
      simp [-oNe, -iZipS, j0, j1, k0, k1, e2, h', LW, h]
      try omega
theorem lw_sum {d2 : Nat} : ∀ (a b : List Int), a.length = b.length → (∀ s ∈ b, s ≤ (d2 : Int)) → d ≤ d2 → (List.zip a b).all (lwB d) = true → (a.map fun s => (d : Int) - s).sum ≤ (b.map fun s => (d2 : Int) - s).sum
  | [], [], _, _, _, _ => by simp
  | [], _ :: _, h, _, _, _ => by simp at h
  | _ :: _, [], h, _, _, _ => by simp at h
  | x :: a, y :: b, h, hb, hd, hz => by
    rw [List.zip_cons_cons, List.all_cons, Bool.and_eq_true] at hz
    have ih := lw_sum a b (by simpa using h) (fun s hs => hb s (List.mem_cons_of_mem _ hs)) hd hz.2
    have := hb y List.mem_cons_self
    have k := hz.1
    simp only [lwB, Bool.or_eq_true, decide_eq_true_iff] at k
    rw [List.map_cons, List.map_cons, List.sum_cons, List.sum_cons]
    omega
theorem lw_dim {d2 : Nat} {s2 : List Int} (S : Spc d ks ss) (T : Spc d2 ks s2) (h : LW d ss d2 s2 = true) : dimZ d ss ≤ dimZ d2 s2 := by
  rw [LW, Bool.and_eq_true, decide_eq_true_iff] at h
  have a := S.len
  have b := T.len
  have := lw_sum (d := d) (d2 := d2) ss s2 (by omega) (fun s hs => (T.s s hs).2) h.1 h.2
  unfold dimZ
  omega
end
end BP

namespace BP
/-! ### the law's cut sums -/
theorem cutF_from {α : Type} (l : List α) (i : Nat) : cutD l (some (i : Int)) none = l.drop i := by
  have e1 : sIxD l.length 0 (some (i : Int)) = min i l.length := by
    simp [sIxD]
    intro h
    omega
  have e2 : sIxD l.length l.length none = l.length := rfl
  unfold cutD
  rw [e1, e2]
  by_cases h : i ≤ l.length
  · rw [Nat.min_eq_left h, List.take_of_length_le (by simp)]
  · rw [Nat.min_eq_right (by omega), List.drop_of_length_le (Nat.le_refl _), List.drop_of_length_le (by omega)]
    simp
theorem cutF_to {α : Type} (l : List α) (i : Nat) : cutD l none (some (i : Int)) = l.take i := by
  have e1 : sIxD l.length l.length (some (i : Int)) = min i l.length := by
    simp [sIxD]
    intro h
    omega
  have e2 : sIxD l.length 0 none = 0 := rfl
  unfold cutD
  rw [e1, e2, List.drop_zero, Nat.sub_zero]
  by_cases h : i ≤ l.length
  · rw [Nat.min_eq_left h]
  · rw [Nat.min_eq_right (by omega), List.take_of_length_le (Nat.le_refl _), List.take_of_length_le (by omega)]
theorem pL_drop (p : List Rat) (i : Nat) : (pL p).drop i = pL (p.drop i) := by simp [pL]
theorem pL_take (p : List Rat) (i : Nat) : (pL p).take i = pL (p.take i) := by simp [pL]
theorem zip_get : ∀ {xs ys : List D} {i : Nat} {d : D}, (zipL xs ys)[i]? = some d → ∃ x y, xs[i]? = some x ∧ ys[i]? = some y ∧ d = .tuple [x, y]
  | [], _, _, _, h => by simp at h
  | _ :: _, [], _, _, h => by simp at h
  | x :: xs, y :: ys, 0, d, h => by
    simp at h
    exact ⟨x, y, rfl, rfl, h.symm⟩
  | x :: xs, y :: ys, i + 1, d, h => by
    simp at h
    obtain ⟨a, b, h1, h2, h3⟩ := zip_get h
    exact ⟨a, b, by simpa using h1, by simpa using h2, h3⟩
theorem zip_len : ∀ (xs ys : List D), (zipL xs ys).length ≤ xs.length
  | [], _ => by simp
  | _ :: _, [] => by simp
  | x :: xs, y :: ys => by
    have := zip_len xs ys
    simp
    exact this
def cuD (p : Nat × Nat) : D := .tuple [.int (p.1 : Int), .int (p.2 : Int)]
def cutL (d : Nat) (ss : List Int) : Nat → List (Nat × Nat)
  | 0 => []
  | k + 1 => cutL d ss k ++ (List.range ((d : Int) - sg ss k).toNat).map fun j => (k + 1, (sg ss k + 1).toNat + j)
section
variable {d : Nat} {ks : List Rat} {ss : List Int}
theorem mem_cutL {a p : Nat} : ∀ {k : Nat}, (∀ i, i < k → -1 ≤ sg ss i) → (a, p) ∈ cutL d ss k → 1 ≤ a ∧ a ≤ k ∧ p ≤ d
  | 0, _, h => by simp [cutL] at h
  | k + 1, hs, h => by
    rw [cutL, List.mem_append] at h
    rcases h with h | h
    · obtain ⟨h1, h2, h3⟩ := mem_cutL (fun i hi => hs i (by omega)) h
      omega
    · obtain ⟨j, hj, e⟩ := List.mem_map.mp h
      rw [List.mem_range] at hj
      injection e with e1 e2
      have := hs k (by omega)
      omega
theorem sg_succ (s : Int) (ss : List Int) (i : Nat) : sg (s :: ss) (i + 1) = sg ss i := by simp [sg]
theorem sum_sg (f : Int → Int) : ∀ ss : List Int, (ss.map f).sum = ((List.range ss.length).map fun i => f (sg ss i)).sum
  | [] => rfl
  | s :: ss => by
    rw [List.map_cons, List.sum_cons, sum_sg f ss, List.length_cons, List.range_succ_eq_map, List.map_cons, List.sum_cons, List.map_map]
    congr 1
theorem cutL_len (hs : ∀ i, i < ss.length → sg ss i ≤ (d : Int)) : ∀ k, k ≤ ss.length → ((cutL d ss k).length : Int) = ((List.range k).map fun i => (d : Int) - sg ss i).sum
  | 0, _ => rfl
  | k + 1, h => by
    have ih := cutL_len hs k (by omega)
    have := hs k (by omega)
    rw [cutL, List.length_append, List.length_map, List.length_range, List.range_succ, List.map_append, List.sum_append]
    simp
    omega
theorem cutL_le (S : Spc d ks ss) : ∀ k, k ≤ ss.length → (cutL d ss k).length ≤ 5 * k
  | 0, _ => Nat.le_refl _
  | k + 1, h => by
    have ih := cutL_le S k (by omega)
    have := (S.sg (i := k) (by omega)).1
    have := S.d4
    rw [cutL, List.length_append, List.length_map, List.length_range]
    omega
theorem cutL_dim (S : Spc d ks ss) : (d : Int) + 1 + ((cutL d ss ss.length).length : Int) = dimZ d ss := by
  rw [cutL_len (fun i hi => (S.sg hi).2) _ (Nat.le_refl _), dimZ, sum_sg]
theorem cuts_ok (S : Spc d ks ss) : F__law_cuts [spcD d ks ss] = .ok (.list ((cutL d ss ss.length).map cuD)) := by
  have l6 := S.kn.l6
  have sl := S.len
  have d4 := S.d4
  obtain ⟨env2, e, x5, x6, rfl, _⟩ := forL_inv (p := .tp [.nm 5, .nm 6]) (b := b__law_cuts_1) (st := []) (ds := enumL (iD ss)) (fun k env => ∃ x5 x6, env = [.im (spcD d ks ss), .im (.int (d : Int)), .im (pD ks), .im (.list (iD ss)), .ow ((cutL d ss k).map cuD), x5, x6, .no] ∧ isPt x5 = false ∧ isPt x6 = false) (fun k dd hd env hI => by
    obtain ⟨x5, x6, rfl, h5, h6⟩ := hI
    rw [enum_iD] at hd
    obtain ⟨hk, rfl⟩ := mapR_get hd
    obtain ⟨s1, s2⟩ := S.sg hk
    have L := lcL_mapg (pt := .nm 7) (e := mTup (aCons (mBin oAdd (mVar 5) (mC (.int 1))) (aCons (mVar 7) aNil))) (env := [.im (spcD d ks ss), .im (.int (d : Int)), .im (pD ks), .im (.list (iD ss)), .ow ((cutL d ss k).map cuD), .im (.int (k : Int)), .im (.int (sg ss k)), .no]) (st := []) (fun j : Nat => .int ((sg ss k + 1) + (j : Int))) (fun j => cuD (k + 1, (sg ss k + 1).toNat + j)) (List.range ((d : Int) - sg ss k).toNat) fun j hj => by
      refine ⟨_, by simp; rfl, ?_⟩
      have e1 : (((sg ss k + 1).toNat + j : Nat) : Int) = sg ss k + 1 + (j : Int) := by omega
      simp [cuD]
      omega
    have er : rangeL (sg ss k + 1) ((d : Int) + 1) = (List.range ((d : Int) - sg ss k).toNat).map fun j : Nat => .int ((sg ss k + 1) + (j : Int)) := by
      unfold rangeL
      have : ((d : Int) + 1 - (sg ss k + 1)).toNat = ((d : Int) - sg ss k).toNat := by omega
      rw [this]
    rw [← er] at L
    have R : iRange2 (mBin oAdd (mVar 6) (mC (.int 1))) (mBin oAdd (mVar 1) (mC (.int 1))) [.im (spcD d ks ss), .im (.int (d : Int)), .im (pD ks), .im (.list (iD ss)), .ow ((cutL d ss k).map cuD), .im (.int (k : Int)), .im (.int (sg ss k)), .no] [] = .ok (rangeL (sg ss k + 1) ((d : Int) + 1), []) := by
      have c : ((sg ss k + 1 ≤ 1000000 ∧ -1000000 ≤ sg ss k + 1) ∧ ((d : Int) + 1 ≤ 1000000 ∧ -1000000 ≤ (d : Int) + 1)) := by omega
      simp only [iRange2, mBin, mVar, mC, getE, R.bind, EV.view, oAdd]
      rw [if_pos c]
    have M := mLc_ok (vs := [7]) R ⟨by rw [er, List.length_map, List.length_range]; show _ ≤ 1000000; omega, rfl⟩ L
    have l1 := cutL_le S k (by omega)
    have ll : (cutL d ss k).length + ((d : Int) - sg ss k).toNat ≤ 1000000 := by omega
    refine ⟨_, by simp [h5, h6]; rfl, [.im (spcD d ks ss), .im (.int (d : Int)), .im (pD ks), .im (.list (iD ss)), .ow ((cutL d ss (k + 1)).map cuD), .im (.int (k : Int)), .im (.int (sg ss k)), .no], ?_, _, _, rfl, rfl, rfl⟩
    unfold b__law_cuts_1
    rw [cutL, List.map_append, List.map_map]
    generalize hg : (List.range ((d : Int) - sg ss k).toNat).map (fun j => cuD (k + 1, (sg ss k + 1).toNat + j)) = g at M
    have hg2 : (List.range ((d : Int) - sg ss k).toNat).map (cuD ∘ fun j => (k + 1, (sg ss k + 1).toNat + j)) = g := hg
    have lg : g.length = ((d : Int) - sg ss k).toNat := by rw [← hg]; simp
    rw [hg2]
    unfold sExtend
    rw [M]
    show (if _ then _ else _) = _
    rw [if_pos (by rw [List.length_map, lg]; exact ll)]
    rfl) (env := [.im (spcD d ks ss), .im (.int (d : Int)), .im (pD ks), .im (.list (iD ss)), .ow [], .no, .no, .no]) ⟨.no, .no, rfl, rfl, rfl⟩
  rw [enum_iD, List.length_map, List.length_range] at e
  refine runP_rt (st := []) rfl ?_
  show m__law_cuts [.im (spcD d ks ss), .no, .no, .no, .no, .no, .no, .no] [] = _
  unfold m__law_cuts
  refine (seq_nx (env1 := [.im (spcD d ks ss), .im (.int (d : Int)), .im (pD ks), .im (.list (iD ss)), .no, .no, .no, .no]) (st1 := []) ?_).trans ?_
  · simp [spcD]
  · refine (seq_nx (env1 := [.im (spcD d ks ss), .im (.int (d : Int)), .im (pD ks), .im (.list (iD ss)), .ow [], .no, .no, .no]) (st1 := []) ?_).trans ?_
    · simp
    · refine (seq_nx (env1 := [.im (spcD d ks ss), .im (.int (d : Int)), .im (pD ks), .im (.list (iD ss)), .ow ((cutL d ss ss.length).map cuD), x5, x6, .no]) (st1 := []) ?_).trans ?_
      · unfold sFor
        have k : (iEnumL (mVar 3)) [.im (spcD d ks ss), .im (.int (d : Int)), .im (pD ks), .im (.list (iD ss)), .ow [], .no, .no, .no] [] = .ok (enumL (iD ss), []) := by simp
        rw [k]
        rw [← enum_iD] at e
        exact e
      · simp
theorem pcap {i : Nat} (h : i ≤ 4) : Cap (2 ^ i) (50 ^ i) ∧ Cap (2 ^ i * 2) (5 * (2 * (50 ^ i * 5)) + 50 ^ i * 5) := by
  match i with
  | 0 => refine ⟨?_, ?_⟩ <;> constructor <;> decide +kernel
  | 1 => refine ⟨?_, ?_⟩ <;> constructor <;> decide +kernel
  | 2 => refine ⟨?_, ?_⟩ <;> constructor <;> decide +kernel
  | 3 => refine ⟨?_, ?_⟩ <;> constructor <;> decide +kernel
  | 4 => refine ⟨?_, ?_⟩ <;> constructor <;> decide +kernel
  | n + 5 => omega
/-- a line with a knot at its root, so often -/
theorem power_ok {k : Rat} (ik : In 2 5 k) {n : Nat} (hn : n ≤ 4) : ∃ P : List Rat, F__law_power [pD [k, 1], .int (n : Int)] = .ok (pD P) ∧ P.length ≤ n + 1 ∧ Inp (2 ^ n) (50 ^ n) P := by
  have iq : Inp 2 5 [k, 1] := fun a ha => by
    simp only [List.mem_cons, List.not_mem_nil, or_false] at ha
    rcases ha with rfl | rfl
    · exact ik
    · exact In_int 2 1 5 (by decide) (by decide)
  obtain ⟨env2, e, P, x, rfl, _, hP1, hP2⟩ := forL_inv (p := .nm 3) (b := b__law_power_1) (st := []) (ds := rangeL 0 (n : Int)) (fun i env => ∃ P x, env = [.im (pD [k, 1]), .im (.int (n : Int)), .im (pD P), x] ∧ isPt x = false ∧ P.length ≤ i + 1 ∧ Inp (2 ^ i) (50 ^ i) P) (fun i d hd env hI => by
    obtain ⟨P, x, rfl, hx, h1, h2⟩ := hI
    obtain ⟨hi, rfl⟩ := range0_get hd
    obtain ⟨c1, c2⟩ := pcap (i := i) (by omega)
    have np : 0 < 2 ^ i := Nat.pow_pos (by decide)
    have M := l_mul_ok P [k, 1] (2 ^ i) 2 (50 ^ i) 5 np (by decide) h2 iq (h2.fits np c1) (iq.fits (by decide) (by constructor <;> decide +kernel)) (c2.mono (Nat.add_le_add_right (Nat.mul_le_mul_right _ (by omega)) _)) (by show _ + 2 < _; omega)
    refine ⟨_, by simp [hx]; rfl, _, by unfold b__law_power_1; exact sSet_ok (mCall_ok rfl M) rfl rfl, strip (pmul P [k, 1]), _, rfl, rfl, ?_, ?_⟩
    · have := strip_pmul_len P [k, 1] (by simp)
      have e : ([k, 1] : List Rat).length = 2 := rfl
      omega
    · have := (Inp.pmul np (by decide) h2 iq).strip
      rw [Nat.pow_succ, Nat.pow_succ]
      refine this.mono ?_
      have e : ([k, 1] : List Rat).length = 2 := rfl
      rw [e]
      have : P.length ≤ 5 := by omega
      calc P.length * (2 * (50 ^ i * 5)) ≤ 5 * (2 * (50 ^ i * 5)) := Nat.mul_le_mul_right _ this
        _ = 50 ^ i * 50 := by omega) (env := [.im (pD [k, 1]), .im (.int (n : Int)), .im (pD [1]), .no]) ⟨[1], .no, rfl, rfl, by simp, fun a ha => by
      rw [List.mem_singleton] at ha
      rw [ha]
      exact In_int 1 1 1 (by decide) (by decide)⟩
  rw [range_len] at hP1 hP2
  have R := iR1N (m := mVar 1) (env := [.im (pD [k, 1]), .im (.int (n : Int)), .im (pD [1]), .no]) (st := []) (st' := []) (k := n) rfl (by omega)
  refine ⟨P, runP_rt (st := []) rfl ?_, hP1, hP2⟩
  show m__law_power [.im (pD [k, 1]), .im (.int (n : Int)), .no, .no] [] = _
  unfold m__law_power sFor
  refine (seq_nx (env1 := [.im (pD [k, 1]), .im (.int (n : Int)), .im (pD [1]), .no]) (st1 := []) ?_).trans ?_
  · show _ = BP.R.ok (Out.nx [.im (pD [k, 1]), .im (.int (n : Int)), .im (.list [qD 1]), .no] [])
    simp [q1]
  · refine (seq_nx (env1 := [.im (pD [k, 1]), .im (.int (n : Int)), .im (pD P), x]) (st1 := []) ?_).trans ?_
    · rw [R]
      exact e
    · simp
abbrev CM : Nat := 4 * 50 ^ 4
/-- one piece of a cut sum -/
theorem piece_ok (S : Spc d ks ss) (ik : Inp 2 5 ks) {nums first : List Rat} (inn : Inp 2 4 nums) (lf : first.length ≤ 5) (iF : Inp 32 4 first) {pc : Nat} {x8 x9 x10 x11 : EV} (h8 : isPt x8 = false) (h9 : isPt x9 = false) (h10 : isPt x10 = false) (h11 : isPt x11 = false) (acc : List D) (cs : List (Nat × Nat)) (hcs : ∀ c ∈ cs, c.1 < ks.length ∧ c.2 ≤ d) (hcl : cs.length ≤ 20) :
    ∃ P y9 y10 y11, isPt y9 = false ∧ isPt y10 = false ∧ isPt y11 = false ∧ P.length ≤ 5 ∧ Inp 32 (4 + 20 * CM) P ∧ forL (.tp [(.tp [(.nm 9), (.nm 10)]), (.nm 11)]) b__law_cut_sum_1 (zipL (cs.map cuD) (pL nums)) [.im (spcD d ks ss), x8, .im (.int (d : Int)), .im (pD ks), .im (.list (iD ss)), .im (pD first), .ow acc, .im (.int (pc : Int)), .im (pD first), x9, x10, x11] [] = .ok (.nx [.im (spcD d ks ss), x8, .im (.int (d : Int)), .im (pD ks), .im (.list (iD ss)), .im (pD first), .ow acc, .im (.int (pc : Int)), .im (pD P), y9, y10, y11] []) := by
  have d4 := S.d4
  obtain ⟨env2, e, P, y9, y10, y11, rfl, g9, g10, g11, hP1, hP2⟩ := forL_inv (p := .tp [(.tp [(.nm 9), (.nm 10)]), (.nm 11)]) (b := b__law_cut_sum_1) (st := []) (ds := zipL (cs.map cuD) (pL nums)) (fun i env => ∃ P x9 x10 x11, env = [.im (spcD d ks ss), x8, .im (.int (d : Int)), .im (pD ks), .im (.list (iD ss)), .im (pD first), .ow acc, .im (.int (pc : Int)), .im (pD P), x9, x10, x11] ∧ isPt x9 = false ∧ isPt x10 = false ∧ isPt x11 = false ∧ P.length ≤ 5 ∧ Inp 32 (4 + i * CM) P) (fun i dd hd env hI => by
    obtain ⟨P, x9, x10, x11, rfl, h9, h10, h11, hP1, hP2⟩ := hI
    have li : i < cs.length := by
      have a := (List.getElem?_eq_some_iff.mp hd).1
      have b := zip_len (cs.map cuD) (pL nums)
      rw [List.length_map] at b
      omega
    obtain ⟨u, v, hu, hv, rfl⟩ := zip_get hd
    obtain ⟨c, hc, rfl⟩ := map_get hu
    obtain ⟨hj, rfl⟩ := pL_get hv
    have cm := List.mem_of_getElem? hc
    obtain ⟨c1, c2⟩ := hcs c cm
    obtain ⟨a, p⟩ := c
    obtain ⟨num, hnum⟩ : ∃ num, num = co nums i := ⟨_, rfl⟩
    have inum : In 2 4 num := by rw [hnum]; exact inn _ (co_mem hj)
    rw [← hnum]
    have st : (Pat.tp [(.tp [(.nm 9), (.nm 10)]), (.nm 11)]).set (.tuple [cuD (a, p), qD num]) [.im (spcD d ks ss), x8, .im (.int (d : Int)), .im (pD ks), .im (.list (iD ss)), .im (pD first), .ow acc, .im (.int (pc : Int)), .im (pD P), x9, x10, x11] = .ok [.im (spcD d ks ss), x8, .im (.int (d : Int)), .im (pD ks), .im (.list (iD ss)), .im (pD first), .ow acc, .im (.int (pc : Int)), .im (pD P), .im (.int (a : Int)), .im (.int (p : Int)), .im (qD num)] := by
      simp [cuD, h9, h10, h11]
    refine ⟨_, st, ?_⟩
    by_cases hge : a ≤ pc
    · have hge' : (a : Int) ≤ (pc : Int) := by omega
      have ika : In 2 5 (co ks a) := ik _ (co_mem c1)
      obtain ⟨Q, q1', q2, q3⟩ := power_ok (k := -(co ks a)) (ika.neg (by decide)) (n := p) (by omega)
      have i16 : Inp 16 (50 ^ 4) Q := (q3.dvd (k := 16) (by decide) (by
        have : ∀ j, j < 5 → 2 ^ j ∣ 16 := by decide
        exact this p (by omega))).mono (Nat.pow_le_pow_right (by decide) (by omega))
      have f16 : Fits Q := i16.fits (by decide) (by constructor <;> decide +kernel)
      have SC := l_scale_ok (pD Q) Q num (Row.l _) (by omega) f16 (inum.fit (by decide) (by constructor <;> decide +kernel))
      obtain ⟨T, hT⟩ : ∃ T, T = strip (pmulc num Q) := ⟨_, rfl⟩
      rw [← hT] at SC
      have iT : Inp 32 CM T := by
        rw [hT]
        have := (i16.pmulc inum (by decide) (by decide)).strip
        rw [Nat.mul_comm (50 ^ 4) 4] at this
        exact this
      have lT : T.length ≤ 5 := by
        rw [hT]
        refine Nat.le_trans (strip_le _) ?_
        simp [pmulc]
        omega
      have fT : Fits T := iT.fits (by decide) (by constructor <;> decide +kernel)
      have fP : Fits P := (hP2.mono (l := 4 + 20 * CM) (Nat.add_le_add_left (Nat.mul_le_mul_right _ (by omega)) _)).fits (by decide) (by constructor <;> decide +kernel)
      have A := l_add_ok (pD P) (pD T) P T (Row.l _) (Row.l _) (by omega) (by omega) fP fT
      have LL := l_less_op 0 (co ks a) fit0 (ika.fit (by decide) (by constructor <;> decide +kernel))
      have e0 : (0 : Rat) - co ks a = -(co ks a) := by grind
      simp only [e0] at LL
      have ia : oIx (pD ks) (.int (a : Int)) = .ok (.im (qD (co ks a))) := ix_pL c1
      have q1'' : F__law_power [.list [qD (-(co ks a)), qD 1], .int (p : Int)] = .ok (pD Q) := q1'
      refine ⟨[.im (spcD d ks ss), x8, .im (.int (d : Int)), .im (pD ks), .im (.list (iD ss)), .im (pD first), .ow acc, .im (.int (pc : Int)), .im (pD (strip (padd P T))), .im (.int (a : Int)), .im (.int (p : Int)), .im (qD num)], ?_, _, _, _, _, rfl, rfl, rfl, rfl, ?_, ?_⟩
      · unfold b__law_cut_sum_1
        refine sIf_true (st1 := []) (by simp [hge']) ?_
        simp [-oIx_l, q0, q1, ia, LL, q1'', SC, A]
      · refine Nat.le_trans (strip_le _) ?_
        rw [padd_len]
        omega
      · have := (Inp.padd (by decide) hP2 iT).strip
        have e : 4 + i * CM + CM = 4 + (i + 1) * CM := by rw [Nat.add_mul, Nat.one_mul, Nat.add_assoc]
        rw [e] at this
        exact this
    · have hge' : ¬ (a : Int) ≤ (pc : Int) := by omega
      refine ⟨_, by unfold b__law_cut_sum_1; exact sIf_false (st1 := []) (by simp [hge']) rfl, P, .im (.int (a : Int)), .im (.int (p : Int)), .im (qD num), rfl, rfl, rfl, rfl, hP1, hP2.mono (Nat.add_le_add_left (Nat.mul_le_mul_right _ (by omega)) _)⟩) (env := [.im (spcD d ks ss), x8, .im (.int (d : Int)), .im (pD ks), .im (.list (iD ss)), .im (pD first), .ow acc, .im (.int (pc : Int)), .im (pD first), x9, x10, x11]) ⟨first, x9, x10, x11, rfl, h9, h10, h11, lf, iF.mono (by omega)⟩
  have lz : (zipL (cs.map cuD) (pL nums)).length ≤ 20 := by
    have b := zip_len (cs.map cuD) (pL nums)
    rw [List.length_map] at b
    omega
  exact ⟨P, y9, y10, y11, g9, g10, g11, hP1, hP2.mono (Nat.add_le_add_left (Nat.mul_le_mul_right _ lz) _), e⟩
structure Rw (n : Nat) (ps : List (List Rat)) : Prop where
  len : ps.length = n
  p : ∀ p ∈ ps, p.length ≤ 5 ∧ Inp 32 (4 + 20 * CM) p
theorem cut_sum_ok (S : Spc d ks ss) (ik : Inp 2 5 ks) {nums : List Rat} (inn : Inp 2 4 nums) (hl : nums.length ≤ 100) : ∃ ps, F__law_cut_sum [spcD d ks ss, pD nums] = .ok (bnD ks ps) ∧ Rw (ks.length - 1) ps := by
  have d4 := S.d4
  have l6 := S.kn.l6
  have l2 := S.kn.l2
  have sl := S.len
  have C := cuts_ok S
  have cl := cutL_le S ss.length (Nat.le_refl _)
  obtain ⟨first, hfirst⟩ : ∃ f, f = strip (nums.take (d + 1)) := ⟨_, rfl⟩
  have lf : first.length ≤ 5 := by
    rw [hfirst]
    refine Nat.le_trans (strip_le _) ?_
    rw [List.length_take]
    omega
  have iF : Inp 32 4 first := by
    rw [hfirst]
    have it : Inp 2 4 (nums.take (d + 1)) := fun a ha => inn a (List.mem_of_mem_take ha)
    exact (it.dvd (by decide) (by decide)).strip
  have T := l_told_ok (pD (nums.take (d + 1))) (nums.take (d + 1)) (Row.l _) (by rw [List.length_take]; omega)
  rw [← hfirst] at T
  have ct : cutD (pL nums) none (some ((d : Int) + 1)) = pL (nums.take (d + 1)) := by
    have := cutF_to (pL nums) (d + 1)
    rw [pL_take] at this
    exact this
  have cf : cutD (pL nums) (some ((d : Int) + 1)) none = pL (nums.drop (d + 1)) := by
    have := cutF_from (pL nums) (d + 1)
    rw [pL_drop] at this
    exact this
  have inn2 : Inp 2 4 (nums.drop (d + 1)) := fun a ha => inn a (List.mem_of_mem_drop ha)
  have hcs : ∀ c ∈ cutL d ss ss.length, c.1 < ks.length ∧ c.2 ≤ d := fun c hc => by
    obtain ⟨a, p⟩ := c
    obtain ⟨h1, h2, h3⟩ := mem_cutL (fun i hi => (S.sg hi).1) hc
    show a < ks.length ∧ p ≤ d
    omega
  obtain ⟨n, hn⟩ : ∃ n, ks.length = n + 1 := ⟨ks.length - 1, by omega⟩
  obtain ⟨env2, e, ps, x7, x8, x9, x10, x11, rfl, _, _, _, _, _, hps⟩ := forL_inv (p := .nm 7) (b := b__law_cut_sum_2) (st := []) (ds := rangeL 0 (n : Int)) (fun i env => ∃ ps x7 x8 x9 x10 x11, env = [.im (spcD d ks ss), .im (pD nums), .im (.int (d : Int)), .im (pD ks), .im (.list (iD ss)), .im (pD first), .ow (psD ps), x7, x8, x9, x10, x11] ∧ isPt x7 = false ∧ isPt x8 = false ∧ isPt x9 = false ∧ isPt x10 = false ∧ isPt x11 = false ∧ Rw i ps) (fun i dd hd env hI => by
    obtain ⟨ps, x7, x8, x9, x10, x11, rfl, h7, h8, h9, h10, h11, hps⟩ := hI
    obtain ⟨hi, rfl⟩ := range0_get hd
    obtain ⟨P, y9, y10, y11, g9, g10, g11, hP1, hP2, PE⟩ := piece_ok S ik inn2 lf iF (pc := i) (x8 := .im (pD nums)) rfl h9 h10 h11 (psD ps) (cutL d ss ss.length) hcs (by omega)
    have lp := hps.len
    refine ⟨_, by simp [h7]; rfl, [.im (spcD d ks ss), .im (pD nums), .im (.int (d : Int)), .im (pD ks), .im (.list (iD ss)), .im (pD first), .ow (psD (ps ++ [P])), .im (.int (i : Int)), .im (pD P), y9, y10, y11], ?_, ps ++ [P], _, _, _, _, _, rfl, rfl, rfl, g9, g10, g11, ⟨by rw [List.length_append, lp]; rfl, fun p hp => by
      rcases List.mem_append.mp hp with hp | hp
      · exact hps.p p hp
      · rw [List.mem_singleton] at hp
        rw [hp]
        exact ⟨hP1, hP2⟩⟩⟩
    unfold b__law_cut_sum_2
    refine (seq_nx (env1 := [.im (spcD d ks ss), .im (pD nums), .im (.int (d : Int)), .im (pD ks), .im (.list (iD ss)), .im (pD first), .ow (psD ps), .im (.int (i : Int)), .im (pD first), x9, x10, x11]) (st1 := []) (by simp [h8])).trans ?_
    refine (seq_nx (env1 := [.im (spcD d ks ss), .im (pD nums), .im (.int (d : Int)), .im (pD ks), .im (.list (iD ss)), .im (pD first), .ow (psD ps), .im (.int (i : Int)), .im (pD P), y9, y10, y11]) (st1 := []) ?_).trans ?_
    · unfold sFor
      have k : (iZipS (mCall F__law_cuts (aCons (mVar 0) aNil)) (mCut (mVar 1) (oSome (mBin oAdd (mVar 2) (mC (.int 1)))) oNone)) [.im (spcD d ks ss), .im (pD nums), .im (.int (d : Int)), .im (pD ks), .im (.list (iD ss)), .im (pD first), .ow (psD ps), .im (.int (i : Int)), .im (pD first), x9, x10, x11] [] = .ok (zipL ((cutL d ss ss.length).map cuD) (pL (nums.drop (d + 1))), []) := by
        simp [C, pD, cf]
      rw [k]
      exact PE
    · have l1 : ps.length < 1000000 := by omega
      simp [l1, psD]) (env := [.im (spcD d ks ss), .im (pD nums), .im (.int (d : Int)), .im (pD ks), .im (.list (iD ss)), .im (pD first), .ow [], .no, .no, .no, .no, .no]) ⟨[], .no, .no, .no, .no, .no, rfl, rfl, rfl, rfl, rfl, rfl, ⟨rfl, fun p hp => by simp at hp⟩⟩
  rw [range_len] at hps
  have en : ks.length - 1 = n := by omega
  refine ⟨ps, ?_, by rw [en]; exact hps⟩
  refine runP_rt (st := []) rfl ?_
  show m__law_cut_sum [.im (spcD d ks ss), .im (pD nums), .no, .no, .no, .no, .no, .no, .no, .no, .no, .no] [] = _
  unfold m__law_cut_sum
  refine (seq_nx (env1 := [.im (spcD d ks ss), .im (pD nums), .im (.int (d : Int)), .im (pD ks), .im (.list (iD ss)), .no, .no, .no, .no, .no, .no, .no]) (st1 := []) (by simp [spcD])).trans ?_
  refine (seq_nx (env1 := [.im (spcD d ks ss), .im (pD nums), .im (.int (d : Int)), .im (pD ks), .im (.list (iD ss)), .im (pD first), .ow [], .no, .no, .no, .no, .no]) (st1 := []) ?_).trans ?_
  · unfold pD at T ⊢
    simp [ct, T]
  · refine (seq_nx (env1 := [.im (spcD d ks ss), .im (pD nums), .im (.int (d : Int)), .im (pD ks), .im (.list (iD ss)), .im (pD first), .ow (psD ps), x7, x8, x9, x10, x11]) (st1 := []) ?_).trans ?_
    · unfold sFor
      have R := iR1N (m := mBin oSub (mB bLen (vCons (mVar 3) vNil)) (mC (.int 1))) (env := [.im (spcD d ks ss), .im (pD nums), .im (.int (d : Int)), .im (pD ks), .im (.list (iD ss)), .im (pD first), .ow [], .no, .no, .no, .no, .no]) (st := []) (st' := []) (k := n) (by simp [pD]; omega) (by omega)
      rw [R]
      exact e
    · simp [pD, bnD]
end
end BP

namespace BP
/-! ### drawn numbers and polys: over 42, at most 99 -/
structure Nr (q : Rat) : Prop where
  i : In 42 99 q
  s : sm q = true
structure Pr (p : List Rat) : Prop where
  i : Inp 42 99 p
  l : p.length ≤ 5
  s : p.all sm = true
theorem Nr.fit {q : Rat} (h : Nr q) : Fit q := sm_fit h.s
theorem Pr.fits {p : List Rat} (h : Pr p) : Fits p := sms_fit h.s
section
variable {d e : D} {p q : List Rat} {x c : Rat}
theorem plus3 (hd : Row d p) (he : Row e q) (hp : Pr p) (hq : Pr q) : BP2.F_plus [d, e] = .ok (pD (strip (padd p q))) := by
  have c1 := check_poly_ok hd hp.l hp.s
  have c2 := check_poly_ok he hq.l hq.s
  have a := plus2_ok d e p q hd he (by have := hp.l; omega) (by have := hq.l; omega) hp.fits hq.fits
  rcases hd with rfl | rfl <;> rcases he with rfl | rfl <;> simp [BP2.F_plus, BP2.m_plus, F_check_polys, m_check_polys, c1, c2, a]
theorem minus3 (hd : Row d p) (he : Row e q) (hp : Pr p) (hq : Pr q) : BP2.F_minus [d, e] = .ok (pD (strip (padd p (pmulc (-1) q)))) := by
  have c1 := check_poly_ok hd hp.l hp.s
  have c2 := check_poly_ok he hq.l hq.s
  have a := minus2_ok d e p q hd he (by have := hp.l; omega) (by have := hq.l; omega) hp.fits hq.fits
  rcases hd with rfl | rfl <;> rcases he with rfl | rfl <;> simp [BP2.F_minus, BP2.m_minus, F_check_polys, m_check_polys, c1, c2, a]
theorem mul_cap {p q : List Rat} (hp : p.length ≤ 5) (hq : q.length ≤ 5) : Cap (42 * 42) (p.length * (q.length * (99 * 99)) + 99 * 99) := Cap.le (n := 42 * 42) (m := 5 * (5 * (99 * 99)) + 99 * 99) (by constructor <;> decide +kernel) (Nat.le_refl _) (Nat.add_le_add_right (Nat.mul_le_mul hp (Nat.mul_le_mul_right _ hq)) _)
theorem times3 (hp : Pr p) (hq : Pr q) : BP2.F_times [pD p, pD q] = .ok (pD (strip (pmul p q))) := by
  have c1 := check_poly_ok (Row.l p) hp.l hp.s
  have c2 := check_poly_ok (Row.l q) hq.l hq.s
  have a := times2_ok p q 42 42 99 99 (by decide) (by decide) hp.i hq.i hp.fits hq.fits (mul_cap hp.l hq.l) (by have := hp.l; have := hq.l; omega)
  unfold pD at *
  simp [BP2.F_times, BP2.m_times, F_check_polys, m_check_polys, c1, c2, a]
theorem value3 (hd : Row d p) (hp : Pr p) (hx : Nr x) : F_value_at [d, qD x] = .ok (qD (ev p x)) := value_at_ok hd hp.l hp.s hx.s
theorem scaled3 (hd : Row d p) (hp : Pr p) (hc : Nr c) : BP2.F_scaled [d, qD c] = .ok (pD (strip (pmulc c p))) := by
  have c1 := check_poly_ok hd hp.l hp.s
  have c2 := cf_ok hc.s
  have a := scaled2_ok d p c hd (by have := hp.l; omega) hp.fits hc.fit
  rcases hd with rfl | rfl <;> simp [BP2.F_scaled, BP2.m_scaled, c1, c2, a]
theorem derived4 (hd : Row d p) (hl : p.length ≤ 5) (hs : p.all sm = true) : BP2.F_derived [d] = .ok (pL (strip (dv p))) ∧ BP2.V_derived [d] = .ok (pD (strip (dv p))) := by
  have c1 := check_poly_ok hd hl hs
  have a := derived2_ok p d hd (by omega) (sms_fit hs)
  have k : BP2.F_derived [d] = .ok (pL (strip (dv p))) := by
    refine runPo_ro (st := []) rfl ?_
    show BP2.m_derived [.im d] [] = _
    have s1 : (sExpr (mCall F_check_poly (aCons (mVar 0) aNil))) [.im d] [] = .ok (.nx [.im d] []) := by simp [c1]
    unfold BP2.m_derived
    rw [seq_nx s1]
    simp [a]
  refine ⟨k, ?_⟩
  unfold BP2.V_derived
  rw [k]
  rfl
theorem summed4 (hd : Row d p) (hl : p.length ≤ 5) (hs : p.all sm = true) : BP2.F_summed [d] = .ok (pD (strip (sm1 p))) := by
  have c1 := check_poly_ok hd hl hs
  have a := summed2_ok p d hd (by omega) (sms_fit hs)
  rcases hd with rfl | rfl <;> simp [BP2.F_summed, BP2.m_summed, c1, a]
theorem moved4 {n m ns ms : Nat} {s : Rat} (hd : Row d p) (hl : p.length ≤ 5) (hs : p.all sm = true) (h0 : 0 < n) (h1 : 0 < ns) (hm : 1 ≤ ms) (hp : Inp n m p) (hx : In ns ms s) (hc : Cap (n * ns ^ 6) (m * (11 * ms + 1) ^ 6)) (hcs : Cap ns ms) (hsx : sm s = true) : ∃ r, BP2.F_moved [d, qD s] = .ok (pD r) ∧ Pol (n * ns ^ 5) (m * (11 * ms + 1) ^ 5) p.length r ∧ ∀ t : Rat, ev r t = ev p (t + s) := by
  have c1 := check_poly_ok hd hl hs
  have c2 := check_spot_ok hsx
  obtain ⟨r, a, h2, h3⟩ := moved2_ok d p s n m ns ms 5 hd hl (by omega) h0 h1 hm hp hx hc hcs
  refine ⟨r, ?_, h2, h3⟩
  rcases hd with rfl | rfl <;> simp [BP2.F_moved, BP2.m_moved, c1, c2, a]
theorem stretched4 {n m ns ms : Nat} (hd : Row d p) (hl : p.length ≤ 5) (hs : p.all sm = true) (h0 : 0 < n) (h1 : 0 < ns) (hm : 1 ≤ ms) (hm0 : 1 ≤ m) (hp : Inp n m p) (hx : In ns ms c) (hc : Cap (n * ns ^ 5) (m * ms ^ 5)) (hcs : Cap ns ms) (hsx : sm c = true) : ∃ r, BP2.F_stretched [d, qD c] = .ok (pD r) ∧ Pol (n * ns ^ 5) (m * ms ^ 5) p.length r ∧ ∀ t : Rat, ev r t = ev p (c * t) := by
  have c1 := check_poly_ok hd hl hs
  have c2 := cf_ok hsx
  obtain ⟨r, a, h2, h3⟩ := stretched2_ok d p c n m ns ms 5 hd hl (by omega) h0 h1 hm hm0 hp hx hc hcs
  refine ⟨r, ?_, h2, h3⟩
  rcases hd with rfl | rfl <;> simp [BP2.F_stretched, BP2.m_stretched, c1, c2, a]
theorem sm1_in {n m : Nat} (h0 : 0 < n) (hp : Inp n m p) (hl : p.length ≤ 5) : Inp (n * 60) m (sm1 p) := fun a ha => by
  unfold sm1 at ha
  rcases List.mem_cons.mp ha with rfl | ha
  · exact In_zero _ _ (by omega)
  · obtain ⟨k, hk, rfl⟩ := List.mem_map.mp ha
    rw [List.mem_range] at hk
    have dk : (k + 1) ∣ 60 := by
      have : ∀ k, k < 5 → (k + 1) ∣ 60 := by decide
      exact this k (by omega)
    have i1 : In 60 1 (1 / ((k + 1 : Nat) : Rat)) := by
      refine In.dvd (n := k + 1) ⟨1, ?_, by simp⟩ (by decide) dk
      rw [dv_eq _ (by omega)]
      rfl
    have := (hp.co h0 k).mul i1 h0 (by decide)
    rw [Nat.mul_one] at this
    have e : co p k / ((k + 1 : Nat) : Rat) = co p k * (1 / ((k + 1 : Nat) : Rat)) := by grind
    rw [e]
    exact this
theorem area3 {low high : Rat} (hd : Row d p) (hp : Pr p) (hl : Nr low) (hh : Nr high) (h : low < high) : BP2.F_area [d, .tuple [qD low, qD high]] = .ok (qD (ev (sm1 p) high - ev (sm1 p) low)) := by
  have c1 := check_poly_ok hd hp.l hp.s
  have c2 := check_stretch_ok hl.s hh.s h
  have a := summed2_ok p d hd (by have := hp.l; omega) hp.fits
  have is := (sm1_in (by decide) hp.i hp.l).strip
  have ls : (strip (sm1 p)).length ≤ 6 := Nat.le_trans (strip_le _) (by rw [sm1_len]; have := hp.l; omega)
  have cap : Cap (42 * 60 * 42 ^ 7) (6 * (99 * 99 ^ 7)) := by constructor <;> decide +kernel
  have fs := is.fits (by decide) (cap.le (by decide) (by decide))
  have cc : Cap (42 * 60 * 42 ^ ((strip (sm1 p)).length + 1)) ((strip (sm1 p)).length * (99 * 99 ^ ((strip (sm1 p)).length + 1))) := cap.le (Nat.mul_le_mul_left _ (Nat.pow_le_pow_right (by decide) (by omega))) (Nat.mul_le_mul ls (Nat.mul_le_mul_left _ (Nat.pow_le_pow_right (by decide) (by omega))))
  have v := fun (x : Rat) (hx : Nr x) => value_of_ok (pD (strip (sm1 p))) _ x (42 * 60) 42 99 99 (Row.l _) (by omega) (by decide) (by decide) (by decide) is hx.i fs hx.fit cc
  have v1 := v high hh
  have v2 := v low hl
  have f := fun (x : Rat) (hx : Nr x) => (val_fit (n := 42 * 60) (n1 := 42) (m := 99) (m1 := 99) (by decide) (by decide) (by decide) hx.i (p := strip (sm1 p)) (l := 6) ls is cap).1
  have t := take_op _ _ (f high hh) (f low hl)
  rw [ev_strip] at v1 v2
  rw [ev_strip, ev_strip] at t
  have k : BP2.F_area_of [d, qD low, qD high] = .ok (qD (ev (sm1 p) high - ev (sm1 p) low)) := by
    rcases hd with rfl | rfl <;> simp [BP2.F_area_of, BP2.m_area_of, a, v1, v2, t]
  rcases hd with rfl | rfl <;> simp [BP2.F_area, BP2.m_area, c1, c2, k]
/-! what the law's own make of drawn ones -/
theorem lvalue {n m L : Nat} (h0 : 0 < n) (hm0 : 1 ≤ m) (hl : p.length ≤ L) (hL : L ≤ 90) (hp : Inp n m p) (hx : Nr x) (hc : Cap (n * 42 ^ L) ((L + 1) * (m * 99 ^ L))) : BP2.F__law_value [pD p, qD x] = .ok (qD (ev p x)) := value2_ok p x n 42 m 99 L h0 (by decide) (by decide) hm0 hl hL hp hx.i hc hx.fit
theorem lsum {n m : Nat} (h0 : 0 < n) (hp : Inp n m p) (hq : Inp n m q) (hl : p.length < 90) (hl2 : q.length < 90) (hc : Cap n (3 * m)) : BP2.F__law_sum [pD p, pD q] = .ok (pD (strip (padd p q))) := sum2_ok p q n m h0 hp hq (by omega) (by omega) hc
end
end BP

namespace BP
open PySem PySem.Spec
open PyProof.Rows
open L2 (V Hp HO TE TT TA TS TG TI It Ends Cx PE PT PW PA PS PSs PG PI Inv upd upd_same upd_ne OpR UnR CallR Same VK XK Sp Room Vals RelV FnScope PK CX0 E0)
/-! ### f(..).append(v), f's list new -/
@[simp] def sAppO (mo mv : ME) : MS := fun env st => (mo env st).bind fun x => match x.1 with
  | .ow ds => (mv env x.2).bind fun y => y.1.val.bind fun _ => if ds.length < LIM then .ok (.nx env y.2) else .st
  | _ => .st
section
variable {X : Cx} {pos : PySem.Pos}
theorem s_appO {xo v : PySem.Expr} {mo mv : ME} {apos cpos : PySem.Pos} (ho : PE X xo (tM X.K mo)) (hv : PE X v (tM X.K mv))
    (hbase : PySem.attributeBase xo "append" X.env (PySem.eval xo X.env) = PySem.eval xo X.env := by rfl)
    (hfew : ((PySem.backTo cpos (PySem.starEach [v] X.env)).all (fun x => !x.1) && (PySem.backToKw cpos (PySem.keywordEach [] X.env)).all (fun x => x.1.isSome)
      && decide ([v].length + ([] : List PySem.Keyword).length + (if ([] : List PySem.Keyword).isEmpty then 0 else 1) < 30)) = true := by rfl)
    (hline : (apos.endLine == cpos.line) = true := by rfl) (hs : PySem.starEach [v] X.env = (false, PySem.eval v X.env) :: PySem.starEach [] X.env := by rfl) (hplain : (PySem.backTo cpos (PySem.starEach [] X.env)).any (·.1) = false := by rfl)
    (hsw : PySem.swapsWith (.Call (.Attribute xo "append" apos) [v] [] cpos) none pos.line X.env = pure false := by rfl) :
    PS X (.Expr (.Call (.Attribute xo "append" apos) [v] [] cpos) pos) (tMS X.K (sAppO mo mv)) :=
  PS_imp (L2.ps_expr (L2.pe_bm PySem.F.plainAttrs_list PySem.F.slot_list_append PySem.F.type_list_append L2.mt_append ho (L2.pa_cons hv L2.pa_nil hs) hbase hfew hline hs hplain) hsw) fun D σ H ⟨B, W, pot, H0, os, env, st, E, b0, o, hm, h⟩ => by
    obtain ⟨x, ex, hm⟩ := R.bind_ok hm
    split at hm
    · rename_i ds hd
      obtain ⟨y, ey, hm⟩ := R.bind_ok hm
      obtain ⟨u, eu, hm⟩ := R.bind_ok hm
      split at hm
      · rename_i hl
        cases hm
        refine ⟨B, pot, os, env, st, E, _, _, ex, fun v1 H1 k1 p1 => ?_⟩
        rw [hd] at p1
        obtain ⟨p, vs, rfl, n, E1, e1, e2⟩ := p1
        have np : pot ≠ some p := fun z => by
          have := (E.pot p z).2
          rw [n] at this
          cases this
        refine ⟨.inl ⟨rfl, vs, .inl (.inl e1)⟩, plus B p, pot, os, env, _, E1, _, _, ey, fun w H2 k2 p2 => ?_⟩
        obtain ⟨E2, w1⟩ := p2.val E1 eu
        have e3 := k2 p _ e1 np
        have hl2 := e2.length
        have l1 : LIM = 1000000 := rfl
        have l2 : PySem.sizeLine = 16777216 := rfl
        refine ⟨p, vs, w, rfl, rfl, e3, by omega, ?_⟩
        have kk : ∀ b o, H b = some o → pot ≠ some b → upd H2 p (.lst (vs ++ [w])) b = some o := fun b o q z => by
          have ne : b ≠ p := fun y => by
            rw [y, n] at q
            cases q
          rw [upd_ne ne]
          exact k2 b o (k1 b o q z) z
        refine h σ _ os (E.keep kk fun q z => ?_) ⟨fun b o q z => kk b o (b0.same b o q z) fun y => z (b0.wp b y), b0.wr, b0.wp⟩
        have ne : q ≠ p := fun y => by
          rw [y] at z
          exact np z
        rw [upd_ne ne]
        exact (E2.pot q z).2
      · cases hm
    · cases hm
/-! ### in -/
def rInT (K : PySem.W.Frag) : L2.R2 := fun x y H Q => ∃ d ds, L2.Dp K H x d ∧ L2.Dp K H y (.tuple ds) ∧ SeqAt.shaped d = true ∧ SeqAt.shaped (.tuple ds) = true ∧ Q (.bl (ds.any fun z => PyData.eqv z d)) H
def rNotInT (K : PySem.W.Frag) : L2.R2 := fun x y H Q => ∃ d ds, L2.Dp K H x d ∧ L2.Dp K H y (.tuple ds) ∧ SeqAt.shaped d = true ∧ SeqAt.shaped (.tuple ds) = true ∧ Q (.bl (!ds.any fun z => PyData.eqv z d)) H
theorem op_inT (hu : X.A.units + 65 < cLine) : OpR X (compareOp .In) (rInT X.K) := by
  intro pins s σ H x y v u Q I rx ry h
  obtain ⟨d, ds, hd, he, sd, se, q⟩ := h
  obtain ⟨as, r1⟩ := L2.Dp.reads I d x v hd rx
  obtain ⟨bs, r2⟩ := L2.Dp.reads I (.tuple ds) y u he ry
  exact SeqAt.in_tuple_reads r2 r1 (SeqAt.canLay_of_shaped se) (SeqAt.canLay_of_shaped sd) (room_in_shaped sd hu) ⟨.bl _, H, I, rfl, q⟩
theorem op_notInT (hu : X.A.units + 65 < cLine) : OpR X (compareOp .NotIn) (rNotInT X.K) := by
  intro pins s σ H x y v u Q I rx ry h
  obtain ⟨d, ds, hd, he, sd, se, q⟩ := h
  obtain ⟨as, r1⟩ := L2.Dp.reads I d x v hd rx
  obtain ⟨bs, r2⟩ := L2.Dp.reads I (.tuple ds) y u he ry
  exact SeqAt.notIn_tuple_reads r2 r1 (SeqAt.canLay_of_shaped se) (SeqAt.canLay_of_shaped sd) (room_in_shaped sd hu) ⟨.bl _, H, I, rfl, q⟩
theorem om_in (hu : X.A.units + 65 < PySem.cLine) : OpM X (PySem.compareOp .In) oIn := by
  refine ⟨_, L2.OpR.or (L2.op_inD hu) (op_inT hu), fun A pot H x y dx dy z t hx hy e Q q => ?_⟩
  unfold oIn at e
  split at e
  · split at e
    · rename_i hl
      rw [Bool.and_eq_true] at hl
      cases e
      exact .inl ⟨_, _, hx.dp hl.1, hy.dp hl.2, hl.1, hl.2, q _ _ (L2.Same.refl H) z_bl⟩
    · cases e
  · split at e
    · rename_i hl
      rw [Bool.and_eq_true] at hl
      cases e
      exact .inr ⟨_, _, hx.dp hl.1, hy.dp hl.2, hl.1, hl.2, q _ _ (L2.Same.refl H) z_bl⟩
    · cases e
  · cases e
theorem om_ni (hu : X.A.units + 65 < PySem.cLine) : OpM X (PySem.compareOp .NotIn) oNotIn := by
  refine ⟨_, L2.OpR.or (L2.op_notInD hu) (op_notInT hu), fun A pot H x y dx dy z t hx hy e Q q => ?_⟩
  unfold oNotIn at e
  split at e
  · split at e
    · rename_i hl
      rw [Bool.and_eq_true] at hl
      cases e
      exact .inl ⟨_, _, hx.dp hl.1, hy.dp hl.2, hl.1, hl.2, q _ _ (L2.Same.refl H) z_bl⟩
    · cases e
  · split at e
    · rename_i hl
      rw [Bool.and_eq_true] at hl
      cases e
      exact .inr ⟨_, _, hx.dp hl.1, hy.dp hl.2, hl.1, hl.2, q _ _ (L2.Same.refl H) z_bl⟩
    · cases e
  · cases e
end
end BP

namespace BP
open PySem PySem.Spec
open PyProof.Rows
open L2 (V Hp HO TE TT TA TS TG TI It Ends Cx PE PT PW PA PS PSs PG PI Inv upd upd_same upd_ne OpR UnR CallR Same VK XK Sp Room Vals RelV FnScope PK CX0 E0 Turn ObjOk)
/-! ### enumerate of a tuple -/
theorem meets_enum1 {v : Value} {o : Obj} {C : Heap → Prop} (B : Begins v o C) :
    Meets (Builtin.«enumerate.__new__» ⟨[.type "enumerate", v], []⟩) (fun _ R s => C s.heap ∧
      R (.ok (.ret (.ref (s.heap.push o).objs.size))) { s with heap := (s.heap.push o).push { cls := .type "enumerate", data := .fields #[.none, .bool false, .ref s.heap.objs.size, rawInt 0, .none, .none] } }) :=
  .of_wp fun prog w A R s hh => by
    obtain ⟨hp, g, d, tk, os⟩ := s
    obtain ⟨h1, h2⟩ := hh
    have hsub := sub_enumerate
    have go : ∀ {A' : Around} {E Q : Value → Shared → Prop}, Q (.ref hp.objs.size) ⟨hp.push o, g, d, tk, os⟩ → wpAny (model prog w) A' (pyIter v) Q E ⟨hp, g, d, tk, os⟩ :=
      fun q => B.iter prog w _ _ ⟨hp, g, d, tk, os⟩ _ h1 q
    wp_walk using go
    refine wpAny_stack_any fun st => wpAny_pure ?_
    split
    · rename_i c _ _ _ _ _
      cases (c == Value.type "enumerate") <;> (wp_walk using go; exact ⟨_, rfl, h2⟩)
    · wp_walk using go
      exact ⟨_, rfl, h2⟩
theorem call_enum1 {prog : Program} {w : World} {A : Around} {E : Value → Shared → Prop} {s : Shared} {v : Value} {o : Obj} {C : Heap → Prop} {Q : Value → Shared → Prop} (B : Begins v o C) (h1 : C s.heap)
    (hq : ∀ h', IsEnum h' (s.heap.objs.size + 1) s.heap.objs.size 0 .none → h'.get? s.heap.objs.size = some o → (∀ b u, s.heap.get? b = some u → h'.get? b = some u) → Q (.ref (s.heap.objs.size + 1)) { s with heap := h' }) :
    wpAny (model prog w) A (call (.type "enumerate") [v]) Q E s := by
  refine callType_new F.called_enumerate (by decide) (F.typeCall_enumerate_1 _) (F.newCall_enumerate_1 _) (fun obj => F.args_object_init_2 obj _) F.entry_enumerate_new (meets_enum1 B) ⟨h1, ?_⟩
  have z : (s.heap.push o).objs.size = s.heap.objs.size + 1 := Heap.size_push ..
  have e0 := Heap.get?_push_size (s.heap.push o) (o := { cls := .type "enumerate", data := .fields #[.none, .bool false, .ref s.heap.objs.size, rawInt 0, .none, .none] }) rfl
  rw [z] at e0
  show _ ∧ _
  rw [z]
  exact ⟨⟨_, e0, rfl⟩, hq _ e0 (Heap.get?_push_of_some _ (Heap.get?_push_size _ B.free)) fun b u x => Heap.get?_push_of_some _ (Heap.get?_push_of_some _ x)⟩
theorem enumT_end {prog : Program} {w : World} {A : Around} {E : Value → Shared → Prop} {s : Shared} {e it l : Addr} {i : Nat} {items : Array Value} {old : Value} {Q : Option Value → Shared → Prop} (hh : A.handled = none)
    (he : IsEnum s.heap e it i old) (hit : s.heap.IsTupleIter it l i) (hl : s.heap.IsTuple l items) (hx : items[i]? = none)
    (hQ : ∀ h', Heap.ExtBut it s.heap h' → Q none { s with heap := h' }) : wpAny (model prog w) A (pyNext (.ref e)) Q E s := by
  have hT : s.TypeIs (.ref e) "enumerate" := ⟨_, he, rfl⟩
  unfold pyNext
  refine wpAny_bind (wpAny_attempt (wpAny_callSpecial?_slot (name := Str.ofString "__next__") hT F.slot_enumerate_next (wpAny_call_entry F.slot_enumerate_next hT F.entry_enumerate_next ?_ (F.args_enumerate_next_1 _))))
  show wpAny _ _ (field (.ref e) 2 >>= _) _ _ _
  refine wpAny_bind (wpAny_field he rfl (x := .ref it) rfl ?_)
  refine wpAny_bind (wpAny_nextOf_tuple_end hh hit hl hx fun h' x he' hx' => ?_)
  obtain ⟨o, ho, hc⟩ := hx'
  exact wpAny_bind (wpAny_isInstance (T := "StopIteration") (b := true) ⟨o, ho, hc⟩ isSubtype_stop (wpAny_pure (hQ _ he')))
def IteT (K : PySem.W.Frag) (a : Addr) : It :=
  ⟨fun i H => ∃ (xs : List V) (x : V), L2.SqT K H a xs ∧ xs[i]? = some x, fun i H v H' => ∃ T x, v = .ref T ∧ H T = none ∧ H' = upd H T (.tup [.int (i : Nat), x]) ∧ ∀ xs, L2.SqT K H a xs → xs[i]? = some x, fun i H => ∃ xs : List V, L2.SqT K H a xs ∧ xs.length ≤ i⟩
theorem turn_enumT {P : Program} {w : World} {K : PySem.W.Frag} {elts : List PySem.Expr} {kk : Nat} {tpos : Pos} (a e it : Addr) :
    Turn P w K (.Tuple elts kk tpos) (IteT K a) [e, it] e (fun i h => (∃ old, IsEnum h e it ((i : Nat) : Int) old) ∧ h.IsTupleIter it a i ∧ e ≠ it) where
  mem := List.mem_cons_self
  obj := fun i h st b hb => by
    obtain ⟨⟨old, he⟩, ⟨o, ho, hc, hd⟩, _⟩ := st
    rcases List.mem_cons.mp hb with z | z
    · exact z ▸ ⟨_, he, fun v q => nomatch q⟩
    · rw [List.mem_singleton.mp z]
      exact ⟨o, ho, fun v q => by rw [hd] at q; cases q⟩
  keep := fun i h h' st k => by
    obtain ⟨⟨old, he⟩, hi, hne⟩ := st
    exact ⟨⟨old, k e (by simp) _ he⟩, hi.at fun o q => k it (by simp) o q, hne⟩
  item := by
    intro X hP hw hK hc i pins s σ H E I hf st hg
    subst hP hw hK
    obtain ⟨⟨old, he⟩, hit, hne⟩ := st
    obtain ⟨xs, x, hq, hx⟩ := hg
    obtain ⟨its, rv, p, hz⟩ := I.tuple hq
    obtain ⟨u, hu, ru⟩ := rv.get hx
    have hel : e < s.heap.objs.size := Heap.lt_size he
    have hil : it < s.heap.objs.size := by
      obtain ⟨_, q, _⟩ := hit
      exact Heap.lt_size q
    have hit2 := hit
    have hai : a ≠ it := fun y => by
      obtain ⟨o1, q1, c1, _⟩ := hit2
      obtain ⟨o2, q2, c2, _⟩ := p
      rw [y, q1] at q2
      cases q2
      rw [c1] at c2
      injection c2 with c2
      exact absurd c2 (by decide)
    have hae : e ≠ a := fun y => by
      obtain ⟨o2, q2, c2, _⟩ := p
      rw [← y, show s.heap.get? e = _ from he] at q2
      cases q2
      injection c2 with c2
      exact absurd c2 (by decide)
    refine wpAny_pyNext_enum_itemD (.tuple (by exact I.ok.hd hc) it a hai its.toArray) he ⟨hit, p⟩ (by have := (List.getElem?_eq_some_iff.mp hu).1; simpa using this) hne (by simp [hne, hae]) fun x1 h' tk hPx ho hst hT hsz hk => ?_
    have ex : x1 = u := by
      have h1 : its[i]? = some x1 := by simpa using hPx
      rw [hu] at h1
      cases h1
      rfl
    subst ex
    refine ⟨_, rfl, wpAny_letOwnedTupleGo_enum (s := { s with heap := h', toks := tk + 1 }) ho fun h2 he2 sb => ?_⟩
    have hT2 : h2.get? s.heap.objs.size = some { cls := .type "tuple", data := .seq #[.int i tk, x1] } := (sb.2 _ (Nat.ne_of_gt hel)).trans hT
    have new : ObjOk X.prog X.w (upd H s.heap.objs.size (.tup [.int (i : Nat), x])) h2 s.heap.objs.size (.tup [.int (i : Nat), x]) := ⟨by show 2 ≤ sizeLine; decide, _, .cons ⟨_, rfl⟩ (.cons ru .nil), ⟨_, hT2, rfl, _, rfl⟩⟩
    have I1 : Inv X pins σ (upd H s.heap.objs.size (.tup [.int (i : Nat), x])) { s with heap := h2, toks := tk + 1 } :=
      I.turnedNew (t' := tk + 1) (ch := [e, it]) (fun b ob hb q => (sb.2 b fun z => hb (z ▸ List.mem_cons_self)).trans (hk b ob (fun z => hb (z ▸ List.mem_cons_self)) (fun z => hb (by simp [z])) q)) hf (Nat.le_refl _) new
    refine ⟨.ref s.heap.objs.size, _, I1, rfl, ⟨_, x, rfl, I.hok.fresh (Nat.le_refl _), rfl, fun ys hy => I.tuple_inj hy hq ▸ hx⟩, ⟨⟨x1, ?_⟩, hst.1.at fun o q => (sb.2 it (Ne.symm hne)).trans q, hne⟩, fun b hb => ?_⟩
    · rw [show ((i + 1 : Nat) : Int) = (i : Int) + 1 by omega]
      exact he2
    · have lb : b < s.heap.objs.size := by
        rcases List.mem_cons.mp hb with z | z
        · exact z ▸ hel
        · rw [List.mem_singleton.mp z]
          exact hil
      rw [upd_ne (Nat.ne_of_lt lb)]
      exact (hf b hb).1
  done := by
    intro X hP hw hK hc i pins s σ H E I hf st hg
    subst hP hw hK
    obtain ⟨⟨old, he⟩, hit, hne⟩ := st
    obtain ⟨xs, hq, hx⟩ := hg
    obtain ⟨its, rv, p, hz⟩ := I.tuple hq
    have hl := rv.length
    have hai : a ≠ it := fun y => by
      obtain ⟨o1, q1, c1, _⟩ := hit
      obtain ⟨o2, q2, c2, _⟩ := p
      rw [y, q1] at q2
      cases q2
      rw [c1] at c2
      injection c2 with c2
      exact absurd c2 (by decide)
    obtain ⟨f0, f1, f2, f3, f4, f5⟩ := hf it (by simp)
    exact enumT_end (I.ok.hd hc) he hit p (by simp; omega) fun h' eb => ⟨rfl, I.turned (t' := s.toks) (fun b o hb q => eb b o hb q) f0 f1 f3 f4 f5⟩
  self := fun A i s Q E st h => by
    obtain ⟨⟨_, he⟩, _⟩ := st
    exact wpAny_pyIter_enum he h
section
variable {K : PySem.W.Frag} {A : Addr → Prop} {H1 : Hp}
theorem walks_enumT {a : Addr} {vs : List V} {ds : List D} (h1 : (¬ A a ∧ H1 a = some (.tup vs)) ∨ KTup K a vs) (h2 : DrAll K H1 A vs ds) : Walks K A (IteT K a) (enumL ds) H1 := by
  intro i H k
  have hs : L2.SqT K H a vs := by
    rcases h1 with h | h
    · exact .inl (.inl (k _ _ h.2 h.1))
    · exact .inr h
  have hl := h2.length
  rw [enumL_len]
  refine ⟨fun hi => ⟨vs, vs[i]'(by omega), hs, List.getElem?_eq_getElem _⟩, fun hi => ⟨vs, hs, by omega⟩, fun x H' y hi => ?_⟩
  obtain ⟨T, x, rfl, n, rfl, y⟩ := y
  obtain ⟨d, e1, e2⟩ := (h2.get i).1 x (y vs hs)
  have s : Same H (upd H T (.tup [.int (i : Nat), x])) := Same.new n
  refine ⟨s, .tuple [.int i, d], by unfold enumL; rw [List.getElem?_mapIdx, e1]; rfl, fun A' q t => .tup (.inl ⟨fun z => ?_, upd_same⟩) (.cons (.int _) (.cons (e2.later k s q) .nil))⟩
  obtain ⟨o, e⟩ := t T z
  rw [n] at e
  cases e
end
def iEnumB (K : PySem.W.Frag) (ta : TA) : TI := fun σ H R => ta σ H fun vs H1 => ∃ a xs, vs = [.ref a] ∧ ((L2.SqL K H1 a xs ∧ R (L2.Ite K a) H1) ∨ (L2.SqT K H1 a xs ∧ R (IteT K a) H1))
section
variable {X : Cx} {a : PySem.Expr} {ma : ME} {pos : PySem.Pos}
theorem pi_enumB {ta : TA} {p tpos : Pos} {elts : List PySem.Expr} {kk : Nat} (hg : L2.Gl X "enumerate") (hm : X.mg "enumerate" = none) (ha : PA X [a] ta) (hs : starEach [a] X.env = [(false, eval a X.env)] := by rfl) :
    PI X (.Tuple elts kk tpos) (.Call (.Name "enumerate" p) [a] [] pos) (iEnumB X.K ta) := by
  refine ⟨fun pins s σ H R I h => ?_⟩
  refine Call_ (L2.ld_blt I hg hm boot_enumerate (PyProof.Rows.callWith_type1 (L2.thn (ha.run pos pins s σ H _ I h) fun us s1 ⟨vs, H1, I1, r1, a0, xs, ex, q1⟩ => ?_) hs rfl))
  subst ex
  cases r1 with
  | cons r rr =>
    cases rr
    cases r
    have off : ∀ (h' : Heap), IsEnum h' (s1.heap.objs.size + 1) s1.heap.objs.size 0 .none → ∀ b ∈ [s1.heap.objs.size + 1, s1.heap.objs.size], s1.heap.objs.size ≤ b := fun _ _ b hb => by
      rcases List.mem_cons.mp hb with z | z
      · omega
      · rw [List.mem_singleton.mp z]
        exact Nat.le_refl _
    rcases q1 with ⟨hq, q⟩ | ⟨hq, q⟩
    · obtain ⟨its, rv, pl, hz⟩ := I1.list hq
      refine call_enum1 (begins_list a0 its.toArray) pl.isList fun h' he hit hk => wpAny_pyIter_enum he ?_
      have I2 : Inv X pins σ H1 { s1 with heap := h' } := I1.kept (t' := s1.toks) hk
      exact ⟨s1.heap.objs.size + 1, _, _, _, H1, rfl, I2, L2.turn_enum a0 (s1.heap.objs.size + 1) s1.heap.objs.size, ⟨⟨.none, he⟩, ⟨_, hit, rfl, rfl⟩, Nat.succ_ne_self _⟩, fun b hb => I1.fpOk (off h' he b hb) (I1.hok.fresh (off h' he b hb)), q⟩
    · obtain ⟨its, rv, pl, hz⟩ := I1.tuple hq
      refine call_enum1 (begins_tuple a0 its.toArray) pl fun h' he hit hk => wpAny_pyIter_enum he ?_
      have I2 : Inv X pins σ H1 { s1 with heap := h' } := I1.kept (t' := s1.toks) hk
      exact ⟨s1.heap.objs.size + 1, _, _, _, H1, rfl, I2, turn_enumT a0 (s1.heap.objs.size + 1) s1.heap.objs.size, ⟨⟨.none, he⟩, ⟨_, hit, rfl, rfl⟩, Nat.succ_ne_self _⟩, fun b hb => I1.fpOk (off h' he b hb) (I1.hok.fresh (off h' he b hb)), q⟩
theorem i_enum {p tpos : PySem.Pos} {elts : List PySem.Expr} {kk : Nat} (hg : L2.Gl X "enumerate") (hm : X.mg "enumerate" = none) (ha : PE X a (tM X.K ma)) (hs : PySem.starEach [a] X.env = (false, PySem.eval a X.env) :: PySem.starEach [] X.env := by rfl) (hs2 : PySem.starEach [a] X.env = [(false, PySem.eval a X.env)] := by rfl) :
    PI X (.Tuple elts kk tpos) (.Call (.Name "enumerate" p) [a] [] pos) (tMI X.K (iEnumL ma)) := by
  refine ⟨fun pins s σ H R I ⟨B, pot, os, env, st, E, ds, st', hm', hR⟩ => ?_⟩
  obtain ⟨x, ex, hm'⟩ := BP.R.bind_ok hm'
  obtain ⟨u, eu, hm'⟩ := BP.R.bind_ok hm'
  refine (pi_enumB hg hm (L2.pa_cons ha L2.pa_nil hs) hs2).run pins s σ H R I ⟨B, pot, os, env, st, E, _, _, ex, fun v1 H1 k1 p1 => ?_⟩
  obtain ⟨E1, w1⟩ := p1.val E eu
  split at hm'
  · cases hm'
    cases w1 with
    | lst h1 h2 h3 => exact ⟨_, _, rfl, .inl ⟨.inl (.inl h2), hR _ H1 k1 E1 (walks_enum h1 h2 h3)⟩⟩
  · cases hm'
    cases w1 with
    | tup h1 h2 =>
      have sq : L2.SqT X.K H1 _ _ := match h1 with
        | .inl h => .inl (.inl h.2)
        | .inr h => .inr h
      exact ⟨_, _, rfl, .inr ⟨sq, hR _ H1 k1 E1 (walks_enumT h1 h2)⟩⟩
  · cases hm'
end
end BP

namespace BP
open PySem PySem.Spec
open PyProof.Rows
open L2 (V Hp HO TE TT TA TS TG TI It Ends Cx PE PT PW PA PS PSs PG PI Inv upd upd_same upd_ne OpR UnR CallR Same VK XK Sp Room Vals RelV FnScope PK CX0 E0)
/-! ### a, b = .., .. by a tuple (a name of a cell among them) -/
section
variable {X : Cx} {a b c : PySem.Expr} {ma mb mc : ME} {pos : PySem.Pos}
theorem keep_new {pot : Option Addr} {H : Hp} {p : Addr} {o : HO} (n : H p = none) : Keep pot H (upd H p o) := fun b u h _ => by
  have ne : b ≠ p := fun z => by
    rw [z, n] at h
    cases h
  rw [upd_ne ne]
  exact h
theorem s_parT2 (i j : Nat) (oi oj : Bool) {tg : PySem.Expr} {k2 : Nat} {pt2 : PySem.Pos} (hg : PG X tg (gP X.K (.tp [.nm i, .nm j]))) (ha : PE X a (tM X.K ma)) (hb : PE X b (tM X.K mb))
    (h1 : PySem.starEach [a, b] X.env = (false, PySem.eval a X.env) :: PySem.starEach [b] X.env := by rfl) (h2 : PySem.starEach [b] X.env = (false, PySem.eval b X.env) :: PySem.starEach [] X.env := by rfl)
    (hs : PySem.swapsWithSole [tg] (.Tuple [a, b] k2 pt2) pos.line X.env = pure false := by rfl) (hw : PySem.swappedStores [tg] (.Tuple [a, b] k2 pt2) X.env = pure none := by rfl) (h3 : (PySem.assignEach [tg] X.env).map (·.2) = [PySem.assign tg X.env] := by rfl) :
    PS X (.Assign [tg] (.Tuple [a, b] k2 pt2) pos) (tMS X.K (sPar2 i j oi oj ma mb)) := by
  refine PS_imp (L2.ps_asg (L2.pe_tup (L2.pa_cons ha (L2.pa_cons hb L2.pa_nil h2) h1)) hg hs hw h3) fun D σ H ⟨B, W, pot, H0, os, env, st, E, b0, o, hm, h⟩ => ?_
  obtain ⟨x1, ex, hm⟩ := R.bind_ok hm
  obtain ⟨u, eu, hm⟩ := R.bind_ok hm
  obtain ⟨y1, ey, hm⟩ := R.bind_ok hm
  obtain ⟨t, et, hm⟩ := R.bind_ok hm
  obtain ⟨env1, en1, hm⟩ := R.bind_ok hm
  obtain ⟨env2, en2, hm⟩ := R.bind_ok hm
  cases hm
  refine ⟨B, pot, os, env, st, E, _, _, ex, fun v H1 k1 p1 => ?_⟩
  obtain ⟨B1, s1, n1, E1, w1⟩ := keepE_KP E p1 eu
  refine ⟨B1, pot, os, env, _, E1, _, _, ey, fun w H2 k2' p2 => ?_⟩
  obtain ⟨B2, s2, n2, E2, w2⟩ := keepE_KP E1 p2 et
  have w1' := w1.keep E1 k2' s2 n2
  have w2' : KP X.K B B2 pot os H2 w t := w2.base s1
  have ne : ∀ a, KP.adr w t a → ¬ KP.adr v u a := fun a z y => (w2.isB z).2.1 (w1.isB y).1
  have bp : ∀ p, pot = some p → B p := fun p z => (E.pot p z).1
  have fr : ∀ a, B2 a ∧ ¬ B a → H a = none := fun a z => by
    rcases n2 a z.1 with y | y
    · rcases n1 a y with y | y
      · exact absurd y z.2
      · exact y
    · exact E1.back k1 y
  refine ⟨by show 2 ≤ PySem.sizeLine; decide, fun p n => ⟨p, [v, w], rfl, .inl (.inl upd_same), rfl, v, [w], rfl, w, [], rfl, rfl, ?_⟩⟩
  have k3 : Keep pot H2 (upd H2 p (.tup [v, w])) := keep_new n
  have E2' : ERep X.K B2 pot os (upd H2 p (.tup [v, w])) σ env _ := E2.ext fun b o q => by
    have nb : b ≠ p := fun z => by
      rw [z, n] at q
      cases q
    rw [upd_ne nb]
    exact q
  have v1 := w1'.keep E2 k3 (fun _ z => z) fun _ z => .inl z
  have v2 := w2'.keep E2 k3 (fun _ z => z) fun _ z => .inl z
  obtain ⟨B3, o3, a1, a2, E3, a3, a4, a5⟩ := v1.put E2' (fun b z => s2 b (s1 b z)) bp en1
  have w3 := v2.other a2 a4 a5 ne
  obtain ⟨B4, o4, c1, c2, E4, c3, c4, c5⟩ := w3.put E3 a1 bp en2
  refine h _ _ o4 (E4.less c1 bp) ⟨fun b o q z => (b0.step ((k1.trans k2').trans k3)).same b o q z, fun a z => ?_, b0.wp⟩
  rcases c3 a z with z | z
  · rcases a3 a z with z | z
    · exact b0.wr a z
    · exact b0.fresh (fr a z)
  · exact b0.fresh (fr a ⟨a2 a z.1, z.2⟩)
theorem s_parT3 (i j k : Nat) (oi oj ok : Bool) {tg : PySem.Expr} {k2 : Nat} {pt2 : PySem.Pos} (hg : PG X tg (gP X.K (.tp [.nm i, .nm j, .nm k]))) (ha : PE X a (tM X.K ma)) (hb : PE X b (tM X.K mb)) (hcc : PE X c (tM X.K mc))
    (h1 : PySem.starEach [a, b, c] X.env = (false, PySem.eval a X.env) :: PySem.starEach [b, c] X.env := by rfl) (h2 : PySem.starEach [b, c] X.env = (false, PySem.eval b X.env) :: PySem.starEach [c] X.env := by rfl) (h3 : PySem.starEach [c] X.env = (false, PySem.eval c X.env) :: PySem.starEach [] X.env := by rfl)
    (hs : PySem.swapsWithSole [tg] (.Tuple [a, b, c] k2 pt2) pos.line X.env = pure false := by rfl) (hw : PySem.swappedStores [tg] (.Tuple [a, b, c] k2 pt2) X.env = pure none := by rfl) (h4 : (PySem.assignEach [tg] X.env).map (·.2) = [PySem.assign tg X.env] := by rfl) :
    PS X (.Assign [tg] (.Tuple [a, b, c] k2 pt2) pos) (tMS X.K (sPar3 i j k oi oj ok ma mb mc)) := by
  refine PS_imp (L2.ps_asg (L2.pe_tup (L2.pa_cons ha (L2.pa_cons hb (L2.pa_cons hcc L2.pa_nil h3) h2) h1)) hg hs hw h4) fun D σ H ⟨B, W, pot, H0, os, env, st, E, b0, o, hm, h⟩ => ?_
  obtain ⟨x1, ex, hm⟩ := R.bind_ok hm
  obtain ⟨u, eu, hm⟩ := R.bind_ok hm
  obtain ⟨y1, ey, hm⟩ := R.bind_ok hm
  obtain ⟨t, et, hm⟩ := R.bind_ok hm
  obtain ⟨z1, ez, hm⟩ := R.bind_ok hm
  obtain ⟨r, er, hm⟩ := R.bind_ok hm
  obtain ⟨env1, en1, hm⟩ := R.bind_ok hm
  obtain ⟨env2, en2, hm⟩ := R.bind_ok hm
  obtain ⟨env3, en3, hm⟩ := R.bind_ok hm
  cases hm
  refine ⟨B, pot, os, env, st, E, _, _, ex, fun v H1 k1 p1 => ?_⟩
  obtain ⟨B1, s1, n1, E1, w1⟩ := keepE_KP E p1 eu
  refine ⟨B1, pot, os, env, _, E1, _, _, ey, fun w H2 k2 p2 => ?_⟩
  obtain ⟨B2, s2, n2, E2, w2⟩ := keepE_KP E1 p2 et
  refine ⟨B2, pot, os, env, _, E2, _, _, ez, fun q H3 k3 p3 => ?_⟩
  obtain ⟨B3, s3, n3, E3, w3⟩ := keepE_KP E2 p3 er
  have u1 := (w1.keep E1 k2 s2 n2).keep E2 k3 s3 n3
  have u2 := w2.keep E2 k3 s3 n3
  have ne1 : ∀ a, KP.adr w t a → ¬ KP.adr v u a := fun a z y => (w2.isB z).2.1 (w1.isB y).1
  have ne2 : ∀ a, KP.adr q r a → ¬ KP.adr v u a := fun a z y => (w3.isB z).2.1 (s2 a (w1.isB y).1)
  have ne3 : ∀ a, KP.adr q r a → ¬ KP.adr w t a := fun a z y => (w3.isB z).2.1 (w2.isB y).1
  have u2' := u2.base s1
  have u3' := w3.base fun b z => s2 b (s1 b z)
  have bp : ∀ p, pot = some p → B p := fun p z => (E.pot p z).1
  have fr : ∀ a, B3 a ∧ ¬ B a → H a = none := fun a z => by
    rcases n3 a z.1 with y | y
    · rcases n2 a y with y | y
      · rcases n1 a y with y | y
        · exact absurd y z.2
        · exact y
      · exact E1.back k1 y
    · exact E1.back k1 (E2.back k2 y)
  refine ⟨by show 3 ≤ PySem.sizeLine; decide, fun p n => ⟨p, [v, w, q], rfl, .inl (.inl upd_same), rfl, v, [w, q], rfl, w, [q], rfl, q, [], rfl, rfl, ?_⟩⟩
  have k4 : Keep pot H3 (upd H3 p (.tup [v, w, q])) := keep_new n
  have E3' : ERep X.K B3 pot os (upd H3 p (.tup [v, w, q])) σ env _ := E3.ext fun b o q => by
    have nb : b ≠ p := fun z => by
      rw [z, n] at q
      cases q
    rw [upd_ne nb]
    exact q
  have u1 := u1.keep E3 k4 (fun _ z => z) fun _ z => .inl z
  have u2' := u2'.keep E3 k4 (fun _ z => z) fun _ z => .inl z
  have u3' := u3'.keep E3 k4 (fun _ z => z) fun _ z => .inl z
  obtain ⟨B4, o4, a1, a2, E4, a3, a4, a5⟩ := u1.put E3' (fun b z => s3 b (s2 b (s1 b z))) bp en1
  have g2 := u2'.other a2 a4 a5 ne1
  have g3 := u3'.other a2 a4 a5 ne2
  obtain ⟨B5, o5, c1, c2, E5, c3, c4, c5⟩ := g2.put E4 a1 bp en2
  have g4 := g3.other c2 c4 c5 ne3
  obtain ⟨B6, o6, d1, d2, E6, d3, d4, d5⟩ := g4.put E5 c1 bp en3
  refine h _ _ o6 (E6.less d1 bp) ⟨fun b o q z => (b0.step (((k1.trans k2).trans k3).trans k4)).same b o q z, fun a z => ?_, b0.wp⟩
  rcases d3 a z with z | z
  · rcases c3 a z with z | z
    · rcases a3 a z with z | z
      · exact b0.wr a z
      · exact b0.fresh (fr a z)
    · exact b0.fresh (fr a ⟨a2 a z.1, z.2⟩)
  · exact b0.fresh (fr a ⟨a2 a (c2 a z.1), z.2⟩)
end
end BP

namespace BP
open PySem PySem.Spec
open PyProof.Rows
open L2 (V Hp HO TE TT TA TS TG TI It Ends Cx PE PT PW PA PS PSs PG PI Inv upd upd_same upd_ne OpR UnR CallR Same VK XK Sp Room Vals RelV FnScope PK CX0 E0)
/-! ### nothing told of statements: what a def that calls itself begins with -/
theorem ss_never {X : Cx} {sts : List PySem.Stmt} : PSs X sts (tMS X.K sNever) :=
  ⟨fun pins s σ H D I q => by
    obtain ⟨B, W, pot, H0, os, env, st, E, b0, o, hm, h⟩ := q
    cases hm⟩
/-! ### t[::-1] of a list, of a tuple -/
theorem back_adjust (n : Nat) : Builtin.Slice.sliceAdjust none none (-1) (n : Int) = ((n : Int) - 1, -1) := by
  simp [Builtin.Slice.sliceAdjust]
  try omega
theorem back_places (n : Nat) : Builtin.Slice.slicePlaces ((n : Int) - 1) (-1) (-1) = n := by
  simp [Builtin.Slice.slicePlaces]
  try omega
theorem fm_some {α β : Type} {f : α → Option β} {g : α → β} : ∀ {l : List α}, (∀ a ∈ l, f a = some (g a)) → l.filterMap f = l.map g
  | [], _ => rfl
  | a :: l, h => by
    have ih := fm_some (l := l) fun b hb => h b (List.mem_cons_of_mem _ hb)
    rw [List.filterMap_cons, h a List.mem_cons_self, List.map_cons, ih]
theorem back_pick (xs : Array Value) : ((List.range xs.size).filterMap fun (j : Nat) => xs[(((xs.size : Int) - 1) + (j : Int) * (-1)).toNat]?) = xs.toList.reverse := by
  have e : ∀ j ∈ List.range xs.size, xs[(((xs.size : Int) - 1) + (j : Int) * (-1)).toNat]? = some (xs.toList.reverse.getD j default) := fun j hj => by
    rw [List.mem_range] at hj
    have e1 : (((xs.size : Int) - 1) + (j : Int) * (-1)).toNat = xs.size - 1 - j := by omega
    rw [e1]
    have h1 : xs.size - 1 - j < xs.size := by omega
    simp [List.getD_eq_getElem?_getD, hj, h1]
  rw [fm_some e]
  refine List.ext_getElem (by simp) fun i h1 h2 => ?_
  simp at h1 h2
  simp [h1, h2]
section
variable {prog : Program} {w : World} {A : Around} {E : Value → Shared → Prop} {s : Shared}
theorem back_slice {sl : Addr} {tk : Tok} {n : Nat} {Q : Int × Int × Nat → Shared → Prop} (hs : s.heap.IsSliceOf sl .none .none (.int (-1) tk)) (h : Q ((n : Int) - 1, -1, n) s) : wpAny (model prog w) A (Builtin.Slice.sliceApplied (.ref sl) (pure (n : Int))) Q E s := by
  obtain ⟨ob, g1, g2, g3⟩ := id hs
  unfold Builtin.Slice.sliceApplied Builtin.Slice.sliceFields
  refine wpAny_bind (wpAny_bind (wpAny_field g1 g3 (x := .none) rfl (wpAny_bind (wpAny_field g1 g3 (x := .none) rfl (wpAny_bind (wpAny_field g1 g3 (x := .int (-1) tk) rfl (wpAny_pure ?_)))))))
  refine wpAny_bind (HT.slicePart_ (.int (-1) tk) ?_)
  show wpAny _ _ (if ((-1 : Int) == 0) = true then _ else _) _ _ s
  rw [if_neg (by decide)]
  refine wpAny_bind (HT.slicePart_ .none (wpAny_bind (HT.slicePart_ .none (wpAny_bind (wpAny_pure ?_)))))
  show wpAny _ _ (match Builtin.Slice.sliceAdjust none none (-1) (n : Int) with | (x, y) => pure (x, (-1 : Int), Builtin.Slice.slicePlaces x y (-1))) _ _ s
  rw [back_adjust]
  show wpAny _ _ (pure ((n : Int) - 1, (-1 : Int), Builtin.Slice.slicePlaces ((n : Int) - 1) (-1) (-1))) _ _ s
  rw [back_places]
  exact wpAny_pure h
theorem back_tuple {t sl : Addr} {xs : Array Value} {tk : Tok} {Q : Value → Shared → Prop} (ht : IsTup s.heap t xs) (hs : s.heap.IsSliceOf sl .none .none (.int (-1) tk)) (hz : xs.size ≤ sizeLine)
    (h : Q (.ref s.heap.objs.size) { s with heap := s.heap.push { cls := .type "tuple", data := .seq xs.toList.reverse.toArray } }) : wpAny (model prog w) A (getItem (.ref t) (.ref sl)) Q E s := by
  have fits : sizeOk (.seq xs.toList.reverse.toArray) := by
    show xs.toList.reverse.toArray.size ≤ sizeLine
    simpa using hz
  obtain ⟨ob, g1, g2, g3⟩ := id hs
  have hT : s.TypeIs (.ref sl) "slice" := ⟨ob, g1, g2⟩
  unfold getItem
  try with_reducible refine wpAny_holding ?_
  first | refine wpAny_bind (wpAny_pure ?_) | skip
  refine wpAny_bind (wpAny_sequenceKey ht.typeIs (by decide) ?_)
  refine wpAny_bind (wpAny_callSpecial?_slot (name := Str.ofString "__getitem__") ht.typeIs PyProof.Rows.slot_tuple_getitem (wpAny_call_entry PyProof.Rows.slot_tuple_getitem ht.typeIs F.entry_tuple_getitem ?_ (F.args_tuple_getitem_2 _ _)))
  show wpAny _ _ (Builtin.Tuple.tupleItemsOf (.ref t) >>= _) _ _ s
  refine wpAny_bind (PyProof.Rows.tupleItemsOf_ ht ?_)
  refine wpAny_bind (wpAny_typeOf hT ?_)
  rw [if_pos (by decide)]
  refine wpAny_bind (back_slice hs ?_)
  have no : ¬ ((((xs.size : Int) - 1) == 0 && (-1 : Int) == 1 && xs.size == xs.size) = true) := by simp
  show wpAny _ _ (if ((((xs.size : Int) - 1) == 0 && (-1 : Int) == 1 && xs.size == xs.size) = true) then _ else _) _ _ s
  rw [if_neg no, back_pick]
  first
    | exact wpAny_bind (m := Builtin.Tuple.tupleExact _) (wpAny_newObj_type (wpAny_pure ⟨_, rfl, wpAny_pure h⟩) fits)
    | exact wpAny_bind (m := Builtin.Tuple.tupleExact _) (wpAny_newObj_type (wpAny_bind (wpAny_pure (wpAny_pure ⟨_, rfl, wpAny_pure h⟩))) fits)
    | exact wpAny_bind (wpAny_bind (m := Builtin.Tuple.tupleExact _) (wpAny_newObj_type (wpAny_pure (wpAny_pure ⟨_, rfl, wpAny_pure h⟩)) fits))
    | exact wpAny_bind (wpAny_bind (m := Builtin.Tuple.tupleExact _) (wpAny_newObj_type (wpAny_pure ⟨_, rfl, wpAny_pure h⟩) fits))
end
/-- xs[::-1], a list or a tuple -/
def revTL : O1
  | .list xs => .ok (.ow xs.reverse)
  | .tuple xs => .ok (.im (.tuple xs.reverse))
  | _ => .st
@[simp] theorem revTL_l (xs : List D) : revTL (.list xs) = .ok (.ow xs.reverse) := rfl
@[simp] theorem revTL_t (xs : List D) : revTL (.tuple xs) = .ok (.im (.tuple xs.reverse)) := rfl
def tBackT (K : PySem.W.Frag) (te : TE) : TE := fun σ H Q => te σ H fun x H1 => ∃ a xs, x = .ref a ∧ ((L2.SqL K H1 a xs ∧ ∀ p, H1 p = none → Q (.ref p) (upd H1 p (.lst xs.reverse))) ∨ (L2.SqT K H1 a xs ∧ ∀ p, H1 p = none → Q (.ref p) (upd H1 p (.tup xs.reverse))))
theorem pe_back {X : Cx} {e : PySem.Expr} {te : TE} {k : Nat} {p1 p2 p3 pos : PySem.Pos} (he : PE X e te) : PE X (.Subscript e (.Slice none none (some (.UnaryOp .USub (.Constant (.int 1) k p1) p2)) p3) pos) (tBackT X.K te) := by
  constructor
  intro pins s σ H Q I h
  refine Subscript_ (L2.thn (he.run pins s σ H _ I h) fun v sa ⟨x, Ha, Ia, ra, qa⟩ => ?_)
  obtain ⟨a, xs, ex, qa⟩ := qa
  subst ex
  cases ra
  have part : L2.PO X (some (.UnaryOp .USub (.Constant (.int 1) k p1) p2)) (L2.tPart (L2.tUn (L2.rU fun i => .int (-i)) (L2.tC (.int 1)))) := L2.po_some (L2.pe_un L2.un_neg L2.pe_int)
  refine wpAny_Slice (L2.thn (L2.po_none.run pins sa σ Ha (fun o Hb => o = none ∧ Hb = Ha) Ia ⟨rfl, rfl⟩) fun vb sb ⟨ob, Hb, Ib, pb, eb, fb⟩ => ?_)
  subst eb fb
  refine L2.thn (L2.po_none.run pins sb σ Hb (fun o Hc => o = none ∧ Hc = Hb) Ib ⟨rfl, rfl⟩) fun vc sc ⟨oc, Hc, Ic, pc, ec, fc⟩ => ?_
  subst ec fc
  refine L2.thn (part.run pins sc σ Hc (fun o Hd => o = some (-1) ∧ Hd = Hc) Ic ⟨1, rfl, -1, rfl, rfl, rfl⟩) fun vd sd ⟨od, Hd, Id, pd, ed, fd⟩ => ?_
  subst ed fd
  have Ie : Inv X pins σ Hd { sd with heap := sd.heap.push { cls := .type "slice", data := .fields #[vb, vc, vd] } } := Id.kept (t' := sd.toks) fun b o q => Heap.get?_push_of_some _ q
  show wpAny (model X.prog X.w) X.A (subscriptTail e (.Slice none none (some (.UnaryOp .USub (.Constant (.int 1) k p1) p2)) p3) (.ref a) (.ref sd.heap.objs.size)) (L2.EP X pins σ Q) X.xe { sd with heap := sd.heap.push { cls := .type "slice", data := .fields #[vb, vc, vd] } }
  rcases qa with ⟨hx, q⟩ | ⟨hx, q⟩
  · obtain ⟨its, r, ht, hz⟩ := Ie.list hx
    have len := r.length
    refine tail_any (ops := [.ref a, .ref sd.heap.objs.size]) ht.isList.typeIs (PySem.slot_list_getitem.lookup) ?_ (by with_unfolding_all rfl)
    refine wpAny_getItem_list_slice ht.isList (Heap.IsSliceOf.new _ vb vc vd) pb pc pd (by decide) ?_ (by rw [List.size_toArray]; omega)
    rw [PySem.W.krv_pick]
    refine ⟨.ref _, _, Ie.laid (t' := sd.toks) (o := .lst xs.reverse) (fun b o q => Heap.get?_push_of_some _ q) (Nat.le_refl _) ?_, rfl, q _ (Ie.hok.fresh (Nat.le_refl _))⟩
    exact ⟨by rw [List.length_reverse]; exact hz, _, 0, r.reverse, Heap.get?_push_size _ rfl⟩
  · obtain ⟨its, r, ht, hz⟩ := Ie.tuple hx
    have len := r.length
    cases pb
    cases pc
    cases pd with
    | int _ tk =>
      refine tail_any (ops := [.ref a, .ref sd.heap.objs.size]) ht.typeIs (PyProof.Rows.slot_tuple_getitem.lookup) ?_ (by with_unfolding_all rfl)
      refine back_tuple ht (Heap.IsSliceOf.new ..) (by rw [List.size_toArray]; omega) ?_
      refine ⟨.ref _, _, Ie.laid (t' := sd.toks) (o := .tup xs.reverse) (fun b o q => Heap.get?_push_of_some _ q) (Nat.le_refl _) ?_, rfl, q _ (Ie.hok.fresh (Nat.le_refl _))⟩
      exact ⟨by rw [List.length_reverse]; exact hz, _, r.reverse, IsTup.new _ _⟩
section
variable {X : Cx} {a : PySem.Expr} {pos : PySem.Pos} {ma : ME}
theorem q_back {k : Nat} {p1 p2 p3 : PySem.Pos} (ha : PE X a (tM X.K ma)) : PE X (.Subscript a (.Slice none none (some (.UnaryOp .USub (.Constant (.int 1) k p1) p2)) p3) pos) (tM X.K (mUn revTL ma)) := by
  refine PE_imp (pe_back ha) fun σ H Q ⟨B, pot, os, env, st, E, e, st', hm, hQ⟩ => ?_
  obtain ⟨x, ex, hm⟩ := R.bind_ok hm
  obtain ⟨u, eu, hm⟩ := R.bind_ok hm
  obtain ⟨z, ez, hm⟩ := R.bind_ok hm
  cases hm
  refine ⟨B, pot, os, env, st, E, _, _, ex, fun v1 H1 k1 p1 => ?_⟩
  obtain ⟨E1, w1⟩ := p1.view E eu
  unfold revTL at ez
  split at ez
  · cases ez
    obtain ⟨a, vs, rfl, h1, h2⟩ := w1.list
    refine ⟨a, vs, rfl, .inl ⟨.inl (.inl h1), fun p n => ?_⟩⟩
    obtain ⟨k4, q4⟩ := EPost.of E1 k1 (Same.new n) (z_lst n h2.reverse)
    exact hQ _ _ k4 q4
  · cases ez
    obtain ⟨d1, a, vs, rfl, h1, h2⟩ := w1.tup
    refine ⟨a, vs, rfl, .inr ⟨h1, fun p n => ?_⟩⟩
    obtain ⟨k4, q4⟩ := EPost.of E1 k1 (Same.new n) (z_tup E1.tr n h2.reverse)
    exact hQ _ _ k4 q4
  · cases ez
end
end BP

namespace L_k11
open BP
open PySem (Str Stmt)

/-! ### mirrors -/
def m__law_pot : MS := (sSeq (sSet 2 (mIf (mBin oLt (mVar 1) (mLenF 0)) (mB bAbs (vCons (mIxF 0 (mVar 1)) vNil)) (mBin oAdd (mBin oMul (mC (.int 4241)) (mVar 1)) (mC (.int 3547))))) sNil)
def r__law_pot : ME := (mLst (aCons (mB bMax (vCons (mC (.int 0)) (vCons (mBin oSub (mVar 2) (mBin oPow (mC (.int 10)) (mC (.int 18)))) vNil))) (aCons (mBin oAdd (mBin oMod (mB bInt (vCons (mBin oAdd (mBin oAdd (mBin oMul (mBin oMod (mB bInt (vCons (mVar 2) vNil)) (mC (.int 2147483549))) (mC (.int 40487))) (mBin oMul (mC (.int 40829)) (mVar 1))) (mC (.int 2803))) vNil)) (mC (.int 2147483563))) (mC (.int 1))) aNil)))
def F__law_pot : List Int → List D → R (List Int) := runO 2 3 m__law_pot r__law_pot
def m_is_poly : MS := (sRet (mCall F_is_poly_of (aCons (mVar 0) aNil)))
def F_is_poly : PF := runP 1 1 m_is_poly
abbrev F_told_of : PFo := BP2.F_told_of
abbrev V_told_of : PF := BP2.V_told_of
def m_told : MS := (sSeq (sExpr (mCall F_check_poly (aCons (mVar 0) aNil)))
  (sRetF (mCallO F_told_of (aCons (mVar 0) aNil))))
def F_told : PFo := runPo 1 1 m_told
def V_told : PF := fun ds => (F_told ds).bind fun es => .ok (.list es)
def m_degree : MS := (sSeq (sExpr (mCall F_check_poly (aCons (mVar 0) aNil)))
  (sRet (mBin oSub (mB bLen (vCons (mCall V_told_of (aCons (mVar 0) aNil)) vNil)) (mC (.int 1)))))
def F_degree : PF := runP 1 1 m_degree
abbrev F_plus_of : PF := BP2.F_plus_of
abbrev F_plus : PF := BP2.F_plus
abbrev F_minus_of : PF := BP2.F_minus_of
abbrev F_minus : PF := BP2.F_minus
abbrev F_times_of : PF := BP2.F_times_of
abbrev F_times : PF := BP2.F_times
def m_derived_of : MS := (sRet (mCall V_told_of (aCons (mCut (mLc (iEnumL (mVar 0)) (.tp [(.nm 1), (.nm 2)]) [1, 2] (mC (.bool true)) (mCall F_multiply (aCons (mVar 2) (aCons (mTup (aCons (mVar 1) (aCons (mC (.int 1)) aNil))) aNil)))) (oSome (mC (.int 1))) oNone) aNil)))
def F_derived_of : PF := runP 1 3 m_derived_of
def m_derived : MS := (sSeq (sExpr (mCall F_check_poly (aCons (mVar 0) aNil)))
  (sRet (mCall F_derived_of (aCons (mVar 0) aNil))))
def F_derived : PF := runP 1 1 m_derived
abbrev F_summed_of : PF := BP2.F_summed_of
abbrev F_summed : PF := BP2.F_summed
abbrev F_moved_of : PF := BP2.F_moved_of
abbrev F_moved : PF := BP2.F_moved
abbrev F_check_fraction : PF := BP2.F_check_fraction
abbrev F_stretched_of : PF := BP2.F_stretched_of
abbrev F_stretched : PF := BP2.F_stretched
abbrev F_area_of : PF := BP2.F_area_of
abbrev F_area : PF := BP2.F_area
def fuel_divided_of_1 : Env → Nat := fuelV 2
def b_divided_of_1 : MS := (sSeq (sPar2 5 6 false false (mBin oSub (mB bLen (vCons (mVar 2) vNil)) (mB bLen (vCons (mVar 3) vNil))) (mCall F_divide (aCons (mBin oIx (mVar 2) (mUn oNeg (mC (.int 1)))) (aCons (mBin oIx (mVar 3) (mUn oNeg (mC (.int 1)))) aNil))))
  (sSeq (sSetI 4 (mVar 5) (mVar 6))
  (sSet 2 (mCall V_told_of (aCons (mCut (mCall F_minus_of (aCons (mVar 2) (aCons (mCall F_times_of (aCons (mBin oAdd (mBin oMul (mLst (aCons (mC (.tuple [(.int 0), (.int 1)])) aNil)) (mVar 5)) (mLst (aCons (mVar 6) aNil))) (aCons (mVar 3) aNil))) aNil))) oNone (oSome (mBin oSub (mBin oAdd (mVar 5) (mB bLen (vCons (mVar 3) vNil))) (mC (.int 1))))) aNil)))))
def m_divided_of : MS := (sSeq (sPar2 2 3 false false (mCall V_told_of (aCons (mVar 0) aNil)) (mCall V_told_of (aCons (mVar 1) aNil)))
  (sSeq (sOwn 4 (mBin oMul (mLst (aCons (mC (.tuple [(.int 0), (.int 1)])) aNil)) (mB bMax (vCons (mC (.int 0)) (vCons (mBin oAdd (mBin oSub (mB bLen (vCons (mVar 2) vNil)) (mB bLen (vCons (mVar 3) vNil))) (mC (.int 1))) vNil)))))
  (sSeq (sWhile fuel_divided_of_1 (mBin oGe (mB bLen (vCons (mVar 2) vNil)) (mB bLen (vCons (mVar 3) vNil))) b_divided_of_1)
  (sFrz 4 (sRet (mTup (aCons (mCall V_told_of (aCons (mVar 4) aNil)) (aCons (mVar 2) aNil))))))))
def F_divided_of : PF := runP 2 7 m_divided_of
def m_does_divide : MS := (sSeq (sExpr (mCall F_check_polys (aCons (mVar 0) (aCons (mVar 1) aNil))))
  (sSeq (sIf (mBin oEq (mCall V_told_of (aCons (mVar 0) aNil)) (mLst aNil)) (sRet (mBin oEq (mCall V_told_of (aCons (mVar 1) aNil)) (mLst aNil))) sNil)
  (sRet (mBin oEq (mBin oIx (mCall F_divided_of (aCons (mVar 1) (aCons (mVar 0) aNil))) (mC (.int 1))) (mLst aNil)))))
def F_does_divide : PF := runP 2 2 m_does_divide
def m__law_draw : MS := (sSeq (sIf (mBin oGt (mPot 0) (mC (.int 0))) (sSeq (sDm 2 (mB bDm (vCons (mPot 0) (vCons (mVar 1) vNil))))
  (sRet (mVar 2))) sNil)
  (sSeq (sPot 1 (mBin oMod (mB bInt (vCons (mBin oAdd (mBin oMul (mPot 1) (mC (.int 40692))) (mC (.int 12329))) vNil)) (mC (.int 2147483563))))
  (sRet (mBin oMod (mB bInt (vCons (mBin oDiv (mBin oMod (mB bInt (vCons (mBin oMul (mPot 1) (mPot 1)) vNil)) (mC (.int 2147483549))) (mC (.int 19))) vNil)) (mVar 1)))))
def F__law_draw : PD := runD 2 3 m__law_draw
def m__law_pick : MS := (sRet (mBin oIx (mVar 1) (mDraw F__law_draw (aCons (mB bLen (vCons (mVar 1) vNil)) aNil))))
def F__law_pick : PD := runD 2 2 m__law_pick
abbrev F__law_divisor : PF := BP2.F__law_divisor
abbrev F__law_cut : PF := BP2.F__law_cut
def m__law_fraction : MS := (sSeq (sIf (mBin oEq (mDraw F__law_draw (aCons (mC (.int 4)) aNil)) (mC (.int 0))) (sRet (mTup (aCons (mC (.int 0)) (aCons (mC (.int 1)) aNil)))) sNil)
  (sSeq (sSet 1 (mDraw F__law_pick (aCons (mLst (aCons (mC (.int 3)) (aCons (mC (.int 9)) (aCons (mC (.int 99)) aNil)))) aNil)))
  (sRet (mCall F__law_cut (aCons (mBin oSub (mDraw F__law_draw (aCons (mBin oAdd (mBin oMul (mC (.int 2)) (mVar 1)) (mC (.int 1))) aNil)) (mVar 1)) (aCons (mDraw F__law_pick (aCons (mLst (aCons (mC (.int 1)) (aCons (mC (.int 1)) (aCons (mC (.int 2)) (aCons (mC (.int 3)) (aCons (mC (.int 7)) aNil)))))) aNil)) aNil))))))
def F__law_fraction : PD := runD 1 2 m__law_fraction
def m__law_is_integer : MS := (sRet (mAnd (mUn (oIsI .int) (mVar 0)) (mUn oNot (mUn (oIsI .bool) (mVar 0)))))
def F__law_is_integer : PF := runP 1 1 m__law_is_integer
def m__law_is_fraction : MS := (sSeq (sIf (mOr (mUn oNot (mUn (oIsI .tuple) (mVar 0))) (mOr (mBin oNe (mB bLen (vCons (mVar 0) vNil)) (mC (.int 2))) (mUn oNot (mB bAll (vCons (mLc (iSeq (mVar 0)) (.nm 1) [1] (mC (.bool true)) (mCall F__law_is_integer (aCons (mVar 1) aNil))) vNil))))) (sRet (mC (.bool false))) sNil)
  (sRet (mAnd (mBin oGe (mBin oIx (mVar 0) (mC (.int 1))) (mC (.int 1))) (mBin oEq (mCall F__law_divisor (aCons (mB bAbs (vCons (mBin oIx (mVar 0) (mC (.int 0))) vNil)) (aCons (mBin oIx (mVar 0) (mC (.int 1))) aNil))) (mC (.int 1))))))
def F__law_is_fraction : PF := runP 1 2 m__law_is_fraction
def m__law_is_poly : MS := (sRet (mAnd (mUn (oIsI .listtuple) (mVar 0)) (mAnd (mBin oLe (mB bLen (vCons (mVar 0) vNil)) (mC (.int 5))) (mB bAll (vCons (mLc (iSeq (mVar 0)) (.nm 1) [1] (mC (.bool true)) (mCall F__law_is_fraction (aCons (mVar 1) aNil))) vNil)))))
def F__law_is_poly : PF := runP 1 2 m__law_is_poly
def k__law_bent_1 (G : PD) : MS := (sRet (mBin oAdd (mBin oAdd (mCut (mVar 1) oNone (oSome (mVar 2))) (mIf (mUn (oIsI .list) (mVar 1)) (mLst (aCons (mVar 4) aNil)) (mTup (aCons (mVar 4) aNil)))) (mCut (mVar 1) (oSome (mBin oAdd (mVar 2) (mC (.int 1)))) oNone)))
def k__law_bent_2 (G : PD) : MS := (sSeq (sSet 4 (mDraw G (aCons (mBin oIx (mVar 1) (mVar 2)) aNil)))
  (k__law_bent_1 G))
def k__law_bent_3 (G : PD) : MS := (sSeq (sIf (mBin oEq (mVar 3) (mC (.int 3))) (sRet (mIf (mUn (oIsI .list) (mVar 1)) (mB bTuple (vCons (mVar 1) vNil)) (mB bList (vCons (mVar 1) vNil)))) sNil)
  (k__law_bent_2 G))
def k__law_bent_4 (G : PD) : MS := (sSeq (sIf (mBin oEq (mVar 3) (mC (.int 2))) (sRet (mUn revTL (mVar 1))) sNil)
  (k__law_bent_3 G))
def k__law_bent_5 (G : PD) : MS := (sSeq (sIf (mBin oEq (mVar 3) (mC (.int 1))) (sRet (mBin oAdd (mVar 1) (mCut (mVar 1) (oSome (mVar 2)) (oSome (mBin oAdd (mVar 2) (mC (.int 1))))))) sNil)
  (k__law_bent_4 G))
def k__law_bent_6 (G : PD) : MS := (sSeq (sIf (mBin oEq (mVar 3) (mC (.int 0))) (sRet (mBin oAdd (mCut (mVar 1) oNone (oSome (mVar 2))) (mCut (mVar 1) (oSome (mBin oAdd (mVar 2) (mC (.int 1)))) oNone))) sNil)
  (k__law_bent_5 G))
def k__law_bent_7 (G : PD) : MS := (sSeq (sPar2 2 3 false false (mDraw F__law_draw (aCons (mB bLen (vCons (mVar 1) vNil)) aNil)) (mDraw F__law_draw (aCons (mC (.int 9)) aNil)))
  (k__law_bent_6 G))
def m__law_bent (G : PD) : MS := (sSeq (sIf (mOr (mUn oNot (mUn (oIsI .listtuple) (mVar 1))) (mOr (mBin oEq (mB bLen (vCons (mVar 1) vNil)) (mC (.int 0))) (mBin oEq (mDraw F__law_draw (aCons (mC (.int 7)) aNil)) (mC (.int 0))))) (sRet (mDraw F__law_pick (aCons (mLst (aCons (mC .none) (aCons (mC (.int 0)) (aCons (mC (.int 1)) (aCons (mUn oNeg (mC (.int 1))) (aCons (mC (.bool true)) (aCons (mC (.str "1")) (aCons (mTup (aCons (mC (.int 1)) (aCons (mC (.int 2)) aNil))) (aCons (mTup (aCons (mC (.int 0)) (aCons (mC (.int 1)) aNil))) (aCons (mTup (aCons (mC (.int 0)) (aCons (mC (.int 2)) aNil))) (aCons (mTup (aCons (mC (.int 2)) (aCons (mC (.int 4)) aNil))) (aCons (mTup (aCons (mC (.int 1)) (aCons (mC (.int 0)) aNil))) (aCons (mTup (aCons (mUn oNeg (mC (.int 1))) (aCons (mC (.int 2)) aNil))) (aCons (mTup (aCons (mC (.int 1)) (aCons (mUn oNeg (mC (.int 2))) aNil))) (aCons (mLst aNil) (aCons (mTup aNil) (aCons (mTup (aCons (mBin oAdd (mBin oPow (mC (.int 10)) (mC (.int 20))) (mC (.int 1))) (aCons (mBin oPow (mC (.int 10)) (mC (.int 20))) aNil))) aNil))))))))))))))))) aNil))) sNil)
  (k__law_bent_7 G))
def F__law_bent_0 : PD := runD 2 5 sNever
def F__law_bent_1 : PD := runD 2 5 (m__law_bent F__law_bent_0)
def F__law_bent_2 : PD := runD 2 5 (m__law_bent F__law_bent_1)
def F__law_bent_3 : PD := runD 2 5 (m__law_bent F__law_bent_2)
def F__law_bent : PD := F__law_bent_3
def b__law_right_1 : MS := (sSeq (sPar2 4 5 false false (mCall F__law_is_poly (aCons (mVar 3) aNil)) (mB bRepr (vCons (mVar 3) vNil)))
  (sIf (mOr (mBin oNe (mB bRepr (vCons (mLst (aCons (mCall F_is_poly (aCons (mVar 3) aNil)) (aCons (mCallK F_is_poly aNil (aCons (mVar 3) aNil) [0]) aNil))) vNil)) (mB bRepr (vCons (mLst (aCons (mVar 4) (aCons (mVar 4) aNil))) vNil))) (mBin oNe (mB bRepr (vCons (mVar 3) vNil)) (mVar 5))) (sRet (mC (.bool false))) sNil))
def b__law_right_2 : MS := (sSeq (sSet 12 (mLst (aCons (mCall F_plus (aCons (mVar 11) (aCons (mVar 8) aNil))) (aCons (mCall F_minus (aCons (mVar 8) (aCons (mVar 11) aNil))) (aCons (mCall F_times (aCons (mVar 11) (aCons (mVar 8) aNil))) (aCons (mCall F_derived (aCons (mVar 11) aNil)) (aCons (mCall F_summed (aCons (mVar 11) aNil)) (aCons (mCall F_moved (aCons (mVar 11) (aCons (mVar 9) aNil))) (aCons (mCall F_stretched (aCons (mVar 11) (aCons (mVar 9) aNil))) (aCons (mCall F_value_at (aCons (mVar 11) (aCons (mVar 9) aNil))) (aCons (mCall F_area (aCons (mVar 11) (aCons (mVar 10) aNil))) aNil)))))))))))
  (sSeq (sSet 13 (mLst (aCons (mCall F_plus (aCons (mVar 1) (aCons (mVar 8) aNil))) (aCons (mCall F_minus (aCons (mVar 8) (aCons (mVar 1) aNil))) (aCons (mCall F_times (aCons (mVar 1) (aCons (mVar 8) aNil))) (aCons (mCall F_derived (aCons (mVar 1) aNil)) (aCons (mCall F_summed (aCons (mVar 1) aNil)) (aCons (mCall F_moved (aCons (mVar 1) (aCons (mVar 9) aNil))) (aCons (mCall F_stretched (aCons (mVar 1) (aCons (mVar 9) aNil))) (aCons (mCall F_value_at (aCons (mVar 1) (aCons (mVar 9) aNil))) (aCons (mCall F_area (aCons (mVar 1) (aCons (mVar 10) aNil))) aNil)))))))))))
  (sSeq (sIf (mOr (mBin oNe (mB bRepr (vCons (mVar 12) vNil)) (mB bRepr (vCons (mVar 13) vNil))) (mOr (mBin oIsN (mCall F_does_divide (aCons (mVar 11) (aCons (mVar 1) aNil))) (mC (.bool true))) (mBin oIsN (mCall F_does_divide (aCons (mVar 1) (aCons (mVar 11) aNil))) (mC (.bool true))))) (sRet (mC (.bool false))) sNil)
  (sIf (mB bAny (vCons (mLc (iSeq (mCut (mVar 12) oNone (oSome (mC (.int 7))))) (.nm 16) [16] (mC (.bool true)) (mAnd (mBin oNe (mVar 16) (mLst aNil)) (mBin oEq (mBin oIx (mVar 16) (mUn oNeg (mC (.int 1)))) (mTup (aCons (mC (.int 0)) (aCons (mC (.int 1)) aNil)))))) vNil)) (sRet (mC (.bool false))) sNil))))
def k__law_right_3 : MS := (sRet (mAnd (mBin oEq (mCall F_minus (aCons (mVar 1) (aCons (mVar 7) aNil))) (mLst aNil)) (mBin oEq (mCall F_degree (aCons (mCall F_minus (aCons (mVar 7) (aCons (mVar 1) aNil))) aNil)) (mUn oNeg (mC (.int 1))))))
def k__law_right_4 : MS := (sSeq (sFor (iSeq (mTup (aCons (mVar 4) (aCons (mB bTuple (vCons (mVar 7) vNil)) aNil)))) (.nm 11) b__law_right_2)
  k__law_right_3)
def k__law_right_5 : MS := (sSeq (sPar2 9 10 false false (mDraw F__law_fraction aNil) (mTup (aCons (mTup (aCons (mUn oNeg (mC (.int 1))) (aCons (mC (.int 2)) aNil))) (aCons (mTup (aCons (mC (.int 3)) (aCons (mC (.int 1)) aNil))) aNil))))
  k__law_right_4)
def k__law_right_6 : MS := (sSeq (sPar2 7 8 false false (mBin oAdd (mVar 4) (mBin oMul (mLst (aCons (mTup (aCons (mC (.int 0)) (aCons (mC (.int 1)) aNil))) aNil)) (mBin oSub (mC (.int 5)) (mVar 6)))) (mLc (iRange1 (mDraw F__law_draw (aCons (mC (.int 6)) aNil))) (.nm 14) [14] (mC (.bool true)) (mDraw F__law_fraction aNil)))
  k__law_right_5)
def k__law_right_7 : MS := (sSeq (sIf (mOr (mBin oNe (mCall V_told (aCons (mVar 1) aNil)) (mVar 4)) (mBin oNe (mB bRepr (vCons (mVar 1) vNil)) (mVar 5))) (sRet (mC (.bool false))) sNil)
  k__law_right_6)
def k__law_right_8 : MS := (sSeq (sAppO (mCallO F_told (aCons (mVar 1) aNil)) (mC .none))
  k__law_right_7)
def k__law_right_9 : MS := (sSeq (sIf (mBin oNe (mB bRepr (vCons (mLst (aCons (mCall V_told (aCons (mVar 1) aNil)) (aCons (mCallK V_told aNil (aCons (mB bTuple (vCons (mVar 1) vNil)) aNil) [0]) (aCons (mCall F_degree (aCons (mVar 1) aNil)) (aCons (mCallK F_degree aNil (aCons (mB bTuple (vCons (mVar 1) vNil)) aNil) [0]) aNil))))) vNil)) (mB bRepr (vCons (mLst (aCons (mVar 4) (aCons (mVar 4) (aCons (mBin oSub (mVar 6) (mC (.int 1))) (aCons (mBin oSub (mVar 6) (mC (.int 1))) aNil))))) vNil))) (sRet (mC (.bool false))) sNil)
  k__law_right_8)
def k__law_right_10 : MS := (sSeq (sPar2 4 5 false false (mCut (mVar 1) oNone (oSome (mVar 6))) (mB bRepr (vCons (mVar 1) vNil)))
  k__law_right_9)
def k__law_right_11 : MS := (sSeq (sSet 6 (mB bLen (vCons (mLc (iRange1 (mB bLen (vCons (mVar 1) vNil))) (.nm 14) [14] (mB bAny (vCons (mLc (iSeq (mCut (mVar 1) (oSome (mVar 14)) oNone)) (.nm 16) [16] (mC (.bool true)) (mBin oNe (mVar 16) (mTup (aCons (mC (.int 0)) (aCons (mC (.int 1)) aNil))))) vNil)) (mVar 14)) vNil)))
  k__law_right_10)
def k__law_right_12 : MS := (sSeq (sFor (iSeq (mBin oAdd (mVar 2) (mLc (iRange1 (mC (.int 16))) (.nm 15) [15] (mC (.bool true)) (mDraw F__law_bent (aCons (mVar 1) aNil))))) (.nm 3) b__law_right_1)
  k__law_right_11)
def k__law_right_13 : MS := (sSeq (sSet 2 (mLst (aCons (mVar 1) (aCons (mB bTuple (vCons (mVar 1) vNil)) (aCons (mC .none) (aCons (mC (.int 0)) (aCons (mTup aNil) (aCons (mLst aNil) (aCons (mC (.dict [])) (aCons (mC (.str "poly")) (aCons (mBin oMul (mLst (aCons (mTup (aCons (mC (.int 1)) (aCons (mC (.int 1)) aNil))) aNil)) (mC (.int 6))) (aCons (mBin oMul (mLst (aCons (mTup (aCons (mC (.int 1)) (aCons (mC (.int 1)) aNil))) aNil)) (mC (.int 5))) (aCons (mTup (aCons (mC (.int 1)) (aCons (mC (.int 2)) aNil))) (aCons (mTup (aCons (mTup (aCons (mC (.int 1)) (aCons (mC (.int 2)) aNil))) aNil)) (aCons (mLst (aCons (mTup (aCons (mBin oPow (mC (.int 10)) (mC (.int 15))) (aCons (mC (.int 1)) aNil))) aNil)) (aCons (mLst (aCons (mTup (aCons (mC (.int 1)) (aCons (mBin oPow (mC (.int 10)) (mC (.int 15))) aNil))) aNil)) (aCons (mLst (aCons (mC .none) aNil)) (aCons (mLst (aCons (mTup (aCons (mC (.int 1)) (aCons (mC (.int 1)) aNil))) aNil)) aNil))))))))))))))))))
  k__law_right_12)
def m__law_right : MS := (sSeq (sSet 1 (mLc (iRange1 (mDraw F__law_draw (aCons (mC (.int 6)) aNil))) (.nm 14) [14] (mC (.bool true)) (mDraw F__law_fraction aNil)))
  k__law_right_13)
def F__law_right : PD := runD 1 17 m__law_right
def m_law : MS := (sRet (mB bAll (vCons (mLc (iRange1 (mB bMax (vCons (mC (.int 1)) (vCons (mB bMin (vCons (mC (.int 3)) (vCons (mLenF 0) vNil))) vNil)))) (.nm 1) [1] (mC (.bool true)) (mRP F__law_pot 0 (aCons (mVar 1) aNil) F__law_right)) vNil)))
def F_law : List Int → R D := runF 2 m_law
end L_k11

namespace L_k11
open BP
open PySem PySem.Spec
open PyProof.Rows
open L2 (V Hp HO TE TT TA TS TG TI It Ends Cx PE PT PW PA PS PSs PG PI Inv upd upd_same upd_ne OpR UnR CallR Same VK XK Sp Room Vals RelV FnScope PK CX0 E0)
/-! ### the text -/
def top (i : Nat) : Stmt := PySem.Challenge.pw_bentpieces_k11_any_value_as_poly_and_tol.main.body.getD i (.Pass ⟨0, 0, 0, 0⟩)
abbrev s__law_pot : Stmt := top 60
theorem sc__law_pot : FnScope ["script", "k", "cell"] ["script", "k"] (L2.defScope s__law_pot) := ⟨rfl, rfl, rfl, by decide +kernel, rfl, by decide +kernel, by decide +kernel⟩
def d__law_pot : He.DefD := ⟨("_law_pot", none), "_law_pot", "_law_pot", L2.defArgs s__law_pot, L2.defBody s__law_pot, L2.defScope s__law_pot, [], []⟩
abbrev s_is_list : Stmt := top 10
theorem sc_is_list : FnScope ["value"] ["value"] (L2.defScope s_is_list) := ⟨rfl, rfl, rfl, by decide +kernel, rfl, by decide +kernel, by decide +kernel⟩
def d_is_list : He.DefD := ⟨("is_list", none), "is_list", "is_list", L2.defArgs s_is_list, L2.defBody s_is_list, L2.defScope s_is_list, [], []⟩
abbrev s_is_integer : Stmt := top 9
theorem sc_is_integer : FnScope ["value"] ["value"] (L2.defScope s_is_integer) := ⟨rfl, rfl, rfl, by decide +kernel, rfl, by decide +kernel, by decide +kernel⟩
def d_is_integer : He.DefD := ⟨("is_integer", none), "is_integer", "is_integer", L2.defArgs s_is_integer, L2.defBody s_is_integer, L2.defScope s_is_integer, [], []⟩
abbrev s_divisor : Stmt := top 11
theorem sc_divisor : FnScope ["one", "late"] ["one", "late"] (L2.defScope s_divisor) := ⟨rfl, rfl, rfl, by decide +kernel, rfl, by decide +kernel, by decide +kernel⟩
def d_divisor : He.DefD := ⟨("divisor", none), "divisor", "divisor", L2.defArgs s_divisor, L2.defBody s_divisor, L2.defScope s_divisor, [], []⟩
abbrev s_is_fraction_of : Stmt := top 12
theorem sc_is_fraction_of : FnScope ["value"] ["value"] (L2.defScope s_is_fraction_of) := ⟨rfl, rfl, rfl, by decide +kernel, rfl, by decide +kernel, by decide +kernel⟩
def d_is_fraction_of : He.DefD := ⟨("is_fraction_of", none), "is_fraction_of", "is_fraction_of", L2.defArgs s_is_fraction_of, L2.defBody s_is_fraction_of, L2.defScope s_is_fraction_of, [], []⟩
abbrev s_are_fractions : Stmt := top 15
theorem sc_are_fractions : FnScope ["value", "one"] ["value"] (L2.defScope s_are_fractions) := ⟨rfl, rfl, rfl, by decide +kernel, rfl, by decide +kernel, by decide +kernel⟩
def d_are_fractions : He.DefD := ⟨("are_fractions", none), "are_fractions", "are_fractions", L2.defArgs s_are_fractions, L2.defBody s_are_fractions, L2.defScope s_are_fractions, [], []⟩
abbrev s_is_poly_of : Stmt := top 28
theorem sc_is_poly_of : FnScope ["value"] ["value"] (L2.defScope s_is_poly_of) := ⟨rfl, rfl, rfl, by decide +kernel, rfl, by decide +kernel, by decide +kernel⟩
def d_is_poly_of : He.DefD := ⟨("is_poly_of", none), "is_poly_of", "is_poly_of", L2.defArgs s_is_poly_of, L2.defBody s_is_poly_of, L2.defScope s_is_poly_of, [], []⟩
abbrev s_is_poly : Stmt := top 44
theorem sc_is_poly : FnScope ["value"] ["value"] (L2.defScope s_is_poly) := ⟨rfl, rfl, rfl, by decide +kernel, rfl, by decide +kernel, by decide +kernel⟩
def d_is_poly : He.DefD := ⟨("is_poly", none), "is_poly", "is_poly", L2.defArgs s_is_poly, L2.defBody s_is_poly, L2.defScope s_is_poly, [], []⟩
abbrev s_is_small : Stmt := top 13
theorem sc_is_small : FnScope ["value"] ["value"] (L2.defScope s_is_small) := ⟨rfl, rfl, rfl, by decide +kernel, rfl, by decide +kernel, by decide +kernel⟩
def d_is_small : He.DefD := ⟨("is_small", none), "is_small", "is_small", L2.defArgs s_is_small, L2.defBody s_is_small, L2.defScope s_is_small, [], []⟩
abbrev s_are_small : Stmt := top 16
theorem sc_are_small : FnScope ["value", "one"] ["value"] (L2.defScope s_are_small) := ⟨rfl, rfl, rfl, by decide +kernel, rfl, by decide +kernel, by decide +kernel⟩
def d_are_small : He.DefD := ⟨("are_small", none), "are_small", "are_small", L2.defArgs s_are_small, L2.defBody s_are_small, L2.defScope s_are_small, [], []⟩
abbrev s_check_poly : Stmt := top 29
theorem sc_check_poly : FnScope ["value"] ["value"] (L2.defScope s_check_poly) := ⟨rfl, rfl, rfl, by decide +kernel, rfl, by decide +kernel, by decide +kernel⟩
def d_check_poly : He.DefD := ⟨("check_poly", none), "check_poly", "check_poly", L2.defArgs s_check_poly, L2.defBody s_check_poly, L2.defScope s_check_poly, [], []⟩
abbrev s_told_of : Stmt := top 34
theorem sc_told_of : FnScope ["poly", "found"] ["poly"] (L2.defScope s_told_of) := ⟨rfl, rfl, rfl, by decide +kernel, rfl, by decide +kernel, by decide +kernel⟩
def d_told_of : He.DefD := ⟨("told_of", none), "told_of", "told_of", L2.defArgs s_told_of, L2.defBody s_told_of, L2.defScope s_told_of, [], []⟩
abbrev s_told : Stmt := top 45
theorem sc_told : FnScope ["poly"] ["poly"] (L2.defScope s_told) := ⟨rfl, rfl, rfl, by decide +kernel, rfl, by decide +kernel, by decide +kernel⟩
def d_told : He.DefD := ⟨("told", none), "told", "told", L2.defArgs s_told, L2.defBody s_told, L2.defScope s_told, [], []⟩
abbrev s_degree : Stmt := top 46
theorem sc_degree : FnScope ["poly"] ["poly"] (L2.defScope s_degree) := ⟨rfl, rfl, rfl, by decide +kernel, rfl, by decide +kernel, by decide +kernel⟩
def d_degree : He.DefD := ⟨("degree", none), "degree", "degree", L2.defArgs s_degree, L2.defBody s_degree, L2.defScope s_degree, [], []⟩
abbrev s_check_spot : Stmt := top 31
theorem sc_check_spot : FnScope ["value"] ["value"] (L2.defScope s_check_spot) := ⟨rfl, rfl, rfl, by decide +kernel, rfl, by decide +kernel, by decide +kernel⟩
def d_check_spot : He.DefD := ⟨("check_spot", none), "check_spot", "check_spot", L2.defArgs s_check_spot, L2.defBody s_check_spot, L2.defScope s_check_spot, [], []⟩
abbrev s_reduced : Stmt := top 19
theorem sc_reduced : FnScope ["top", "bottom", "common"] ["top", "bottom"] (L2.defScope s_reduced) := ⟨rfl, rfl, rfl, by decide +kernel, rfl, by decide +kernel, by decide +kernel⟩
def d_reduced : He.DefD := ⟨("reduced", none), "reduced", "reduced", L2.defArgs s_reduced, L2.defBody s_reduced, L2.defScope s_reduced, [], []⟩
abbrev s_add : Stmt := top 20
theorem sc_add : FnScope ["one", "late"] ["one", "late"] (L2.defScope s_add) := ⟨rfl, rfl, rfl, by decide +kernel, rfl, by decide +kernel, by decide +kernel⟩
def d_add : He.DefD := ⟨("add", none), "add", "add", L2.defArgs s_add, L2.defBody s_add, L2.defScope s_add, [], []⟩
abbrev s_multiply : Stmt := top 22
theorem sc_multiply : FnScope ["one", "late"] ["one", "late"] (L2.defScope s_multiply) := ⟨rfl, rfl, rfl, by decide +kernel, rfl, by decide +kernel, by decide +kernel⟩
def d_multiply : He.DefD := ⟨("multiply", none), "multiply", "multiply", L2.defArgs s_multiply, L2.defBody s_multiply, L2.defScope s_multiply, [], []⟩
abbrev s_value_of : Stmt := top 35
theorem sc_value_of : FnScope ["poly", "spot", "found", "one"] ["poly", "spot"] (L2.defScope s_value_of) := ⟨rfl, rfl, rfl, by decide +kernel, rfl, by decide +kernel, by decide +kernel⟩
def d_value_of : He.DefD := ⟨("value_of", none), "value_of", "value_of", L2.defArgs s_value_of, L2.defBody s_value_of, L2.defScope s_value_of, [], []⟩
abbrev s_value_at : Stmt := top 47
theorem sc_value_at : FnScope ["poly", "spot"] ["poly", "spot"] (L2.defScope s_value_at) := ⟨rfl, rfl, rfl, by decide +kernel, rfl, by decide +kernel, by decide +kernel⟩
def d_value_at : He.DefD := ⟨("value_at", none), "value_at", "value_at", L2.defArgs s_value_at, L2.defBody s_value_at, L2.defScope s_value_at, [], []⟩
abbrev s_check_polys : Stmt := top 30
theorem sc_check_polys : FnScope ["poly", "other"] ["poly", "other"] (L2.defScope s_check_polys) := ⟨rfl, rfl, rfl, by decide +kernel, rfl, by decide +kernel, by decide +kernel⟩
def d_check_polys : He.DefD := ⟨("check_polys", none), "check_polys", "check_polys", L2.defArgs s_check_polys, L2.defBody s_check_polys, L2.defScope s_check_polys, [], []⟩
abbrev s_plus_of : Stmt := top 36
theorem sc_plus_of : FnScope ["poly", "other", "many", "near", "far", "one", "late"] ["poly", "other"] (L2.defScope s_plus_of) := ⟨rfl, rfl, rfl, by decide +kernel, rfl, by decide +kernel, by decide +kernel⟩
def d_plus_of : He.DefD := ⟨("plus_of", none), "plus_of", "plus_of", L2.defArgs s_plus_of, L2.defBody s_plus_of, L2.defScope s_plus_of, [], []⟩
abbrev s_plus : Stmt := top 48
theorem sc_plus : FnScope ["poly", "other"] ["poly", "other"] (L2.defScope s_plus) := ⟨rfl, rfl, rfl, by decide +kernel, rfl, by decide +kernel, by decide +kernel⟩
def d_plus : He.DefD := ⟨("plus", none), "plus", "plus", L2.defArgs s_plus, L2.defBody s_plus, L2.defScope s_plus, [], []⟩
abbrev s_turned : Stmt := top 24
theorem sc_turned : FnScope ["one"] ["one"] (L2.defScope s_turned) := ⟨rfl, rfl, rfl, by decide +kernel, rfl, by decide +kernel, by decide +kernel⟩
def d_turned : He.DefD := ⟨("turned", none), "turned", "turned", L2.defArgs s_turned, L2.defBody s_turned, L2.defScope s_turned, [], []⟩
abbrev s_minus_of : Stmt := top 37
theorem sc_minus_of : FnScope ["poly", "other", "one"] ["poly", "other"] (L2.defScope s_minus_of) := ⟨rfl, rfl, rfl, by decide +kernel, rfl, by decide +kernel, by decide +kernel⟩
def d_minus_of : He.DefD := ⟨("minus_of", none), "minus_of", "minus_of", L2.defArgs s_minus_of, L2.defBody s_minus_of, L2.defScope s_minus_of, [], []⟩
abbrev s_minus : Stmt := top 49
theorem sc_minus : FnScope ["poly", "other"] ["poly", "other"] (L2.defScope s_minus) := ⟨rfl, rfl, rfl, by decide +kernel, rfl, by decide +kernel, by decide +kernel⟩
def d_minus : He.DefD := ⟨("minus", none), "minus", "minus", L2.defArgs s_minus, L2.defBody s_minus, L2.defScope s_minus, [], []⟩
abbrev s_times_of : Stmt := top 38
theorem sc_times_of : FnScope ["poly", "other", "found", "at", "one", "late_at", "late"] ["poly", "other"] (L2.defScope s_times_of) := ⟨rfl, rfl, rfl, by decide +kernel, rfl, by decide +kernel, by decide +kernel⟩
def d_times_of : He.DefD := ⟨("times_of", none), "times_of", "times_of", L2.defArgs s_times_of, L2.defBody s_times_of, L2.defScope s_times_of, [], []⟩
abbrev s_times : Stmt := top 50
theorem sc_times : FnScope ["poly", "other"] ["poly", "other"] (L2.defScope s_times) := ⟨rfl, rfl, rfl, by decide +kernel, rfl, by decide +kernel, by decide +kernel⟩
def d_times : He.DefD := ⟨("times", none), "times", "times", L2.defArgs s_times, L2.defBody s_times, L2.defScope s_times, [], []⟩
abbrev s_derived_of : Stmt := top 39
theorem sc_derived_of : FnScope ["poly", "at", "one"] ["poly"] (L2.defScope s_derived_of) := ⟨rfl, rfl, rfl, by decide +kernel, rfl, by decide +kernel, by decide +kernel⟩
def d_derived_of : He.DefD := ⟨("derived_of", none), "derived_of", "derived_of", L2.defArgs s_derived_of, L2.defBody s_derived_of, L2.defScope s_derived_of, [], []⟩
abbrev s_derived : Stmt := top 51
theorem sc_derived : FnScope ["poly"] ["poly"] (L2.defScope s_derived) := ⟨rfl, rfl, rfl, by decide +kernel, rfl, by decide +kernel, by decide +kernel⟩
def d_derived : He.DefD := ⟨("derived", none), "derived", "derived", L2.defArgs s_derived, L2.defBody s_derived, L2.defScope s_derived, [], []⟩
abbrev s_divide : Stmt := top 23
theorem sc_divide : FnScope ["one", "late"] ["one", "late"] (L2.defScope s_divide) := ⟨rfl, rfl, rfl, by decide +kernel, rfl, by decide +kernel, by decide +kernel⟩
def d_divide : He.DefD := ⟨("divide", none), "divide", "divide", L2.defArgs s_divide, L2.defBody s_divide, L2.defScope s_divide, [], []⟩
abbrev s_summed_of : Stmt := top 40
theorem sc_summed_of : FnScope ["poly", "at", "one"] ["poly"] (L2.defScope s_summed_of) := ⟨rfl, rfl, rfl, by decide +kernel, rfl, by decide +kernel, by decide +kernel⟩
def d_summed_of : He.DefD := ⟨("summed_of", none), "summed_of", "summed_of", L2.defArgs s_summed_of, L2.defBody s_summed_of, L2.defScope s_summed_of, [], []⟩
abbrev s_summed : Stmt := top 52
theorem sc_summed : FnScope ["poly"] ["poly"] (L2.defScope s_summed) := ⟨rfl, rfl, rfl, by decide +kernel, rfl, by decide +kernel, by decide +kernel⟩
def d_summed : He.DefD := ⟨("summed", none), "summed", "summed", L2.defArgs s_summed, L2.defBody s_summed, L2.defScope s_summed, [], []⟩
abbrev s_moved_of : Stmt := top 41
theorem sc_moved_of : FnScope ["poly", "spot", "found", "one"] ["poly", "spot"] (L2.defScope s_moved_of) := ⟨rfl, rfl, rfl, by decide +kernel, rfl, by decide +kernel, by decide +kernel⟩
def d_moved_of : He.DefD := ⟨("moved_of", none), "moved_of", "moved_of", L2.defArgs s_moved_of, L2.defBody s_moved_of, L2.defScope s_moved_of, [], []⟩
abbrev s_moved : Stmt := top 53
theorem sc_moved : FnScope ["poly", "spot"] ["poly", "spot"] (L2.defScope s_moved) := ⟨rfl, rfl, rfl, by decide +kernel, rfl, by decide +kernel, by decide +kernel⟩
def d_moved : He.DefD := ⟨("moved", none), "moved", "moved", L2.defArgs s_moved, L2.defBody s_moved, L2.defScope s_moved, [], []⟩
abbrev s_check_fraction : Stmt := top 14
theorem sc_check_fraction : FnScope ["value"] ["value"] (L2.defScope s_check_fraction) := ⟨rfl, rfl, rfl, by decide +kernel, rfl, by decide +kernel, by decide +kernel⟩
def d_check_fraction : He.DefD := ⟨("check_fraction", none), "check_fraction", "check_fraction", L2.defArgs s_check_fraction, L2.defBody s_check_fraction, L2.defScope s_check_fraction, [], []⟩
abbrev s_stretched_of : Stmt := top 42
theorem sc_stretched_of : FnScope ["poly", "fraction", "found", "power", "one"] ["poly", "fraction"] (L2.defScope s_stretched_of) := ⟨rfl, rfl, rfl, by decide +kernel, rfl, by decide +kernel, by decide +kernel⟩
def d_stretched_of : He.DefD := ⟨("stretched_of", none), "stretched_of", "stretched_of", L2.defArgs s_stretched_of, L2.defBody s_stretched_of, L2.defScope s_stretched_of, [], []⟩
abbrev s_stretched : Stmt := top 54
theorem sc_stretched : FnScope ["poly", "fraction"] ["poly", "fraction"] (L2.defScope s_stretched) := ⟨rfl, rfl, rfl, by decide +kernel, rfl, by decide +kernel, by decide +kernel⟩
def d_stretched : He.DefD := ⟨("stretched", none), "stretched", "stretched", L2.defArgs s_stretched, L2.defBody s_stretched, L2.defScope s_stretched, [], []⟩
abbrev s_is_below : Stmt := top 25
theorem sc_is_below : FnScope ["one", "late"] ["one", "late"] (L2.defScope s_is_below) := ⟨rfl, rfl, rfl, by decide +kernel, rfl, by decide +kernel, by decide +kernel⟩
def d_is_below : He.DefD := ⟨("is_below", none), "is_below", "is_below", L2.defArgs s_is_below, L2.defBody s_is_below, L2.defScope s_is_below, [], []⟩
abbrev s_is_stretch_of : Stmt := top 32
theorem sc_is_stretch_of : FnScope ["value", "one"] ["value"] (L2.defScope s_is_stretch_of) := ⟨rfl, rfl, rfl, by decide +kernel, rfl, by decide +kernel, by decide +kernel⟩
def d_is_stretch_of : He.DefD := ⟨("is_stretch_of", none), "is_stretch_of", "is_stretch_of", L2.defArgs s_is_stretch_of, L2.defBody s_is_stretch_of, L2.defScope s_is_stretch_of, [], []⟩
abbrev s_check_stretch : Stmt := top 33
theorem sc_check_stretch : FnScope ["value"] ["value"] (L2.defScope s_check_stretch) := ⟨rfl, rfl, rfl, by decide +kernel, rfl, by decide +kernel, by decide +kernel⟩
def d_check_stretch : He.DefD := ⟨("check_stretch", none), "check_stretch", "check_stretch", L2.defArgs s_check_stretch, L2.defBody s_check_stretch, L2.defScope s_check_stretch, [], []⟩
abbrev s_take : Stmt := top 21
theorem sc_take : FnScope ["one", "late"] ["one", "late"] (L2.defScope s_take) := ⟨rfl, rfl, rfl, by decide +kernel, rfl, by decide +kernel, by decide +kernel⟩
def d_take : He.DefD := ⟨("take", none), "take", "take", L2.defArgs s_take, L2.defBody s_take, L2.defScope s_take, [], []⟩
abbrev s_area_of : Stmt := top 43
theorem sc_area_of : FnScope ["poly", "low", "high", "whole"] ["poly", "low", "high"] (L2.defScope s_area_of) := ⟨rfl, rfl, rfl, by decide +kernel, rfl, by decide +kernel, by decide +kernel⟩
def d_area_of : He.DefD := ⟨("area_of", none), "area_of", "area_of", L2.defArgs s_area_of, L2.defBody s_area_of, L2.defScope s_area_of, [], []⟩
abbrev s_area : Stmt := top 55
theorem sc_area : FnScope ["poly", "stretch"] ["poly", "stretch"] (L2.defScope s_area) := ⟨rfl, rfl, rfl, by decide +kernel, rfl, by decide +kernel, by decide +kernel⟩
def d_area : He.DefD := ⟨("area", none), "area", "area", L2.defArgs s_area, L2.defBody s_area, L2.defScope s_area, [], []⟩
abbrev s_divided_of : Stmt := top 57
theorem sc_divided_of : FnScope ["poly", "other", "rest", "below", "found", "at", "share"] ["poly", "other"] (L2.defScope s_divided_of) := ⟨rfl, rfl, rfl, by decide +kernel, rfl, by decide +kernel, by decide +kernel⟩
def d_divided_of : He.DefD := ⟨("divided_of", none), "divided_of", "divided_of", L2.defArgs s_divided_of, L2.defBody s_divided_of, L2.defScope s_divided_of, [], []⟩
abbrev s_does_divide : Stmt := top 58
theorem sc_does_divide : FnScope ["poly", "other"] ["poly", "other"] (L2.defScope s_does_divide) := ⟨rfl, rfl, rfl, by decide +kernel, rfl, by decide +kernel, by decide +kernel⟩
def d_does_divide : He.DefD := ⟨("does_divide", none), "does_divide", "does_divide", L2.defArgs s_does_divide, L2.defBody s_does_divide, L2.defScope s_does_divide, [], []⟩
abbrev s__law_draw : Stmt := top 61
theorem sc__law_draw : FnScope ["pot", "many", "digit"] ["pot", "many"] (L2.defScope s__law_draw) := ⟨rfl, rfl, rfl, by decide +kernel, rfl, by decide +kernel, by decide +kernel⟩
def d__law_draw : He.DefD := ⟨("_law_draw", none), "_law_draw", "_law_draw", L2.defArgs s__law_draw, L2.defBody s__law_draw, L2.defScope s__law_draw, [], []⟩
abbrev s__law_pick : Stmt := top 62
theorem sc__law_pick : FnScope ["pot", "some"] ["pot", "some"] (L2.defScope s__law_pick) := ⟨rfl, rfl, rfl, by decide +kernel, rfl, by decide +kernel, by decide +kernel⟩
def d__law_pick : He.DefD := ⟨("_law_pick", none), "_law_pick", "_law_pick", L2.defArgs s__law_pick, L2.defBody s__law_pick, L2.defScope s__law_pick, [], []⟩
abbrev s__law_divisor : Stmt := top 63
theorem sc__law_divisor : FnScope ["one", "late"] ["one", "late"] (L2.defScope s__law_divisor) := ⟨rfl, rfl, rfl, by decide +kernel, rfl, by decide +kernel, by decide +kernel⟩
def d__law_divisor : He.DefD := ⟨("_law_divisor", none), "_law_divisor", "_law_divisor", L2.defArgs s__law_divisor, L2.defBody s__law_divisor, L2.defScope s__law_divisor, [], []⟩
abbrev s__law_cut : Stmt := top 64
theorem sc__law_cut : FnScope ["top", "bottom", "whole"] ["top", "bottom"] (L2.defScope s__law_cut) := ⟨rfl, rfl, rfl, by decide +kernel, rfl, by decide +kernel, by decide +kernel⟩
def d__law_cut : He.DefD := ⟨("_law_cut", none), "_law_cut", "_law_cut", L2.defArgs s__law_cut, L2.defBody s__law_cut, L2.defScope s__law_cut, [], []⟩
abbrev s__law_fraction : Stmt := top 65
theorem sc__law_fraction : FnScope ["pot", "far"] ["pot"] (L2.defScope s__law_fraction) := ⟨rfl, rfl, rfl, by decide +kernel, rfl, by decide +kernel, by decide +kernel⟩
def d__law_fraction : He.DefD := ⟨("_law_fraction", none), "_law_fraction", "_law_fraction", L2.defArgs s__law_fraction, L2.defBody s__law_fraction, L2.defScope s__law_fraction, [], []⟩
abbrev s__law_is_integer : Stmt := top 66
theorem sc__law_is_integer : FnScope ["value"] ["value"] (L2.defScope s__law_is_integer) := ⟨rfl, rfl, rfl, by decide +kernel, rfl, by decide +kernel, by decide +kernel⟩
def d__law_is_integer : He.DefD := ⟨("_law_is_integer", none), "_law_is_integer", "_law_is_integer", L2.defArgs s__law_is_integer, L2.defBody s__law_is_integer, L2.defScope s__law_is_integer, [], []⟩
abbrev s__law_is_fraction : Stmt := top 67
theorem sc__law_is_fraction : FnScope ["value", "one"] ["value"] (L2.defScope s__law_is_fraction) := ⟨rfl, rfl, rfl, by decide +kernel, rfl, by decide +kernel, by decide +kernel⟩
def d__law_is_fraction : He.DefD := ⟨("_law_is_fraction", none), "_law_is_fraction", "_law_is_fraction", L2.defArgs s__law_is_fraction, L2.defBody s__law_is_fraction, L2.defScope s__law_is_fraction, [], []⟩
abbrev s__law_is_poly : Stmt := top 68
theorem sc__law_is_poly : FnScope ["value", "one"] ["value"] (L2.defScope s__law_is_poly) := ⟨rfl, rfl, rfl, by decide +kernel, rfl, by decide +kernel, by decide +kernel⟩
def d__law_is_poly : He.DefD := ⟨("_law_is_poly", none), "_law_is_poly", "_law_is_poly", L2.defArgs s__law_is_poly, L2.defBody s__law_is_poly, L2.defScope s__law_is_poly, [], []⟩
abbrev s__law_bent : Stmt := top 69
theorem sc__law_bent : FnScope ["pot", "value", "at", "way", "one"] ["pot", "value"] (L2.defScope s__law_bent) := ⟨rfl, rfl, rfl, by decide +kernel, rfl, by decide +kernel, by decide +kernel⟩
def d__law_bent : He.DefD := ⟨("_law_bent", none), "_law_bent", "_law_bent", L2.defArgs s__law_bent, L2.defBody s__law_bent, L2.defScope s__law_bent, [], []⟩
abbrev s__law_right : Stmt := top 70
theorem sc__law_right : FnScope ["pot", "poly", "values", "value", "due", "shown", "size", "long", "other", "spot", "stretch", "near", "rows", "late", "at", "turn", "one"] ["pot"] (L2.defScope s__law_right) := ⟨rfl, rfl, rfl, by decide +kernel, rfl, by decide +kernel, by decide +kernel⟩
def d__law_right : He.DefD := ⟨("_law_right", none), "_law_right", "_law_right", L2.defArgs s__law_right, L2.defBody s__law_right, L2.defScope s__law_right, [], []⟩
abbrev s_law : Stmt := top 71
theorem sc_law : FnScope ["script", "k"] ["script"] (L2.defScope s_law) := ⟨rfl, rfl, rfl, by decide +kernel, rfl, by decide +kernel, by decide +kernel⟩
def d_law : He.DefD := ⟨("law", none), "law", "law", L2.defArgs s_law, L2.defBody s_law, L2.defScope s_law, [], []⟩
def fn : List He.DefD := [d__law_pot, d_is_list, d_is_integer, d_divisor, d_is_fraction_of, d_are_fractions, d_is_poly_of, d_is_poly, d_is_small, d_are_small, d_check_poly, d_told_of, d_told, d_degree, d_check_spot, d_reduced, d_add, d_multiply, d_value_of, d_value_at, d_check_polys, d_plus_of, d_plus, d_turned, d_minus_of, d_minus, d_times_of, d_times, d_derived_of, d_derived, d_divide, d_summed_of, d_summed, d_moved_of, d_moved, d_check_fraction, d_stretched_of, d_stretched, d_is_below, d_is_stretch_of, d_check_stretch, d_take, d_area_of, d_area, d_divided_of, d_does_divide, d__law_draw, d__law_pick, d__law_divisor, d__law_cut, d__law_fraction, d__law_is_integer, d__law_is_fraction, d__law_is_poly, d__law_bent, d__law_right, d_law]
def fa : List He.Fa := [.glo "_law_pot", .glo "is_list", .glo "is_integer", .glo "divisor", .glo "is_fraction_of", .glo "are_fractions", .glo "is_poly_of", .glo "is_poly", .glo "is_small", .glo "are_small", .glo "check_poly", .glo "told_of", .glo "told", .glo "degree", .glo "check_spot", .glo "reduced", .glo "add", .glo "multiply", .glo "value_of", .glo "value_at", .glo "check_polys", .glo "plus_of", .glo "plus", .glo "turned", .glo "minus_of", .glo "minus", .glo "times_of", .glo "times", .glo "derived_of", .glo "derived", .glo "divide", .glo "summed_of", .glo "summed", .glo "moved_of", .glo "moved", .glo "check_fraction", .glo "stretched_of", .glo "stretched", .glo "is_below", .glo "is_stretch_of", .glo "check_stretch", .glo "take", .glo "area_of", .glo "area", .glo "divided_of", .glo "does_divide", .glo "_law_draw", .glo "_law_pick", .glo "_law_divisor", .glo "_law_cut", .glo "_law_fraction", .glo "_law_is_integer", .glo "_law_is_fraction", .glo "_law_is_poly", .glo "_law_bent", .glo "_law_right", .glo "law", .free "abs", .free "all", .free "any", .free "bool", .free "divmod", .free "enumerate", .free "int", .free "isinstance", .free "len", .free "list", .free "max", .free "min", .free "range", .free "repr", .free "tuple", .free "zip"]
abbrev ifr_abs : Nat := 57
abbrev ifr_all : Nat := 58
abbrev ifr_any : Nat := 59
abbrev ifr_bool : Nat := 60
abbrev ifr_divmod : Nat := 61
abbrev ifr_enumerate : Nat := 62
abbrev ifr_int : Nat := 63
abbrev ifr_isinstance : Nat := 64
abbrev ifr_len : Nat := 65
abbrev ifr_list : Nat := 66
abbrev ifr_max : Nat := 67
abbrev ifr_min : Nat := 68
abbrev ifr_range : Nat := 69
abbrev ifr_repr : Nat := 70
abbrev ifr_tuple : Nat := 71
abbrev ifr_zip : Nat := 72
def tu : List (Str × D) := [("MOST_TOP", (.int 999)), ("MOST_BOTTOM", (.int 99)), ("NOUGHT", (.tuple [(.int 0), (.int 1)])), ("MOST_NUMBERS", (.int 5))]
section
variable {P : Program} {w : World} {K : W.Frag} {mg : Str → Option Value} {base : Heap}
theorem T__law_pot (c : Facts fa fn tu K mg base) : POn P w K mg base 1 "_law_pot" ["script", "k"] s__law_pot F__law_pot := by
  obtain ⟨fd, F⟩ := c.says.1.def_ 0 (d := d__law_pot) rfl
  exact fnO (y := "script") (N := ["k", "cell"]) (c.glo 0) F (F.bindsN fun _ _ _ _ _ _ us hl => match us, hl with | [_, _], _ => rfl) sc__law_pot rfl (by decide) fun cdv A outer s0 H E hr hg => (so_cons (s_set 2 sc__law_pot.nd rfl (by first | exact .inl rfl | exact .inr rfl) (q_if (t_cmp om_lt (q_var 1) (q_lenF 0 (L2.pv 0) rfl (c.free ifr_len) (by decide +kernel)) (L2.nomark _)) (q_B cm_abs rfl (c.free ifr_abs) (by decide +kernel) (v_cons (q_ixF 0 (L2.pv 0) (q_var 1)) v_nil)) (q_bin om_add (q_bin om_mul q_int (q_var 1)) q_int))) (so_ret (q_lst (a_cons (q_B (cm_max rfl) rfl (c.free ifr_max) (by decide +kernel) (v_cons q_int (v_cons (q_bin om_sub (q_var 2) (q_bin om_pow q_int q_int)) v_nil))) (a_cons (q_bin om_add (q_bin om_mod (q_T cm_int rfl (c.free ifr_int) (by decide +kernel) (v_cons (q_bin om_add (q_bin om_add (q_bin om_mul (q_bin om_mod (q_T cm_int rfl (c.free ifr_int) (by decide +kernel) (v_cons (q_var 2) v_nil)) q_int) q_int) (q_bin om_mul q_int (q_var 1))) q_int) v_nil)) q_int) q_int) a_nil)))))
theorem T_is_list (c : Facts fa fn tu K mg base) : PFn P w K mg base 1 "is_list" ["value"] s_is_list F_is_list := by
  obtain ⟨fd, F⟩ := c.says.1.def_ 1 (d := d_is_list) rfl
  exact fnP (N := ["value"]) (c.glo 1) F (F.bindsN fun _ _ _ _ _ _ us hl => match us, hl with | [_], _ => rfl) sc_is_list rfl (by decide) fun cdv A outer s0 H E hr hg => (s_one (s_ret (q_isi2 hT_list hT_tuple (by intro d; cases d <;> rfl) (q_var 0) rfl (c.free ifr_isinstance) (L2.pe_bltn rfl (c.free ifr_list) (by decide +kernel) rfl (by decide) (by decide)) (L2.pe_bltn rfl (c.free ifr_tuple) (by decide +kernel) rfl (by decide) (by decide)) (by decide +kernel))))
theorem T_is_integer (c : Facts fa fn tu K mg base) : PFn P w K mg base 1 "is_integer" ["value"] s_is_integer F_is_integer := by
  obtain ⟨fd, F⟩ := c.says.1.def_ 2 (d := d_is_integer) rfl
  exact fnP (N := ["value"]) (c.glo 2) F (F.bindsN fun _ _ _ _ _ _ us hl => match us, hl with | [_], _ => rfl) sc_is_integer rfl (by decide) fun cdv A outer s0 H E hr hg => (s_one (s_ret (q_and (q_isi1 hT_int (q_var 0) rfl (c.free ifr_isinstance) rfl (c.free ifr_int) (by decide +kernel) (by decide +kernel)) (q_and1 (q_not (q_isi1 hT_bool (q_var 0) rfl (c.free ifr_isinstance) rfl (c.free ifr_bool) (by decide +kernel) (by decide +kernel)))))))
theorem T_divisor (c : Facts fa fn tu K mg base) : PFn P w K mg base 1 "divisor" ["one", "late"] s_divisor F_divisor := by
  obtain ⟨fd, F⟩ := c.says.1.def_ 3 (d := d_divisor) rfl
  exact fnP (N := ["one", "late"]) (c.glo 3) F (F.bindsN fun _ _ _ _ _ _ us hl => match us, hl with | [_, _], _ => rfl) sc_divisor rfl (by decide) fun cdv A outer s0 H E hr hg => (s_cons (s_while fuel_divisor_1 rfl (t_cmp om_gt (q_var 1) q_int (L2.nomark _)) (s_one (s_par2 0 1 false false rfl sc_divisor.nd rfl rfl (by decide) rfl rfl (q_var 1) (q_bin om_mod (q_T cm_int rfl (c.free ifr_int) (by decide +kernel) (v_cons (q_var 0) v_nil)) (q_var 1)) rfl)))
  (s_one (s_ret (q_var 0))))
theorem T_is_fraction_of (c : Facts fa fn tu K mg base) : PFn P w K mg base 2 "is_fraction_of" ["value"] s_is_fraction_of F_is_fraction_of := by
  obtain ⟨fd, F⟩ := c.says.1.def_ 4 (d := d_is_fraction_of) rfl
  exact fnP (N := ["value"]) (c.glo 4) F (F.bindsN fun _ _ _ _ _ _ us hl => match us, hl with | [_], _ => rfl) sc_is_fraction_of rfl (by decide) fun cdv A outer s0 H E hr hg => (s_cons (s_if (L2.PW.pt (w_or (t_not (t_val (q_isi1 hT_tuple (q_var 0) rfl (c.free ifr_isinstance) rfl (c.free ifr_tuple) (by decide +kernel) (by decide +kernel)))) (w_or (t_cmp (om_ne (u64 hr)) (q_B cm_len rfl (c.free ifr_len) (by decide +kernel) (v_cons (q_var 0) v_nil)) q_int (L2.nomark _)) (w_or (t_not (t_val (q_call (T_is_integer c) hr hg rfl (a_cons (q_ix (q_var 0) q_int) a_nil)))) (w_or1 (t_not (t_val (q_call (T_is_integer c) hr hg rfl (a_cons (q_ix (q_var 0) q_int) a_nil))))))))) (s_one (s_ret q_bl)) s_nil)
  (s_one (s_ret (q_and (q_cmp om_ge (q_ix (q_var 0) q_int) q_int (L2.nomark _)) (q_and1 (q_cmp (om_eq (u64 hr)) (q_call (T_divisor c) hr hg rfl (a_cons (q_B cm_abs rfl (c.free ifr_abs) (by decide +kernel) (v_cons (q_ix (q_var 0) q_int) v_nil)) (a_cons (q_ix (q_var 0) q_int) a_nil))) q_int (L2.nomark _)))))))
theorem T_are_fractions (c : Facts fa fn tu K mg base) : PFn P w K mg base 3 "are_fractions" ["value"] s_are_fractions F_are_fractions := by
  obtain ⟨fd, F⟩ := c.says.1.def_ 5 (d := d_are_fractions) rfl
  exact fnP (N := ["value", "one"]) (c.glo 5) F (F.bindsN fun _ _ _ _ _ _ us hl => match us, hl with | [_], _ => rfl) sc_are_fractions rfl (by decide) fun cdv A outer s0 H E hr hg => (s_one (s_ret (q_and (q_call (T_is_list c) hr hg rfl (a_cons (q_var 0) a_nil)) (q_and1 (q_B (cm_all rfl) rfl (c.free ifr_all) (by decide +kernel) (v_cons (q_lc (own := [("one", 1)]) rfl sc_are_fractions.nd (by decide +kernel) (i_seq (q_var 0)) (L2.blkOk_by (by kernel_rfl)) (fun _ _ _ _ _ => (g_nm 1 sc_are_fractions.nd rfl (by first | exact .inl rfl | exact .inr rfl))) (fun _ _ _ _ _ => ts_nil) (fun _ _ _ _ _ => (q_call (T_is_fraction_of c) hr hg rfl (a_cons (q_var 1) a_nil)))) v_nil))))))
theorem T_is_poly_of (c : Facts fa fn tu K mg base) : PFn P w K mg base 4 "is_poly_of" ["value"] s_is_poly_of F_is_poly_of := by
  obtain ⟨fd, F⟩ := c.says.1.def_ 6 (d := d_is_poly_of) rfl
  exact fnP (N := ["value"]) (c.glo 6) F (F.bindsN fun _ _ _ _ _ _ us hl => match us, hl with | [_], _ => rfl) sc_is_poly_of rfl (by decide) fun cdv A outer s0 H E hr hg => (s_one (s_ret (q_and (q_call (T_are_fractions c) hr hg rfl (a_cons (q_var 0) a_nil)) (q_and1 (q_cmp om_le (q_B cm_len rfl (c.free ifr_len) (by decide +kernel) (v_cons (q_var 0) v_nil)) (q_kst (c.kst 3) rfl) (L2.nomark _))))))
theorem T_is_poly (c : Facts fa fn tu K mg base) : PFn P w K mg base 5 "is_poly" ["value"] s_is_poly F_is_poly := by
  obtain ⟨fd, F⟩ := c.says.1.def_ 7 (d := d_is_poly) rfl
  exact fnP (N := ["value"]) (c.glo 7) F (F.bindsN fun _ _ _ _ _ _ us hl => match us, hl with | [_], _ => rfl) sc_is_poly rfl (by decide) fun cdv A outer s0 H E hr hg => (s_one (s_ret (q_call (T_is_poly_of c) hr hg rfl (a_cons (q_var 0) a_nil))))
theorem T_is_small (c : Facts fa fn tu K mg base) : PFn P w K mg base 3 "is_small" ["value"] s_is_small F_is_small := by
  obtain ⟨fd, F⟩ := c.says.1.def_ 8 (d := d_is_small) rfl
  exact fnP (N := ["value"]) (c.glo 8) F (F.bindsN fun _ _ _ _ _ _ us hl => match us, hl with | [_], _ => rfl) sc_is_small rfl (by decide) fun cdv A outer s0 H E hr hg => (s_one (s_ret (q_and (q_call (T_is_fraction_of c) hr hg rfl (a_cons (q_var 0) a_nil)) (q_and (q_cmp om_le (q_B cm_abs rfl (c.free ifr_abs) (by decide +kernel) (v_cons (q_ix (q_var 0) q_int) v_nil)) (q_kst (c.kst 0) rfl) (L2.nomark _)) (q_and1 (q_cmp om_le (q_ix (q_var 0) q_int) (q_kst (c.kst 1) rfl) (L2.nomark _)))))))
theorem T_are_small (c : Facts fa fn tu K mg base) : PFn P w K mg base 4 "are_small" ["value"] s_are_small F_are_small := by
  obtain ⟨fd, F⟩ := c.says.1.def_ 9 (d := d_are_small) rfl
  exact fnP (N := ["value", "one"]) (c.glo 9) F (F.bindsN fun _ _ _ _ _ _ us hl => match us, hl with | [_], _ => rfl) sc_are_small rfl (by decide) fun cdv A outer s0 H E hr hg => (s_one (s_ret (q_and (q_call (T_is_list c) hr hg rfl (a_cons (q_var 0) a_nil)) (q_and1 (q_B (cm_all rfl) rfl (c.free ifr_all) (by decide +kernel) (v_cons (q_lc (own := [("one", 1)]) rfl sc_are_small.nd (by decide +kernel) (i_seq (q_var 0)) (L2.blkOk_by (by kernel_rfl)) (fun _ _ _ _ _ => (g_nm 1 sc_are_small.nd rfl (by first | exact .inl rfl | exact .inr rfl))) (fun _ _ _ _ _ => ts_nil) (fun _ _ _ _ _ => (q_call (T_is_small c) hr hg rfl (a_cons (q_var 1) a_nil)))) v_nil))))))
theorem T_check_poly (c : Facts fa fn tu K mg base) : PFn P w K mg base 5 "check_poly" ["value"] s_check_poly F_check_poly := by
  obtain ⟨fd, F⟩ := c.says.1.def_ 10 (d := d_check_poly) rfl
  exact fnP (N := ["value"]) (c.glo 10) F (F.bindsN fun _ _ _ _ _ _ us hl => match us, hl with | [_], _ => rfl) sc_check_poly rfl (by decide) fun cdv A outer s0 H E hr hg => (s_one (s_if (L2.PW.pt (w_or (t_not (t_val (q_call (T_are_small c) hr hg rfl (a_cons (q_var 0) a_nil)))) (w_or1 (t_cmp om_gt (q_B cm_len rfl (c.free ifr_len) (by decide +kernel) (v_cons (q_var 0) v_nil)) (q_kst (c.kst 3) rfl) (L2.nomark _))))) (s_one s_never) s_nil))
theorem T_told_of (c : Facts fa fn tu K mg base) : PFnO P w K mg base 1 "told_of" ["poly"] s_told_of F_told_of := by
  obtain ⟨fd, F⟩ := c.says.1.def_ 11 (d := d_told_of) rfl
  exact fnPo (N := ["poly", "found"]) (c.glo 11) F (F.bindsN fun _ _ _ _ _ _ us hl => match us, hl with | [_], _ => rfl) sc_told_of rfl (by decide) fun cdv A outer s0 H E hr hg => (s_cons (s_own 1 sc_told_of.nd rfl (by first | exact .inl rfl | exact .inr rfl) (q_T cm_list rfl (c.free ifr_list) (by decide +kernel) (v_cons (q_var 0) v_nil)))
  (s_cons (s_while fuel_told_of_1 rfl (L2.PW.pt (w_and (t_cmp (om_ne (u64 hr)) (q_var 1) (q_lst a_nil) (L2.nomark _)) (w_and1 (t_cmp (om_eq (u64 hr)) (q_ix (q_var 1) (q_un um_neg q_int)) (q_kst (c.kst 2) rfl) (L2.nomark _))))) (s_one (s_pop 1 (L2.pv 1))))
  (s_one (s_retOwn 1 (L2.pv 1)))))
theorem T_told (c : Facts fa fn tu K mg base) : PFnO P w K mg base 6 "told" ["poly"] s_told F_told := by
  obtain ⟨fd, F⟩ := c.says.1.def_ 12 (d := d_told) rfl
  exact fnPo (N := ["poly"]) (c.glo 12) F (F.bindsN fun _ _ _ _ _ _ us hl => match us, hl with | [_], _ => rfl) sc_told rfl (by decide) fun cdv A outer s0 H E hr hg => (s_cons (s_expr (q_call (T_check_poly c) hr hg rfl (a_cons (q_var 0) a_nil)))
  (s_one (s_retF (q_callO (T_told_of c) hr hg rfl (a_cons (q_var 0) a_nil)))))
theorem T_degree (c : Facts fa fn tu K mg base) : PFn P w K mg base 6 "degree" ["poly"] s_degree F_degree := by
  obtain ⟨fd, F⟩ := c.says.1.def_ 13 (d := d_degree) rfl
  exact fnP (N := ["poly"]) (c.glo 13) F (F.bindsN fun _ _ _ _ _ _ us hl => match us, hl with | [_], _ => rfl) sc_degree rfl (by decide) fun cdv A outer s0 H E hr hg => (s_cons (s_expr (q_call (T_check_poly c) hr hg rfl (a_cons (q_var 0) a_nil)))
  (s_one (s_ret (q_bin om_sub (q_B cm_len rfl (c.free ifr_len) (by decide +kernel) (v_cons (q_call (T_told_of c).pf hr hg rfl (a_cons (q_var 0) a_nil)) v_nil)) q_int))))
theorem T_check_spot (c : Facts fa fn tu K mg base) : PFn P w K mg base 4 "check_spot" ["value"] s_check_spot F_check_spot := by
  obtain ⟨fd, F⟩ := c.says.1.def_ 14 (d := d_check_spot) rfl
  exact fnP (N := ["value"]) (c.glo 14) F (F.bindsN fun _ _ _ _ _ _ us hl => match us, hl with | [_], _ => rfl) sc_check_spot rfl (by decide) fun cdv A outer s0 H E hr hg => (s_one (s_if (t_not (t_val (q_call (T_is_small c) hr hg rfl (a_cons (q_var 0) a_nil)))) (s_one s_never) s_nil))
theorem T_reduced (c : Facts fa fn tu K mg base) : PFn P w K mg base 2 "reduced" ["top", "bottom"] s_reduced F_reduced := by
  obtain ⟨fd, F⟩ := c.says.1.def_ 15 (d := d_reduced) rfl
  exact fnP (N := ["top", "bottom", "common"]) (c.glo 15) F (F.bindsN fun _ _ _ _ _ _ us hl => match us, hl with | [_, _], _ => rfl) sc_reduced rfl (by decide) fun cdv A outer s0 H E hr hg => (s_cons (s_if (t_cmp om_lt (q_var 1) q_int (L2.nomark _)) (s_one (s_par2 0 1 false false rfl sc_reduced.nd rfl rfl (by decide) rfl rfl (q_bin om_sub q_int (q_var 0)) (q_bin om_sub q_int (q_var 1)) rfl)) s_nil)
  (s_cons (s_set 2 sc_reduced.nd rfl (by first | exact .inl rfl | exact .inr rfl) (q_call (T_divisor c) hr hg rfl (a_cons (q_B cm_abs rfl (c.free ifr_abs) (by decide +kernel) (v_cons (q_var 0) v_nil)) (a_cons (q_var 1) a_nil))))
  (s_one (s_ret (q_tup (a_cons (q_bin om_div (q_var 0) (q_var 2)) (a_cons (q_bin om_div (q_var 1) (q_var 2)) a_nil)))))))
theorem T_add (c : Facts fa fn tu K mg base) : PFn P w K mg base 3 "add" ["one", "late"] s_add F_add := by
  obtain ⟨fd, F⟩ := c.says.1.def_ 16 (d := d_add) rfl
  exact fnP (N := ["one", "late"]) (c.glo 16) F (F.bindsN fun _ _ _ _ _ _ us hl => match us, hl with | [_, _], _ => rfl) sc_add rfl (by decide) fun cdv A outer s0 H E hr hg => (s_one (s_ret (q_call (T_reduced c) hr hg rfl (a_cons (q_bin om_add (q_bin om_mul (q_ix (q_var 0) q_int) (q_ix (q_var 1) q_int)) (q_bin om_mul (q_ix (q_var 1) q_int) (q_ix (q_var 0) q_int))) (a_cons (q_bin om_mul (q_ix (q_var 0) q_int) (q_ix (q_var 1) q_int)) a_nil)))))
theorem T_multiply (c : Facts fa fn tu K mg base) : PFn P w K mg base 3 "multiply" ["one", "late"] s_multiply F_multiply := by
  obtain ⟨fd, F⟩ := c.says.1.def_ 17 (d := d_multiply) rfl
  exact fnP (N := ["one", "late"]) (c.glo 17) F (F.bindsN fun _ _ _ _ _ _ us hl => match us, hl with | [_, _], _ => rfl) sc_multiply rfl (by decide) fun cdv A outer s0 H E hr hg => (s_one (s_ret (q_call (T_reduced c) hr hg rfl (a_cons (q_bin om_mul (q_ix (q_var 0) q_int) (q_ix (q_var 1) q_int)) (a_cons (q_bin om_mul (q_ix (q_var 0) q_int) (q_ix (q_var 1) q_int)) a_nil)))))
theorem T_value_of (c : Facts fa fn tu K mg base) : PFn P w K mg base 4 "value_of" ["poly", "spot"] s_value_of F_value_of := by
  obtain ⟨fd, F⟩ := c.says.1.def_ 18 (d := d_value_of) rfl
  exact fnP (N := ["poly", "spot", "found", "one"]) (c.glo 18) F (F.bindsN fun _ _ _ _ _ _ us hl => match us, hl with | [_, _], _ => rfl) sc_value_of rfl (by decide) fun cdv A outer s0 H E hr hg => (s_cons (s_set 2 sc_value_of.nd rfl (by first | exact .inl rfl | exact .inr rfl) (q_kst (c.kst 2) rfl))
  (s_cons (s_for rfl rfl (i_seq (q_revL (q_T cm_list rfl (c.free ifr_list) (by decide +kernel) (v_cons (q_var 0) v_nil)))) (g_nm 3 sc_value_of.nd rfl (by first | exact .inl rfl | exact .inr rfl)) (s_one (s_set 2 sc_value_of.nd rfl (by first | exact .inl rfl | exact .inr rfl) (q_call (T_add c) hr hg rfl (a_cons (q_call (T_multiply c) hr hg rfl (a_cons (q_var 2) (a_cons (q_var 1) a_nil))) (a_cons (q_var 3) a_nil))))))
  (s_one (s_ret (q_var 2)))))
theorem T_value_at (c : Facts fa fn tu K mg base) : PFn P w K mg base 6 "value_at" ["poly", "spot"] s_value_at F_value_at := by
  obtain ⟨fd, F⟩ := c.says.1.def_ 19 (d := d_value_at) rfl
  exact fnP (N := ["poly", "spot"]) (c.glo 19) F (F.bindsN fun _ _ _ _ _ _ us hl => match us, hl with | [_, _], _ => rfl) sc_value_at rfl (by decide) fun cdv A outer s0 H E hr hg => (s_cons (s_expr (q_call (T_check_poly c) hr hg rfl (a_cons (q_var 0) a_nil)))
  (s_cons (s_expr (q_call (T_check_spot c) hr hg rfl (a_cons (q_var 1) a_nil)))
  (s_one (s_ret (q_call (T_value_of c) hr hg rfl (a_cons (q_var 0) (a_cons (q_var 1) a_nil)))))))
theorem T_check_polys (c : Facts fa fn tu K mg base) : PFn P w K mg base 6 "check_polys" ["poly", "other"] s_check_polys F_check_polys := by
  obtain ⟨fd, F⟩ := c.says.1.def_ 20 (d := d_check_polys) rfl
  exact fnP (N := ["poly", "other"]) (c.glo 20) F (F.bindsN fun _ _ _ _ _ _ us hl => match us, hl with | [_, _], _ => rfl) sc_check_polys rfl (by decide) fun cdv A outer s0 H E hr hg => (s_cons (s_expr (q_call (T_check_poly c) hr hg rfl (a_cons (q_var 0) a_nil)))
  (s_one (s_expr (q_call (T_check_poly c) hr hg rfl (a_cons (q_var 1) a_nil)))))
theorem T_plus_of (c : Facts fa fn tu K mg base) : PFn P w K mg base 4 "plus_of" ["poly", "other"] s_plus_of F_plus_of := by
  obtain ⟨fd, F⟩ := c.says.1.def_ 21 (d := d_plus_of) rfl
  exact fnP (N := ["poly", "other", "many", "near", "far", "one", "late"]) (c.glo 21) F (F.bindsN fun _ _ _ _ _ _ us hl => match us, hl with | [_, _], _ => rfl) sc_plus_of rfl (by decide) fun cdv A outer s0 H E hr hg => (s_cons (s_set 2 sc_plus_of.nd rfl (by first | exact .inl rfl | exact .inr rfl) (q_B (cm_max rfl) rfl (c.free ifr_max) (by decide +kernel) (v_cons (q_B cm_len rfl (c.free ifr_len) (by decide +kernel) (v_cons (q_var 0) v_nil)) (v_cons (q_B cm_len rfl (c.free ifr_len) (by decide +kernel) (v_cons (q_var 1) v_nil)) v_nil))))
  (s_cons (s_par2 3 4 false false rfl sc_plus_of.nd rfl rfl (by decide) rfl rfl (q_bin om_add (q_T cm_list rfl (c.free ifr_list) (by decide +kernel) (v_cons (q_var 0) v_nil)) (q_bin om_mul (q_lst (a_cons (q_kst (c.kst 2) rfl) a_nil)) (q_bin om_sub (q_var 2) (q_B cm_len rfl (c.free ifr_len) (by decide +kernel) (v_cons (q_var 0) v_nil))))) (q_bin om_add (q_T cm_list rfl (c.free ifr_list) (by decide +kernel) (v_cons (q_var 1) v_nil)) (q_bin om_mul (q_lst (a_cons (q_kst (c.kst 2) rfl) a_nil)) (q_bin om_sub (q_var 2) (q_B cm_len rfl (c.free ifr_len) (by decide +kernel) (v_cons (q_var 1) v_nil))))) rfl)
  (s_one (s_ret (q_call (T_told_of c).pf hr hg rfl (a_cons (q_lc (own := [("one", 5), ("late", 6)]) rfl sc_plus_of.nd (by decide +kernel) (i_zip rfl (c.free ifr_zip) (q_var 3) (q_var 4)) (L2.blkOk_by (by kernel_rfl)) (fun _ _ _ _ _ => (g_tp rfl (gs_cons (g_nm 5 sc_plus_of.nd rfl (by first | exact .inl rfl | exact .inr rfl)) (gs_cons (g_nm 6 sc_plus_of.nd rfl (by first | exact .inl rfl | exact .inr rfl)) gs_nil)))) (fun _ _ _ _ _ => ts_nil) (fun _ _ _ _ _ => (q_call (T_add c) hr hg rfl (a_cons (q_var 5) (a_cons (q_var 6) a_nil))))) a_nil))))))
theorem T_plus (c : Facts fa fn tu K mg base) : PFn P w K mg base 7 "plus" ["poly", "other"] s_plus F_plus := by
  obtain ⟨fd, F⟩ := c.says.1.def_ 22 (d := d_plus) rfl
  exact fnP (N := ["poly", "other"]) (c.glo 22) F (F.bindsN fun _ _ _ _ _ _ us hl => match us, hl with | [_, _], _ => rfl) sc_plus rfl (by decide) fun cdv A outer s0 H E hr hg => (s_cons (s_expr (q_call (T_check_polys c) hr hg rfl (a_cons (q_var 0) (a_cons (q_var 1) a_nil))))
  (s_one (s_ret (q_call (T_plus_of c) hr hg rfl (a_cons (q_var 0) (a_cons (q_var 1) a_nil))))))
theorem T_turned (c : Facts fa fn tu K mg base) : PFn P w K mg base 1 "turned" ["one"] s_turned F_turned := by
  obtain ⟨fd, F⟩ := c.says.1.def_ 23 (d := d_turned) rfl
  exact fnP (N := ["one"]) (c.glo 23) F (F.bindsN fun _ _ _ _ _ _ us hl => match us, hl with | [_], _ => rfl) sc_turned rfl (by decide) fun cdv A outer s0 H E hr hg => (s_one (s_ret (q_tup (a_cons (q_bin om_sub q_int (q_ix (q_var 0) q_int)) (a_cons (q_ix (q_var 0) q_int) a_nil)))))
theorem T_minus_of (c : Facts fa fn tu K mg base) : PFn P w K mg base 5 "minus_of" ["poly", "other"] s_minus_of F_minus_of := by
  obtain ⟨fd, F⟩ := c.says.1.def_ 24 (d := d_minus_of) rfl
  exact fnP (N := ["poly", "other", "one"]) (c.glo 24) F (F.bindsN fun _ _ _ _ _ _ us hl => match us, hl with | [_, _], _ => rfl) sc_minus_of rfl (by decide) fun cdv A outer s0 H E hr hg => (s_one (s_ret (q_call (T_plus_of c) hr hg rfl (a_cons (q_var 0) (a_cons (q_lc (own := [("one", 2)]) rfl sc_minus_of.nd (by decide +kernel) (i_seq (q_var 1)) (L2.blkOk_by (by kernel_rfl)) (fun _ _ _ _ _ => (g_nm 2 sc_minus_of.nd rfl (by first | exact .inl rfl | exact .inr rfl))) (fun _ _ _ _ _ => ts_nil) (fun _ _ _ _ _ => (q_call (T_turned c) hr hg rfl (a_cons (q_var 2) a_nil)))) a_nil)))))
theorem T_minus (c : Facts fa fn tu K mg base) : PFn P w K mg base 7 "minus" ["poly", "other"] s_minus F_minus := by
  obtain ⟨fd, F⟩ := c.says.1.def_ 25 (d := d_minus) rfl
  exact fnP (N := ["poly", "other"]) (c.glo 25) F (F.bindsN fun _ _ _ _ _ _ us hl => match us, hl with | [_, _], _ => rfl) sc_minus rfl (by decide) fun cdv A outer s0 H E hr hg => (s_cons (s_expr (q_call (T_check_polys c) hr hg rfl (a_cons (q_var 0) (a_cons (q_var 1) a_nil))))
  (s_one (s_ret (q_call (T_minus_of c) hr hg rfl (a_cons (q_var 0) (a_cons (q_var 1) a_nil))))))
theorem T_times_of (c : Facts fa fn tu K mg base) : PFn P w K mg base 4 "times_of" ["poly", "other"] s_times_of F_times_of := by
  obtain ⟨fd, F⟩ := c.says.1.def_ 26 (d := d_times_of) rfl
  exact fnP (N := ["poly", "other", "found", "at", "one", "late_at", "late"]) (c.glo 26) F (F.bindsN fun _ _ _ _ _ _ us hl => match us, hl with | [_, _], _ => rfl) sc_times_of rfl (by decide) fun cdv A outer s0 H E hr hg => (s_cons (s_own 2 sc_times_of.nd rfl (by first | exact .inl rfl | exact .inr rfl) (q_bin om_mul (q_lst (a_cons (q_kst (c.kst 2) rfl) a_nil)) (q_bin om_add (q_B cm_len rfl (c.free ifr_len) (by decide +kernel) (v_cons (q_var 0) v_nil)) (q_B cm_len rfl (c.free ifr_len) (by decide +kernel) (v_cons (q_var 1) v_nil)))))
  (s_cons (s_for rfl rfl (i_enum rfl (c.free ifr_enumerate) (q_var 0)) (g_tp rfl (gs_cons (g_nm 3 sc_times_of.nd rfl (by first | exact .inl rfl | exact .inr rfl)) (gs_cons (g_nm 4 sc_times_of.nd rfl (by first | exact .inl rfl | exact .inr rfl)) gs_nil))) (s_one (s_for rfl rfl (i_enum rfl (c.free ifr_enumerate) (q_var 1)) (g_tp rfl (gs_cons (g_nm 5 sc_times_of.nd rfl (by first | exact .inl rfl | exact .inr rfl)) (gs_cons (g_nm 6 sc_times_of.nd rfl (by first | exact .inl rfl | exact .inr rfl)) gs_nil))) (s_one (s_setI 2 (L2.pv 2) (q_bin om_add (q_var 3) (q_var 5)) (q_call (T_add c) hr hg rfl (a_cons (q_ix (q_var 2) (q_bin om_add (q_var 3) (q_var 5))) (a_cons (q_call (T_multiply c) hr hg rfl (a_cons (q_var 4) (a_cons (q_var 6) a_nil))) a_nil))))))))
  (s_frz 2 (s_one (s_ret (q_call (T_told_of c).pf hr hg rfl (a_cons (q_var 2) a_nil)))))))
theorem T_times (c : Facts fa fn tu K mg base) : PFn P w K mg base 7 "times" ["poly", "other"] s_times F_times := by
  obtain ⟨fd, F⟩ := c.says.1.def_ 27 (d := d_times) rfl
  exact fnP (N := ["poly", "other"]) (c.glo 27) F (F.bindsN fun _ _ _ _ _ _ us hl => match us, hl with | [_, _], _ => rfl) sc_times rfl (by decide) fun cdv A outer s0 H E hr hg => (s_cons (s_expr (q_call (T_check_polys c) hr hg rfl (a_cons (q_var 0) (a_cons (q_var 1) a_nil))))
  (s_one (s_ret (q_call (T_times_of c) hr hg rfl (a_cons (q_var 0) (a_cons (q_var 1) a_nil))))))
theorem T_derived_of (c : Facts fa fn tu K mg base) : PFn P w K mg base 4 "derived_of" ["poly"] s_derived_of F_derived_of := by
  obtain ⟨fd, F⟩ := c.says.1.def_ 28 (d := d_derived_of) rfl
  exact fnP (N := ["poly", "at", "one"]) (c.glo 28) F (F.bindsN fun _ _ _ _ _ _ us hl => match us, hl with | [_], _ => rfl) sc_derived_of rfl (by decide) fun cdv A outer s0 H E hr hg => (s_one (s_ret (q_call (T_told_of c).pf hr hg rfl (a_cons (q_cut (q_lc (own := [("at", 1), ("one", 2)]) rfl sc_derived_of.nd (by decide +kernel) (i_enum rfl (c.free ifr_enumerate) (q_var 0)) (L2.blkOk_by (by kernel_rfl)) (fun _ _ _ _ _ => (g_tp rfl (gs_cons (g_nm 1 sc_derived_of.nd rfl (by first | exact .inl rfl | exact .inr rfl)) (gs_cons (g_nm 2 sc_derived_of.nd rfl (by first | exact .inl rfl | exact .inr rfl)) gs_nil)))) (fun _ _ _ _ _ => ts_nil) (fun _ _ _ _ _ => (q_call (T_multiply c) hr hg rfl (a_cons (q_var 2) (a_cons (q_tup (a_cons (q_var 1) (a_cons q_int a_nil))) a_nil))))) (o_some q_int) o_none) a_nil))))
theorem T_derived (c : Facts fa fn tu K mg base) : PFn P w K mg base 6 "derived" ["poly"] s_derived F_derived := by
  obtain ⟨fd, F⟩ := c.says.1.def_ 29 (d := d_derived) rfl
  exact fnP (N := ["poly"]) (c.glo 29) F (F.bindsN fun _ _ _ _ _ _ us hl => match us, hl with | [_], _ => rfl) sc_derived rfl (by decide) fun cdv A outer s0 H E hr hg => (s_cons (s_expr (q_call (T_check_poly c) hr hg rfl (a_cons (q_var 0) a_nil)))
  (s_one (s_ret (q_call (T_derived_of c) hr hg rfl (a_cons (q_var 0) a_nil)))))
theorem T_divide (c : Facts fa fn tu K mg base) : PFn P w K mg base 3 "divide" ["one", "late"] s_divide F_divide := by
  obtain ⟨fd, F⟩ := c.says.1.def_ 30 (d := d_divide) rfl
  exact fnP (N := ["one", "late"]) (c.glo 30) F (F.bindsN fun _ _ _ _ _ _ us hl => match us, hl with | [_, _], _ => rfl) sc_divide rfl (by decide) fun cdv A outer s0 H E hr hg => (s_one (s_ret (q_call (T_reduced c) hr hg rfl (a_cons (q_bin om_mul (q_ix (q_var 0) q_int) (q_ix (q_var 1) q_int)) (a_cons (q_bin om_mul (q_ix (q_var 0) q_int) (q_ix (q_var 1) q_int)) a_nil)))))
theorem T_summed_of (c : Facts fa fn tu K mg base) : PFn P w K mg base 4 "summed_of" ["poly"] s_summed_of F_summed_of := by
  obtain ⟨fd, F⟩ := c.says.1.def_ 31 (d := d_summed_of) rfl
  exact fnP (N := ["poly", "at", "one"]) (c.glo 31) F (F.bindsN fun _ _ _ _ _ _ us hl => match us, hl with | [_], _ => rfl) sc_summed_of rfl (by decide) fun cdv A outer s0 H E hr hg => (s_one (s_ret (q_call (T_told_of c).pf hr hg rfl (a_cons (q_bin om_add (q_lst (a_cons (q_kst (c.kst 2) rfl) a_nil)) (q_lc (own := [("at", 1), ("one", 2)]) rfl sc_summed_of.nd (by decide +kernel) (i_enum rfl (c.free ifr_enumerate) (q_var 0)) (L2.blkOk_by (by kernel_rfl)) (fun _ _ _ _ _ => (g_tp rfl (gs_cons (g_nm 1 sc_summed_of.nd rfl (by first | exact .inl rfl | exact .inr rfl)) (gs_cons (g_nm 2 sc_summed_of.nd rfl (by first | exact .inl rfl | exact .inr rfl)) gs_nil)))) (fun _ _ _ _ _ => ts_nil) (fun _ _ _ _ _ => (q_call (T_divide c) hr hg rfl (a_cons (q_var 2) (a_cons (q_tup (a_cons (q_bin om_add (q_var 1) q_int) (a_cons q_int a_nil))) a_nil)))))) a_nil))))
theorem T_summed (c : Facts fa fn tu K mg base) : PFn P w K mg base 6 "summed" ["poly"] s_summed F_summed := by
  obtain ⟨fd, F⟩ := c.says.1.def_ 32 (d := d_summed) rfl
  exact fnP (N := ["poly"]) (c.glo 32) F (F.bindsN fun _ _ _ _ _ _ us hl => match us, hl with | [_], _ => rfl) sc_summed rfl (by decide) fun cdv A outer s0 H E hr hg => (s_cons (s_expr (q_call (T_check_poly c) hr hg rfl (a_cons (q_var 0) a_nil)))
  (s_one (s_ret (q_call (T_summed_of c) hr hg rfl (a_cons (q_var 0) a_nil)))))
theorem T_moved_of (c : Facts fa fn tu K mg base) : PFn P w K mg base 5 "moved_of" ["poly", "spot"] s_moved_of F_moved_of := by
  obtain ⟨fd, F⟩ := c.says.1.def_ 33 (d := d_moved_of) rfl
  exact fnP (N := ["poly", "spot", "found", "one"]) (c.glo 33) F (F.bindsN fun _ _ _ _ _ _ us hl => match us, hl with | [_, _], _ => rfl) sc_moved_of rfl (by decide) fun cdv A outer s0 H E hr hg => (s_cons (s_set 2 sc_moved_of.nd rfl (by first | exact .inl rfl | exact .inr rfl) (q_lst a_nil))
  (s_cons (s_for rfl rfl (i_seq (q_revL (q_T cm_list rfl (c.free ifr_list) (by decide +kernel) (v_cons (q_var 0) v_nil)))) (g_nm 3 sc_moved_of.nd rfl (by first | exact .inl rfl | exact .inr rfl)) (s_one (s_set 2 sc_moved_of.nd rfl (by first | exact .inl rfl | exact .inr rfl) (q_call (T_plus_of c) hr hg rfl (a_cons (q_call (T_times_of c) hr hg rfl (a_cons (q_var 2) (a_cons (q_lst (a_cons (q_var 1) (a_cons (q_tup (a_cons q_int (a_cons q_int a_nil))) a_nil))) a_nil))) (a_cons (q_lst (a_cons (q_var 3) a_nil)) a_nil))))))
  (s_one (s_ret (q_var 2)))))
theorem T_moved (c : Facts fa fn tu K mg base) : PFn P w K mg base 6 "moved" ["poly", "spot"] s_moved F_moved := by
  obtain ⟨fd, F⟩ := c.says.1.def_ 34 (d := d_moved) rfl
  exact fnP (N := ["poly", "spot"]) (c.glo 34) F (F.bindsN fun _ _ _ _ _ _ us hl => match us, hl with | [_, _], _ => rfl) sc_moved rfl (by decide) fun cdv A outer s0 H E hr hg => (s_cons (s_expr (q_call (T_check_poly c) hr hg rfl (a_cons (q_var 0) a_nil)))
  (s_cons (s_expr (q_call (T_check_spot c) hr hg rfl (a_cons (q_var 1) a_nil)))
  (s_one (s_ret (q_call (T_moved_of c) hr hg rfl (a_cons (q_var 0) (a_cons (q_var 1) a_nil)))))))
theorem T_check_fraction (c : Facts fa fn tu K mg base) : PFn P w K mg base 4 "check_fraction" ["value"] s_check_fraction F_check_fraction := by
  obtain ⟨fd, F⟩ := c.says.1.def_ 35 (d := d_check_fraction) rfl
  exact fnP (N := ["value"]) (c.glo 35) F (F.bindsN fun _ _ _ _ _ _ us hl => match us, hl with | [_], _ => rfl) sc_check_fraction rfl (by decide) fun cdv A outer s0 H E hr hg => (s_one (s_if (t_not (t_val (q_call (T_is_small c) hr hg rfl (a_cons (q_var 0) a_nil)))) (s_one s_never) s_nil))
theorem T_stretched_of (c : Facts fa fn tu K mg base) : PFn P w K mg base 4 "stretched_of" ["poly", "fraction"] s_stretched_of F_stretched_of := by
  obtain ⟨fd, F⟩ := c.says.1.def_ 36 (d := d_stretched_of) rfl
  exact fnP (N := ["poly", "fraction", "found", "power", "one"]) (c.glo 36) F (F.bindsN fun _ _ _ _ _ _ us hl => match us, hl with | [_, _], _ => rfl) sc_stretched_of rfl (by decide) fun cdv A outer s0 H E hr hg => (s_cons (s_par2 2 3 true false rfl sc_stretched_of.nd rfl rfl (by decide) rfl rfl (q_lst a_nil) (q_tup (a_cons q_int (a_cons q_int a_nil))) rfl)
  (s_cons (s_for rfl rfl (i_seq (q_var 0)) (g_nm 4 sc_stretched_of.nd rfl (by first | exact .inl rfl | exact .inr rfl)) (s_cons (s_append 2 (L2.pv 2) (q_call (T_multiply c) hr hg rfl (a_cons (q_var 4) (a_cons (q_var 3) a_nil))))
  (s_one (s_set 3 sc_stretched_of.nd rfl (by first | exact .inl rfl | exact .inr rfl) (q_call (T_multiply c) hr hg rfl (a_cons (q_var 3) (a_cons (q_var 1) a_nil)))))))
  (s_frz 2 (s_one (s_ret (q_call (T_told_of c).pf hr hg rfl (a_cons (q_var 2) a_nil)))))))
theorem T_stretched (c : Facts fa fn tu K mg base) : PFn P w K mg base 6 "stretched" ["poly", "fraction"] s_stretched F_stretched := by
  obtain ⟨fd, F⟩ := c.says.1.def_ 37 (d := d_stretched) rfl
  exact fnP (N := ["poly", "fraction"]) (c.glo 37) F (F.bindsN fun _ _ _ _ _ _ us hl => match us, hl with | [_, _], _ => rfl) sc_stretched rfl (by decide) fun cdv A outer s0 H E hr hg => (s_cons (s_expr (q_call (T_check_poly c) hr hg rfl (a_cons (q_var 0) a_nil)))
  (s_cons (s_expr (q_call (T_check_fraction c) hr hg rfl (a_cons (q_var 1) a_nil)))
  (s_one (s_ret (q_call (T_stretched_of c) hr hg rfl (a_cons (q_var 0) (a_cons (q_var 1) a_nil)))))))
theorem T_is_below (c : Facts fa fn tu K mg base) : PFn P w K mg base 1 "is_below" ["one", "late"] s_is_below F_is_below := by
  obtain ⟨fd, F⟩ := c.says.1.def_ 38 (d := d_is_below) rfl
  exact fnP (N := ["one", "late"]) (c.glo 38) F (F.bindsN fun _ _ _ _ _ _ us hl => match us, hl with | [_, _], _ => rfl) sc_is_below rfl (by decide) fun cdv A outer s0 H E hr hg => (s_one (s_ret (q_cmp om_lt (q_bin om_mul (q_ix (q_var 0) q_int) (q_ix (q_var 1) q_int)) (q_bin om_mul (q_ix (q_var 1) q_int) (q_ix (q_var 0) q_int)) (L2.nomark _))))
theorem T_is_stretch_of (c : Facts fa fn tu K mg base) : PFn P w K mg base 4 "is_stretch_of" ["value"] s_is_stretch_of F_is_stretch_of := by
  obtain ⟨fd, F⟩ := c.says.1.def_ 39 (d := d_is_stretch_of) rfl
  exact fnP (N := ["value", "one"]) (c.glo 39) F (F.bindsN fun _ _ _ _ _ _ us hl => match us, hl with | [_], _ => rfl) sc_is_stretch_of rfl (by decide) fun cdv A outer s0 H E hr hg => (s_cons (s_if (L2.PW.pt (w_or (t_not (t_val (q_isi1 hT_tuple (q_var 0) rfl (c.free ifr_isinstance) rfl (c.free ifr_tuple) (by decide +kernel) (by decide +kernel)))) (w_or (t_cmp (om_ne (u64 hr)) (q_B cm_len rfl (c.free ifr_len) (by decide +kernel) (v_cons (q_var 0) v_nil)) q_int (L2.nomark _)) (w_or1 (t_not (t_val (q_B (cm_all rfl) rfl (c.free ifr_all) (by decide +kernel) (v_cons (q_lc (own := [("one", 1)]) rfl sc_is_stretch_of.nd (by decide +kernel) (i_seq (q_var 0)) (L2.blkOk_by (by kernel_rfl)) (fun _ _ _ _ _ => (g_nm 1 sc_is_stretch_of.nd rfl (by first | exact .inl rfl | exact .inr rfl))) (fun _ _ _ _ _ => ts_nil) (fun _ _ _ _ _ => (q_call (T_is_small c) hr hg rfl (a_cons (q_var 1) a_nil)))) v_nil)))))))) (s_one (s_ret q_bl)) s_nil)
  (s_one (s_ret (q_call (T_is_below c) hr hg rfl (a_cons (q_ix (q_var 0) q_int) (a_cons (q_ix (q_var 0) q_int) a_nil))))))
theorem T_check_stretch (c : Facts fa fn tu K mg base) : PFn P w K mg base 5 "check_stretch" ["value"] s_check_stretch F_check_stretch := by
  obtain ⟨fd, F⟩ := c.says.1.def_ 40 (d := d_check_stretch) rfl
  exact fnP (N := ["value"]) (c.glo 40) F (F.bindsN fun _ _ _ _ _ _ us hl => match us, hl with | [_], _ => rfl) sc_check_stretch rfl (by decide) fun cdv A outer s0 H E hr hg => (s_one (s_if (t_not (t_val (q_call (T_is_stretch_of c) hr hg rfl (a_cons (q_var 0) a_nil)))) (s_one s_never) s_nil))
theorem T_take (c : Facts fa fn tu K mg base) : PFn P w K mg base 3 "take" ["one", "late"] s_take F_take := by
  obtain ⟨fd, F⟩ := c.says.1.def_ 41 (d := d_take) rfl
  exact fnP (N := ["one", "late"]) (c.glo 41) F (F.bindsN fun _ _ _ _ _ _ us hl => match us, hl with | [_, _], _ => rfl) sc_take rfl (by decide) fun cdv A outer s0 H E hr hg => (s_one (s_ret (q_call (T_reduced c) hr hg rfl (a_cons (q_bin om_sub (q_bin om_mul (q_ix (q_var 0) q_int) (q_ix (q_var 1) q_int)) (q_bin om_mul (q_ix (q_var 1) q_int) (q_ix (q_var 0) q_int))) (a_cons (q_bin om_mul (q_ix (q_var 0) q_int) (q_ix (q_var 1) q_int)) a_nil)))))
theorem T_area_of (c : Facts fa fn tu K mg base) : PFn P w K mg base 5 "area_of" ["poly", "low", "high"] s_area_of F_area_of := by
  obtain ⟨fd, F⟩ := c.says.1.def_ 42 (d := d_area_of) rfl
  exact fnP (N := ["poly", "low", "high", "whole"]) (c.glo 42) F (F.bindsN fun _ _ _ _ _ _ us hl => match us, hl with | [_, _, _], _ => rfl) sc_area_of rfl (by decide) fun cdv A outer s0 H E hr hg => (s_cons (s_set 3 sc_area_of.nd rfl (by first | exact .inl rfl | exact .inr rfl) (q_call (T_summed_of c) hr hg rfl (a_cons (q_var 0) a_nil)))
  (s_one (s_ret (q_call (T_take c) hr hg rfl (a_cons (q_call (T_value_of c) hr hg rfl (a_cons (q_var 3) (a_cons (q_var 2) a_nil))) (a_cons (q_call (T_value_of c) hr hg rfl (a_cons (q_var 3) (a_cons (q_var 1) a_nil))) a_nil))))))
theorem T_area (c : Facts fa fn tu K mg base) : PFn P w K mg base 6 "area" ["poly", "stretch"] s_area F_area := by
  obtain ⟨fd, F⟩ := c.says.1.def_ 43 (d := d_area) rfl
  exact fnP (N := ["poly", "stretch"]) (c.glo 43) F (F.bindsN fun _ _ _ _ _ _ us hl => match us, hl with | [_, _], _ => rfl) sc_area rfl (by decide) fun cdv A outer s0 H E hr hg => (s_cons (s_expr (q_call (T_check_poly c) hr hg rfl (a_cons (q_var 0) a_nil)))
  (s_cons (s_expr (q_call (T_check_stretch c) hr hg rfl (a_cons (q_var 1) a_nil)))
  (s_one (s_ret (q_call (T_area_of c) hr hg rfl (a_cons (q_var 0) (a_cons (q_ix (q_var 1) q_int) (a_cons (q_ix (q_var 1) q_int) a_nil))))))))
theorem T_divided_of (c : Facts fa fn tu K mg base) : PFn P w K mg base 6 "divided_of" ["poly", "other"] s_divided_of F_divided_of := by
  obtain ⟨fd, F⟩ := c.says.1.def_ 44 (d := d_divided_of) rfl
  exact fnP (N := ["poly", "other", "rest", "below", "found", "at", "share"]) (c.glo 44) F (F.bindsN fun _ _ _ _ _ _ us hl => match us, hl with | [_, _], _ => rfl) sc_divided_of rfl (by decide) fun cdv A outer s0 H E hr hg => (s_cons (s_par2 2 3 false false rfl sc_divided_of.nd rfl rfl (by decide) rfl rfl (q_call (T_told_of c).pf hr hg rfl (a_cons (q_var 0) a_nil)) (q_call (T_told_of c).pf hr hg rfl (a_cons (q_var 1) a_nil)) rfl)
  (s_cons (s_own 4 sc_divided_of.nd rfl (by first | exact .inl rfl | exact .inr rfl) (q_bin om_mul (q_lst (a_cons (q_kst (c.kst 2) rfl) a_nil)) (q_B (cm_max rfl) rfl (c.free ifr_max) (by decide +kernel) (v_cons q_int (v_cons (q_bin om_add (q_bin om_sub (q_B cm_len rfl (c.free ifr_len) (by decide +kernel) (v_cons (q_var 2) v_nil)) (q_B cm_len rfl (c.free ifr_len) (by decide +kernel) (v_cons (q_var 3) v_nil))) q_int) v_nil)))))
  (s_cons (s_while fuel_divided_of_1 rfl (t_cmp om_ge (q_B cm_len rfl (c.free ifr_len) (by decide +kernel) (v_cons (q_var 2) v_nil)) (q_B cm_len rfl (c.free ifr_len) (by decide +kernel) (v_cons (q_var 3) v_nil)) (L2.nomark _)) (s_cons (s_par2 5 6 false false rfl sc_divided_of.nd rfl rfl (by decide) rfl rfl (q_bin om_sub (q_B cm_len rfl (c.free ifr_len) (by decide +kernel) (v_cons (q_var 2) v_nil)) (q_B cm_len rfl (c.free ifr_len) (by decide +kernel) (v_cons (q_var 3) v_nil))) (q_call (T_divide c) hr hg rfl (a_cons (q_ix (q_var 2) (q_un um_neg q_int)) (a_cons (q_ix (q_var 3) (q_un um_neg q_int)) a_nil))) rfl)
  (s_cons (s_setI 4 (L2.pv 4) (q_var 5) (q_var 6))
  (s_one (s_set 2 sc_divided_of.nd rfl (by first | exact .inl rfl | exact .inr rfl) (q_call (T_told_of c).pf hr hg rfl (a_cons (q_cut (q_call (T_minus_of c) hr hg rfl (a_cons (q_var 2) (a_cons (q_call (T_times_of c) hr hg rfl (a_cons (q_bin om_add (q_bin om_mul (q_lst (a_cons (q_kst (c.kst 2) rfl) a_nil)) (q_var 5)) (q_lst (a_cons (q_var 6) a_nil))) (a_cons (q_var 3) a_nil))) a_nil))) o_none (o_some (q_bin om_sub (q_bin om_add (q_var 5) (q_B cm_len rfl (c.free ifr_len) (by decide +kernel) (v_cons (q_var 3) v_nil))) q_int))) a_nil)))))))
  (s_frz 4 (s_one (s_ret (q_tup (a_cons (q_call (T_told_of c).pf hr hg rfl (a_cons (q_var 4) a_nil)) (a_cons (q_var 2) a_nil)))))))))
theorem T_does_divide (c : Facts fa fn tu K mg base) : PFn P w K mg base 7 "does_divide" ["poly", "other"] s_does_divide F_does_divide := by
  obtain ⟨fd, F⟩ := c.says.1.def_ 45 (d := d_does_divide) rfl
  exact fnP (N := ["poly", "other"]) (c.glo 45) F (F.bindsN fun _ _ _ _ _ _ us hl => match us, hl with | [_, _], _ => rfl) sc_does_divide rfl (by decide) fun cdv A outer s0 H E hr hg => (s_cons (s_expr (q_call (T_check_polys c) hr hg rfl (a_cons (q_var 0) (a_cons (q_var 1) a_nil))))
  (s_cons (s_if (t_cmp (om_eq (u64 hr)) (q_call (T_told_of c).pf hr hg rfl (a_cons (q_var 0) a_nil)) (q_lst a_nil) (L2.nomark _)) (s_one (s_ret (q_cmp (om_eq (u64 hr)) (q_call (T_told_of c).pf hr hg rfl (a_cons (q_var 1) a_nil)) (q_lst a_nil) (L2.nomark _)))) s_nil)
  (s_one (s_ret (q_cmp (om_eq (u64 hr)) (q_ix (q_call (T_divided_of c) hr hg rfl (a_cons (q_var 1) (a_cons (q_var 0) a_nil))) q_int) (q_lst a_nil) (L2.nomark _))))))
theorem T__law_draw (c : Facts fa fn tu K mg base) : PDn P w K mg base 1 "_law_draw" ["pot", "many"] s__law_draw F__law_draw := by
  obtain ⟨fd, F⟩ := c.says.1.def_ 46 (d := d__law_draw) rfl
  exact fnD (y := "pot") (N := ["many", "digit"]) (c.glo 46) F (F.bindsN fun _ _ _ _ _ _ us hl => match us, hl with | [_, _], _ => rfl) sc__law_draw rfl (by decide) fun cdv A outer s0 H E hr hg => (s_cons (s_if (t_cmp om_gt (q_pot 0 (L2.pv 0)) q_int (L2.nomark _)) (s_cons (s_potdm 2 rfl sc__law_draw.nd rfl (by first | exact .inl rfl | exact .inr rfl) (L2.pv 0) (q_B cm_divmod rfl (c.free ifr_divmod) (by decide +kernel) (v_cons (q_pot 0 (L2.pv 0)) (v_cons (q_var 1) v_nil))))
  (s_one (s_ret (q_var 2)))) s_nil)
  (s_cons (s_potset 1 (L2.pv 0) (q_bin om_mod (q_T cm_int rfl (c.free ifr_int) (by decide +kernel) (v_cons (q_bin om_add (q_bin om_mul (q_pot 1 (L2.pv 0)) q_int) q_int) v_nil)) q_int))
  (s_one (s_ret (q_bin om_mod (q_T cm_int rfl (c.free ifr_int) (by decide +kernel) (v_cons (q_bin om_div (q_bin om_mod (q_T cm_int rfl (c.free ifr_int) (by decide +kernel) (v_cons (q_bin om_mul (q_pot 1 (L2.pv 0)) (q_pot 1 (L2.pv 0))) v_nil)) q_int) q_int) v_nil)) (q_var 1))))))
theorem T__law_pick (c : Facts fa fn tu K mg base) : PDn P w K mg base 2 "_law_pick" ["pot", "some"] s__law_pick F__law_pick := by
  obtain ⟨fd, F⟩ := c.says.1.def_ 47 (d := d__law_pick) rfl
  exact fnD (y := "pot") (N := ["some"]) (c.glo 47) F (F.bindsN fun _ _ _ _ _ _ us hl => match us, hl with | [_, _], _ => rfl) sc__law_pick rfl (by decide) fun cdv A outer s0 H E hr hg => (s_one (s_ret (q_ix (q_var 1) (q_draw (T__law_draw c) hr hg rfl (L2.pv 0) (a_cons (q_B cm_len rfl (c.free ifr_len) (by decide +kernel) (v_cons (q_var 1) v_nil)) a_nil)))))
theorem T__law_divisor (c : Facts fa fn tu K mg base) : PFn P w K mg base 1 "_law_divisor" ["one", "late"] s__law_divisor F__law_divisor := by
  obtain ⟨fd, F⟩ := c.says.1.def_ 48 (d := d__law_divisor) rfl
  exact fnP (N := ["one", "late"]) (c.glo 48) F (F.bindsN fun _ _ _ _ _ _ us hl => match us, hl with | [_, _], _ => rfl) sc__law_divisor rfl (by decide) fun cdv A outer s0 H E hr hg => (s_cons (s_while fuel__law_divisor_1 rfl (t_cmp om_gt (q_var 1) q_int (L2.nomark _)) (s_one (s_par2 0 1 false false rfl sc__law_divisor.nd rfl rfl (by decide) rfl rfl (q_var 1) (q_bin om_mod (q_T cm_int rfl (c.free ifr_int) (by decide +kernel) (v_cons (q_var 0) v_nil)) (q_var 1)) rfl)))
  (s_one (s_ret (q_var 0))))
theorem T__law_cut (c : Facts fa fn tu K mg base) : PFn P w K mg base 2 "_law_cut" ["top", "bottom"] s__law_cut F__law_cut := by
  obtain ⟨fd, F⟩ := c.says.1.def_ 49 (d := d__law_cut) rfl
  exact fnP (N := ["top", "bottom", "whole"]) (c.glo 49) F (F.bindsN fun _ _ _ _ _ _ us hl => match us, hl with | [_, _], _ => rfl) sc__law_cut rfl (by decide) fun cdv A outer s0 H E hr hg => (s_cons (s_if (t_cmp om_lt (q_var 1) q_int (L2.nomark _)) (s_one (s_par2 0 1 false false rfl sc__law_cut.nd rfl rfl (by decide) rfl rfl (q_bin om_sub q_int (q_var 0)) (q_bin om_sub q_int (q_var 1)) rfl)) s_nil)
  (s_cons (s_set 2 sc__law_cut.nd rfl (by first | exact .inl rfl | exact .inr rfl) (q_call (T__law_divisor c) hr hg rfl (a_cons (q_B cm_abs rfl (c.free ifr_abs) (by decide +kernel) (v_cons (q_var 0) v_nil)) (a_cons (q_var 1) a_nil))))
  (s_one (s_ret (q_tup (a_cons (q_bin om_div (q_var 0) (q_var 2)) (a_cons (q_bin om_div (q_var 1) (q_var 2)) a_nil)))))))
theorem T__law_fraction (c : Facts fa fn tu K mg base) : PDn P w K mg base 3 "_law_fraction" ["pot"] s__law_fraction F__law_fraction := by
  obtain ⟨fd, F⟩ := c.says.1.def_ 50 (d := d__law_fraction) rfl
  exact fnD (y := "pot") (N := ["far"]) (c.glo 50) F (F.bindsN fun _ _ _ _ _ _ us hl => match us, hl with | [_], _ => rfl) sc__law_fraction rfl (by decide) fun cdv A outer s0 H E hr hg => (s_cons (s_if (t_cmp (om_eq (u64 hr)) (q_draw (T__law_draw c) hr hg rfl (L2.pv 0) (a_cons q_int a_nil)) q_int (L2.nomark _)) (s_one (s_ret (q_tup (a_cons q_int (a_cons q_int a_nil))))) s_nil)
  (s_cons (s_set 1 sc__law_fraction.nd rfl (by first | exact .inl rfl | exact .inr rfl) (q_draw (T__law_pick c) hr hg rfl (L2.pv 0) (a_cons (q_lst (a_cons q_int (a_cons q_int (a_cons q_int a_nil)))) a_nil)))
  (s_one (s_ret (q_call (T__law_cut c) hr hg rfl (a_cons (q_bin om_sub (q_draw (T__law_draw c) hr hg rfl (L2.pv 0) (a_cons (q_bin om_add (q_bin om_mul q_int (q_var 1)) q_int) a_nil)) (q_var 1)) (a_cons (q_draw (T__law_pick c) hr hg rfl (L2.pv 0) (a_cons (q_lst (a_cons q_int (a_cons q_int (a_cons q_int (a_cons q_int (a_cons q_int a_nil)))))) a_nil)) a_nil)))))))
theorem T__law_is_integer (c : Facts fa fn tu K mg base) : PFn P w K mg base 1 "_law_is_integer" ["value"] s__law_is_integer F__law_is_integer := by
  obtain ⟨fd, F⟩ := c.says.1.def_ 51 (d := d__law_is_integer) rfl
  exact fnP (N := ["value"]) (c.glo 51) F (F.bindsN fun _ _ _ _ _ _ us hl => match us, hl with | [_], _ => rfl) sc__law_is_integer rfl (by decide) fun cdv A outer s0 H E hr hg => (s_one (s_ret (q_and (q_isi1 hT_int (q_var 0) rfl (c.free ifr_isinstance) rfl (c.free ifr_int) (by decide +kernel) (by decide +kernel)) (q_and1 (q_not (q_isi1 hT_bool (q_var 0) rfl (c.free ifr_isinstance) rfl (c.free ifr_bool) (by decide +kernel) (by decide +kernel)))))))
theorem T__law_is_fraction (c : Facts fa fn tu K mg base) : PFn P w K mg base 2 "_law_is_fraction" ["value"] s__law_is_fraction F__law_is_fraction := by
  obtain ⟨fd, F⟩ := c.says.1.def_ 52 (d := d__law_is_fraction) rfl
  exact fnP (N := ["value", "one"]) (c.glo 52) F (F.bindsN fun _ _ _ _ _ _ us hl => match us, hl with | [_], _ => rfl) sc__law_is_fraction rfl (by decide) fun cdv A outer s0 H E hr hg => (s_cons (s_if (L2.PW.pt (w_or (t_not (t_val (q_isi1 hT_tuple (q_var 0) rfl (c.free ifr_isinstance) rfl (c.free ifr_tuple) (by decide +kernel) (by decide +kernel)))) (w_or (t_cmp (om_ne (u64 hr)) (q_B cm_len rfl (c.free ifr_len) (by decide +kernel) (v_cons (q_var 0) v_nil)) q_int (L2.nomark _)) (w_or1 (t_not (t_val (q_B (cm_all rfl) rfl (c.free ifr_all) (by decide +kernel) (v_cons (q_lc (own := [("one", 1)]) rfl sc__law_is_fraction.nd (by decide +kernel) (i_seq (q_var 0)) (L2.blkOk_by (by kernel_rfl)) (fun _ _ _ _ _ => (g_nm 1 sc__law_is_fraction.nd rfl (by first | exact .inl rfl | exact .inr rfl))) (fun _ _ _ _ _ => ts_nil) (fun _ _ _ _ _ => (q_call (T__law_is_integer c) hr hg rfl (a_cons (q_var 1) a_nil)))) v_nil)))))))) (s_one (s_ret q_bl)) s_nil)
  (s_one (s_ret (q_and (q_cmp om_ge (q_ix (q_var 0) q_int) q_int (L2.nomark _)) (q_and1 (q_cmp (om_eq (u64 hr)) (q_call (T__law_divisor c) hr hg rfl (a_cons (q_B cm_abs rfl (c.free ifr_abs) (by decide +kernel) (v_cons (q_ix (q_var 0) q_int) v_nil)) (a_cons (q_ix (q_var 0) q_int) a_nil))) q_int (L2.nomark _)))))))
theorem T__law_is_poly (c : Facts fa fn tu K mg base) : PFn P w K mg base 3 "_law_is_poly" ["value"] s__law_is_poly F__law_is_poly := by
  obtain ⟨fd, F⟩ := c.says.1.def_ 53 (d := d__law_is_poly) rfl
  exact fnP (N := ["value", "one"]) (c.glo 53) F (F.bindsN fun _ _ _ _ _ _ us hl => match us, hl with | [_], _ => rfl) sc__law_is_poly rfl (by decide) fun cdv A outer s0 H E hr hg => (s_one (s_ret (q_and (q_isi2 hT_list hT_tuple (by intro d; cases d <;> rfl) (q_var 0) rfl (c.free ifr_isinstance) (L2.pe_bltn rfl (c.free ifr_list) (by decide +kernel) rfl (by decide) (by decide)) (L2.pe_bltn rfl (c.free ifr_tuple) (by decide +kernel) rfl (by decide) (by decide)) (by decide +kernel)) (q_and (q_cmp om_le (q_B cm_len rfl (c.free ifr_len) (by decide +kernel) (v_cons (q_var 0) v_nil)) q_int (L2.nomark _)) (q_and1 (q_B (cm_all rfl) rfl (c.free ifr_all) (by decide +kernel) (v_cons (q_lc (own := [("one", 1)]) rfl sc__law_is_poly.nd (by decide +kernel) (i_seq (q_var 0)) (L2.blkOk_by (by kernel_rfl)) (fun _ _ _ _ _ => (g_nm 1 sc__law_is_poly.nd rfl (by first | exact .inl rfl | exact .inr rfl))) (fun _ _ _ _ _ => ts_nil) (fun _ _ _ _ _ => (q_call (T__law_is_fraction c) hr hg rfl (a_cons (q_var 1) a_nil)))) v_nil)))))))
theorem T__law_bent_0 (c : Facts fa fn tu K mg base) : PDn P w K mg base 2 "_law_bent" ["pot", "value"] s__law_bent F__law_bent_0 := by
  obtain ⟨fd, F⟩ := c.says.1.def_ 54 (d := d__law_bent) rfl
  exact fnD (y := "pot") (N := ["value", "at", "way", "one"]) (c.glo 54) F (F.bindsN fun _ _ _ _ _ _ us hl => match us, hl with | [_, _], _ => rfl) sc__law_bent rfl (by decide) fun cdv A outer s0 H E hr hg => ss_never
theorem T__law_bent_1 (c : Facts fa fn tu K mg base) : PDn P w K mg base 3 "_law_bent" ["pot", "value"] s__law_bent F__law_bent_1 := by
  obtain ⟨fd, F⟩ := c.says.1.def_ 54 (d := d__law_bent) rfl
  exact fnD (y := "pot") (N := ["value", "at", "way", "one"]) (c.glo 54) F (F.bindsN fun _ _ _ _ _ _ us hl => match us, hl with | [_, _], _ => rfl) sc__law_bent rfl (by decide) fun cdv A outer s0 H E hr hg => (s_cons (s_if (L2.PW.pt (w_or (t_not (t_val (q_isi2 hT_list hT_tuple (by intro d; cases d <;> rfl) (q_var 1) rfl (c.free ifr_isinstance) (L2.pe_bltn rfl (c.free ifr_list) (by decide +kernel) rfl (by decide) (by decide)) (L2.pe_bltn rfl (c.free ifr_tuple) (by decide +kernel) rfl (by decide) (by decide)) (by decide +kernel)))) (w_or (t_cmp (om_eq (u64 hr)) (q_B cm_len rfl (c.free ifr_len) (by decide +kernel) (v_cons (q_var 1) v_nil)) q_int (L2.nomark _)) (w_or1 (t_cmp (om_eq (u64 hr)) (q_draw (T__law_draw c) hr hg rfl (L2.pv 0) (a_cons q_int a_nil)) q_int (L2.nomark _)))))) (s_one (s_ret (q_draw (T__law_pick c) hr hg rfl (L2.pv 0) (a_cons (q_lst (a_cons q_non (a_cons q_int (a_cons q_int (a_cons (q_un um_neg q_int) (a_cons q_bl (a_cons q_str (a_cons (q_tup (a_cons q_int (a_cons q_int a_nil))) (a_cons (q_tup (a_cons q_int (a_cons q_int a_nil))) (a_cons (q_tup (a_cons q_int (a_cons q_int a_nil))) (a_cons (q_tup (a_cons q_int (a_cons q_int a_nil))) (a_cons (q_tup (a_cons q_int (a_cons q_int a_nil))) (a_cons (q_tup (a_cons (q_un um_neg q_int) (a_cons q_int a_nil))) (a_cons (q_tup (a_cons q_int (a_cons (q_un um_neg q_int) a_nil))) (a_cons (q_lst a_nil) (a_cons (q_tup a_nil) (a_cons (q_tup (a_cons (q_bin om_add (q_bin om_pow q_int q_int) q_int) (a_cons (q_bin om_pow q_int q_int) a_nil))) a_nil))))))))))))))))) a_nil)))) s_nil)
  (s_cons (s_par2 2 3 false false rfl sc__law_bent.nd rfl rfl (by decide) rfl rfl (q_draw (T__law_draw c) hr hg rfl (L2.pv 0) (a_cons (q_B cm_len rfl (c.free ifr_len) (by decide +kernel) (v_cons (q_var 1) v_nil)) a_nil)) (q_draw (T__law_draw c) hr hg rfl (L2.pv 0) (a_cons q_int a_nil)) rfl)
  (s_cons (s_if (t_cmp (om_eq (u64 hr)) (q_var 3) q_int (L2.nomark _)) (s_one (s_ret (q_bin om_add (q_cut (q_var 1) o_none (o_some (q_var 2))) (q_cut (q_var 1) (o_some (q_bin om_add (q_var 2) q_int)) o_none)))) s_nil)
  (s_cons (s_if (t_cmp (om_eq (u64 hr)) (q_var 3) q_int (L2.nomark _)) (s_one (s_ret (q_bin om_add (q_var 1) (q_cut (q_var 1) (o_some (q_var 2)) (o_some (q_bin om_add (q_var 2) q_int)))))) s_nil)
  (s_cons (s_if (t_cmp (om_eq (u64 hr)) (q_var 3) q_int (L2.nomark _)) (s_one (s_ret (q_back (q_var 1)))) s_nil)
  (s_cons (s_if (t_cmp (om_eq (u64 hr)) (q_var 3) q_int (L2.nomark _)) (s_one (s_ret (q_if (t_val (q_isi1 hT_list (q_var 1) rfl (c.free ifr_isinstance) rfl (c.free ifr_list) (by decide +kernel) (by decide +kernel))) (q_T cm_tuple rfl (c.free ifr_tuple) (by decide +kernel) (v_cons (q_var 1) v_nil)) (q_T cm_list rfl (c.free ifr_list) (by decide +kernel) (v_cons (q_var 1) v_nil))))) s_nil)
  (s_cons (s_set 4 sc__law_bent.nd rfl (by first | exact .inl rfl | exact .inr rfl) (q_draw (T__law_bent_0 c) hr hg rfl (L2.pv 0) (a_cons (q_ix (q_var 1) (q_var 2)) a_nil)))
  (s_one (s_ret (q_bin om_add (q_bin om_add (q_cut (q_var 1) o_none (o_some (q_var 2))) (q_if (t_val (q_isi1 hT_list (q_var 1) rfl (c.free ifr_isinstance) rfl (c.free ifr_list) (by decide +kernel) (by decide +kernel))) (q_lst (a_cons (q_var 4) a_nil)) (q_tup (a_cons (q_var 4) a_nil)))) (q_cut (q_var 1) (o_some (q_bin om_add (q_var 2) q_int)) o_none)))))))))))
theorem T__law_bent_2 (c : Facts fa fn tu K mg base) : PDn P w K mg base 4 "_law_bent" ["pot", "value"] s__law_bent F__law_bent_2 := by
  obtain ⟨fd, F⟩ := c.says.1.def_ 54 (d := d__law_bent) rfl
  exact fnD (y := "pot") (N := ["value", "at", "way", "one"]) (c.glo 54) F (F.bindsN fun _ _ _ _ _ _ us hl => match us, hl with | [_, _], _ => rfl) sc__law_bent rfl (by decide) fun cdv A outer s0 H E hr hg => (s_cons (s_if (L2.PW.pt (w_or (t_not (t_val (q_isi2 hT_list hT_tuple (by intro d; cases d <;> rfl) (q_var 1) rfl (c.free ifr_isinstance) (L2.pe_bltn rfl (c.free ifr_list) (by decide +kernel) rfl (by decide) (by decide)) (L2.pe_bltn rfl (c.free ifr_tuple) (by decide +kernel) rfl (by decide) (by decide)) (by decide +kernel)))) (w_or (t_cmp (om_eq (u64 hr)) (q_B cm_len rfl (c.free ifr_len) (by decide +kernel) (v_cons (q_var 1) v_nil)) q_int (L2.nomark _)) (w_or1 (t_cmp (om_eq (u64 hr)) (q_draw (T__law_draw c) hr hg rfl (L2.pv 0) (a_cons q_int a_nil)) q_int (L2.nomark _)))))) (s_one (s_ret (q_draw (T__law_pick c) hr hg rfl (L2.pv 0) (a_cons (q_lst (a_cons q_non (a_cons q_int (a_cons q_int (a_cons (q_un um_neg q_int) (a_cons q_bl (a_cons q_str (a_cons (q_tup (a_cons q_int (a_cons q_int a_nil))) (a_cons (q_tup (a_cons q_int (a_cons q_int a_nil))) (a_cons (q_tup (a_cons q_int (a_cons q_int a_nil))) (a_cons (q_tup (a_cons q_int (a_cons q_int a_nil))) (a_cons (q_tup (a_cons q_int (a_cons q_int a_nil))) (a_cons (q_tup (a_cons (q_un um_neg q_int) (a_cons q_int a_nil))) (a_cons (q_tup (a_cons q_int (a_cons (q_un um_neg q_int) a_nil))) (a_cons (q_lst a_nil) (a_cons (q_tup a_nil) (a_cons (q_tup (a_cons (q_bin om_add (q_bin om_pow q_int q_int) q_int) (a_cons (q_bin om_pow q_int q_int) a_nil))) a_nil))))))))))))))))) a_nil)))) s_nil)
  (s_cons (s_par2 2 3 false false rfl sc__law_bent.nd rfl rfl (by decide) rfl rfl (q_draw (T__law_draw c) hr hg rfl (L2.pv 0) (a_cons (q_B cm_len rfl (c.free ifr_len) (by decide +kernel) (v_cons (q_var 1) v_nil)) a_nil)) (q_draw (T__law_draw c) hr hg rfl (L2.pv 0) (a_cons q_int a_nil)) rfl)
  (s_cons (s_if (t_cmp (om_eq (u64 hr)) (q_var 3) q_int (L2.nomark _)) (s_one (s_ret (q_bin om_add (q_cut (q_var 1) o_none (o_some (q_var 2))) (q_cut (q_var 1) (o_some (q_bin om_add (q_var 2) q_int)) o_none)))) s_nil)
  (s_cons (s_if (t_cmp (om_eq (u64 hr)) (q_var 3) q_int (L2.nomark _)) (s_one (s_ret (q_bin om_add (q_var 1) (q_cut (q_var 1) (o_some (q_var 2)) (o_some (q_bin om_add (q_var 2) q_int)))))) s_nil)
  (s_cons (s_if (t_cmp (om_eq (u64 hr)) (q_var 3) q_int (L2.nomark _)) (s_one (s_ret (q_back (q_var 1)))) s_nil)
  (s_cons (s_if (t_cmp (om_eq (u64 hr)) (q_var 3) q_int (L2.nomark _)) (s_one (s_ret (q_if (t_val (q_isi1 hT_list (q_var 1) rfl (c.free ifr_isinstance) rfl (c.free ifr_list) (by decide +kernel) (by decide +kernel))) (q_T cm_tuple rfl (c.free ifr_tuple) (by decide +kernel) (v_cons (q_var 1) v_nil)) (q_T cm_list rfl (c.free ifr_list) (by decide +kernel) (v_cons (q_var 1) v_nil))))) s_nil)
  (s_cons (s_set 4 sc__law_bent.nd rfl (by first | exact .inl rfl | exact .inr rfl) (q_draw (T__law_bent_1 c) hr hg rfl (L2.pv 0) (a_cons (q_ix (q_var 1) (q_var 2)) a_nil)))
  (s_one (s_ret (q_bin om_add (q_bin om_add (q_cut (q_var 1) o_none (o_some (q_var 2))) (q_if (t_val (q_isi1 hT_list (q_var 1) rfl (c.free ifr_isinstance) rfl (c.free ifr_list) (by decide +kernel) (by decide +kernel))) (q_lst (a_cons (q_var 4) a_nil)) (q_tup (a_cons (q_var 4) a_nil)))) (q_cut (q_var 1) (o_some (q_bin om_add (q_var 2) q_int)) o_none)))))))))))
theorem T__law_bent_3 (c : Facts fa fn tu K mg base) : PDn P w K mg base 5 "_law_bent" ["pot", "value"] s__law_bent F__law_bent_3 := by
  obtain ⟨fd, F⟩ := c.says.1.def_ 54 (d := d__law_bent) rfl
  exact fnD (y := "pot") (N := ["value", "at", "way", "one"]) (c.glo 54) F (F.bindsN fun _ _ _ _ _ _ us hl => match us, hl with | [_, _], _ => rfl) sc__law_bent rfl (by decide) fun cdv A outer s0 H E hr hg => (s_cons (s_if (L2.PW.pt (w_or (t_not (t_val (q_isi2 hT_list hT_tuple (by intro d; cases d <;> rfl) (q_var 1) rfl (c.free ifr_isinstance) (L2.pe_bltn rfl (c.free ifr_list) (by decide +kernel) rfl (by decide) (by decide)) (L2.pe_bltn rfl (c.free ifr_tuple) (by decide +kernel) rfl (by decide) (by decide)) (by decide +kernel)))) (w_or (t_cmp (om_eq (u64 hr)) (q_B cm_len rfl (c.free ifr_len) (by decide +kernel) (v_cons (q_var 1) v_nil)) q_int (L2.nomark _)) (w_or1 (t_cmp (om_eq (u64 hr)) (q_draw (T__law_draw c) hr hg rfl (L2.pv 0) (a_cons q_int a_nil)) q_int (L2.nomark _)))))) (s_one (s_ret (q_draw (T__law_pick c) hr hg rfl (L2.pv 0) (a_cons (q_lst (a_cons q_non (a_cons q_int (a_cons q_int (a_cons (q_un um_neg q_int) (a_cons q_bl (a_cons q_str (a_cons (q_tup (a_cons q_int (a_cons q_int a_nil))) (a_cons (q_tup (a_cons q_int (a_cons q_int a_nil))) (a_cons (q_tup (a_cons q_int (a_cons q_int a_nil))) (a_cons (q_tup (a_cons q_int (a_cons q_int a_nil))) (a_cons (q_tup (a_cons q_int (a_cons q_int a_nil))) (a_cons (q_tup (a_cons (q_un um_neg q_int) (a_cons q_int a_nil))) (a_cons (q_tup (a_cons q_int (a_cons (q_un um_neg q_int) a_nil))) (a_cons (q_lst a_nil) (a_cons (q_tup a_nil) (a_cons (q_tup (a_cons (q_bin om_add (q_bin om_pow q_int q_int) q_int) (a_cons (q_bin om_pow q_int q_int) a_nil))) a_nil))))))))))))))))) a_nil)))) s_nil)
  (s_cons (s_par2 2 3 false false rfl sc__law_bent.nd rfl rfl (by decide) rfl rfl (q_draw (T__law_draw c) hr hg rfl (L2.pv 0) (a_cons (q_B cm_len rfl (c.free ifr_len) (by decide +kernel) (v_cons (q_var 1) v_nil)) a_nil)) (q_draw (T__law_draw c) hr hg rfl (L2.pv 0) (a_cons q_int a_nil)) rfl)
  (s_cons (s_if (t_cmp (om_eq (u64 hr)) (q_var 3) q_int (L2.nomark _)) (s_one (s_ret (q_bin om_add (q_cut (q_var 1) o_none (o_some (q_var 2))) (q_cut (q_var 1) (o_some (q_bin om_add (q_var 2) q_int)) o_none)))) s_nil)
  (s_cons (s_if (t_cmp (om_eq (u64 hr)) (q_var 3) q_int (L2.nomark _)) (s_one (s_ret (q_bin om_add (q_var 1) (q_cut (q_var 1) (o_some (q_var 2)) (o_some (q_bin om_add (q_var 2) q_int)))))) s_nil)
  (s_cons (s_if (t_cmp (om_eq (u64 hr)) (q_var 3) q_int (L2.nomark _)) (s_one (s_ret (q_back (q_var 1)))) s_nil)
  (s_cons (s_if (t_cmp (om_eq (u64 hr)) (q_var 3) q_int (L2.nomark _)) (s_one (s_ret (q_if (t_val (q_isi1 hT_list (q_var 1) rfl (c.free ifr_isinstance) rfl (c.free ifr_list) (by decide +kernel) (by decide +kernel))) (q_T cm_tuple rfl (c.free ifr_tuple) (by decide +kernel) (v_cons (q_var 1) v_nil)) (q_T cm_list rfl (c.free ifr_list) (by decide +kernel) (v_cons (q_var 1) v_nil))))) s_nil)
  (s_cons (s_set 4 sc__law_bent.nd rfl (by first | exact .inl rfl | exact .inr rfl) (q_draw (T__law_bent_2 c) hr hg rfl (L2.pv 0) (a_cons (q_ix (q_var 1) (q_var 2)) a_nil)))
  (s_one (s_ret (q_bin om_add (q_bin om_add (q_cut (q_var 1) o_none (o_some (q_var 2))) (q_if (t_val (q_isi1 hT_list (q_var 1) rfl (c.free ifr_isinstance) rfl (c.free ifr_list) (by decide +kernel) (by decide +kernel))) (q_lst (a_cons (q_var 4) a_nil)) (q_tup (a_cons (q_var 4) a_nil)))) (q_cut (q_var 1) (o_some (q_bin om_add (q_var 2) q_int)) o_none)))))))))))
theorem T__law_bent (c : Facts fa fn tu K mg base) : PDn P w K mg base 5 "_law_bent" ["pot", "value"] s__law_bent F__law_bent := T__law_bent_3 c
theorem T__law_right (c : Facts fa fn tu K mg base) : PDn P w K mg base 8 "_law_right" ["pot"] s__law_right F__law_right := by
  obtain ⟨fd, F⟩ := c.says.1.def_ 55 (d := d__law_right) rfl
  exact fnD (y := "pot") (N := ["poly", "values", "value", "due", "shown", "size", "long", "other", "spot", "stretch", "near", "rows", "late", "at", "turn", "one"]) (c.glo 55) F (F.bindsN fun _ _ _ _ _ _ us hl => match us, hl with | [_], _ => rfl) sc__law_right rfl (by decide) fun cdv A outer s0 H E hr hg => (s_cons (s_set 1 sc__law_right.nd rfl (by first | exact .inl rfl | exact .inr rfl) (q_lc (own := [("at", 14)]) rfl sc__law_right.nd (by decide +kernel) (i_range1 rfl (c.free ifr_range) (q_draw (T__law_draw c) hr hg rfl (L2.pv 0) (a_cons q_int a_nil))) (L2.blkOk_by (by kernel_rfl)) (fun _ _ _ _ _ => (g_nm 14 sc__law_right.nd rfl (by first | exact .inl rfl | exact .inr rfl))) (fun _ _ _ _ _ => ts_nil) (fun _ _ _ _ _ => (q_draw (T__law_fraction c) hr hg rfl (L2.pv 0) a_nil))))
  (s_cons (s_set 2 sc__law_right.nd rfl (by first | exact .inl rfl | exact .inr rfl) (q_lst (a_cons (q_var 1) (a_cons (q_T cm_tuple rfl (c.free ifr_tuple) (by decide +kernel) (v_cons (q_var 1) v_nil)) (a_cons q_non (a_cons q_int (a_cons (q_tup a_nil) (a_cons (q_lst a_nil) (a_cons q_dict0 (a_cons q_str (a_cons (q_bin om_mul (q_lst (a_cons (q_tup (a_cons q_int (a_cons q_int a_nil))) a_nil)) q_int) (a_cons (q_bin om_mul (q_lst (a_cons (q_tup (a_cons q_int (a_cons q_int a_nil))) a_nil)) q_int) (a_cons (q_tup (a_cons q_int (a_cons q_int a_nil))) (a_cons (q_tup (a_cons (q_tup (a_cons q_int (a_cons q_int a_nil))) a_nil)) (a_cons (q_lst (a_cons (q_tup (a_cons (q_bin om_pow q_int q_int) (a_cons q_int a_nil))) a_nil)) (a_cons (q_lst (a_cons (q_tup (a_cons q_int (a_cons (q_bin om_pow q_int q_int) a_nil))) a_nil)) (a_cons (q_lst (a_cons q_non a_nil)) (a_cons (q_lst (a_cons (q_tup (a_cons q_int (a_cons q_int a_nil))) a_nil)) a_nil))))))))))))))))))
  (s_cons (s_for rfl rfl (i_seq (q_bin om_add (q_var 2) (q_lc (own := [("turn", 15)]) rfl sc__law_right.nd (by decide +kernel) (i_range1 rfl (c.free ifr_range) q_int) (L2.blkOk_by (by kernel_rfl)) (fun _ _ _ _ _ => (g_nm 15 sc__law_right.nd rfl (by first | exact .inl rfl | exact .inr rfl))) (fun _ _ _ _ _ => ts_nil) (fun _ _ _ _ _ => (q_draw (T__law_bent c) hr hg rfl (L2.pv 0) (a_cons (q_var 1) a_nil)))))) (g_nm 3 sc__law_right.nd rfl (by first | exact .inl rfl | exact .inr rfl)) (s_cons (s_par2 4 5 false false rfl sc__law_right.nd rfl rfl (by decide) rfl rfl (q_call (T__law_is_poly c) hr hg rfl (a_cons (q_var 3) a_nil)) (q_B (cm_repr c.sys hg hr) rfl (c.free ifr_repr) (by decide +kernel) (v_cons (q_var 3) v_nil)) rfl)
  (s_one (s_if (L2.PW.pt (w_or (t_cmp (om_ne (u64 hr)) (q_B (cm_repr c.sys hg hr) rfl (c.free ifr_repr) (by decide +kernel) (v_cons (q_lst (a_cons (q_call (T_is_poly c) hr hg rfl (a_cons (q_var 3) a_nil)) (a_cons (q_callK0 ["value"] [0] (T_is_poly c) hr hg rfl (k_cons (q_var 3) k_nil) (fun _ _ _ _ _ _ _ us ws h1 h2 => match us, ws, h1, h2 with | [], [_], _, _ => rfl) (aCons_len aNil_len)) a_nil))) v_nil)) (q_B (cm_repr c.sys hg hr) rfl (c.free ifr_repr) (by decide +kernel) (v_cons (q_lst (a_cons (q_var 4) (a_cons (q_var 4) a_nil))) v_nil)) (L2.nomark _)) (w_or1 (t_cmp (om_ne (u64 hr)) (q_B (cm_repr c.sys hg hr) rfl (c.free ifr_repr) (by decide +kernel) (v_cons (q_var 3) v_nil)) (q_var 5) (L2.nomark _))))) (s_one (s_ret q_bl)) s_nil))))
  (s_cons (s_set 6 sc__law_right.nd rfl (by first | exact .inl rfl | exact .inr rfl) (q_B cm_len rfl (c.free ifr_len) (by decide +kernel) (v_cons (q_lc (own := [("at", 14)]) rfl sc__law_right.nd (by decide +kernel) (i_range1 rfl (c.free ifr_range) (q_B cm_len rfl (c.free ifr_len) (by decide +kernel) (v_cons (q_var 1) v_nil))) (L2.blkOk_by (by kernel_rfl)) (fun _ _ _ _ _ => (g_nm 14 sc__law_right.nd rfl (by first | exact .inl rfl | exact .inr rfl))) (fun _ _ _ _ _ => (ts_one (t_val (q_B (cm_any rfl) rfl (c.free ifr_any) (by decide +kernel) (v_cons (q_lc (own := [("one", 16)]) rfl sc__law_right.nd (by decide +kernel) (i_seq (q_cut (q_var 1) (o_some (q_var 14)) o_none)) (L2.blkOk_by (by kernel_rfl)) (fun _ _ _ _ _ => (g_nm 16 sc__law_right.nd rfl (by first | exact .inl rfl | exact .inr rfl))) (fun _ _ _ _ _ => ts_nil) (fun _ _ _ _ _ => (q_cmp (om_ne (u64 hr)) (q_var 16) (q_tup (a_cons q_int (a_cons q_int a_nil))) (L2.nomark _)))) v_nil))))) (fun _ _ _ _ _ => (q_var 14))) v_nil)))
  (s_cons (s_par2 4 5 false false rfl sc__law_right.nd rfl rfl (by decide) rfl rfl (q_cut (q_var 1) o_none (o_some (q_var 6))) (q_B (cm_repr c.sys hg hr) rfl (c.free ifr_repr) (by decide +kernel) (v_cons (q_var 1) v_nil)) rfl)
  (s_cons (s_if (t_cmp (om_ne (u64 hr)) (q_B (cm_repr c.sys hg hr) rfl (c.free ifr_repr) (by decide +kernel) (v_cons (q_lst (a_cons (q_call (T_told c).pf hr hg rfl (a_cons (q_var 1) a_nil)) (a_cons (q_callK0 ["poly"] [0] (T_told c).pf hr hg rfl (k_cons (q_T cm_tuple rfl (c.free ifr_tuple) (by decide +kernel) (v_cons (q_var 1) v_nil)) k_nil) (fun _ _ _ _ _ _ _ us ws h1 h2 => match us, ws, h1, h2 with | [], [_], _, _ => rfl) (aCons_len aNil_len)) (a_cons (q_call (T_degree c) hr hg rfl (a_cons (q_var 1) a_nil)) (a_cons (q_callK0 ["poly"] [0] (T_degree c) hr hg rfl (k_cons (q_T cm_tuple rfl (c.free ifr_tuple) (by decide +kernel) (v_cons (q_var 1) v_nil)) k_nil) (fun _ _ _ _ _ _ _ us ws h1 h2 => match us, ws, h1, h2 with | [], [_], _, _ => rfl) (aCons_len aNil_len)) a_nil))))) v_nil)) (q_B (cm_repr c.sys hg hr) rfl (c.free ifr_repr) (by decide +kernel) (v_cons (q_lst (a_cons (q_var 4) (a_cons (q_var 4) (a_cons (q_bin om_sub (q_var 6) q_int) (a_cons (q_bin om_sub (q_var 6) q_int) a_nil))))) v_nil)) (L2.nomark _)) (s_one (s_ret q_bl)) s_nil)
  (s_cons (s_appO (q_callO (T_told c) hr hg rfl (a_cons (q_var 1) a_nil)) q_non)
  (s_cons (s_if (L2.PW.pt (w_or (t_cmp (om_ne (u64 hr)) (q_call (T_told c).pf hr hg rfl (a_cons (q_var 1) a_nil)) (q_var 4) (L2.nomark _)) (w_or1 (t_cmp (om_ne (u64 hr)) (q_B (cm_repr c.sys hg hr) rfl (c.free ifr_repr) (by decide +kernel) (v_cons (q_var 1) v_nil)) (q_var 5) (L2.nomark _))))) (s_one (s_ret q_bl)) s_nil)
  (s_cons (s_par2 7 8 false false rfl sc__law_right.nd rfl rfl (by decide) rfl rfl (q_bin om_add (q_var 4) (q_bin om_mul (q_lst (a_cons (q_tup (a_cons q_int (a_cons q_int a_nil))) a_nil)) (q_bin om_sub q_int (q_var 6)))) (q_lc (own := [("at", 14)]) rfl sc__law_right.nd (by decide +kernel) (i_range1 rfl (c.free ifr_range) (q_draw (T__law_draw c) hr hg rfl (L2.pv 0) (a_cons q_int a_nil))) (L2.blkOk_by (by kernel_rfl)) (fun _ _ _ _ _ => (g_nm 14 sc__law_right.nd rfl (by first | exact .inl rfl | exact .inr rfl))) (fun _ _ _ _ _ => ts_nil) (fun _ _ _ _ _ => (q_draw (T__law_fraction c) hr hg rfl (L2.pv 0) a_nil))) rfl)
  (s_cons (s_par2 9 10 false false rfl sc__law_right.nd rfl rfl (by decide) rfl rfl (q_draw (T__law_fraction c) hr hg rfl (L2.pv 0) a_nil) (q_tup (a_cons (q_tup (a_cons (q_un um_neg q_int) (a_cons q_int a_nil))) (a_cons (q_tup (a_cons q_int (a_cons q_int a_nil))) a_nil))) rfl)
  (s_cons (s_for rfl rfl (i_seq (q_tup (a_cons (q_var 4) (a_cons (q_T cm_tuple rfl (c.free ifr_tuple) (by decide +kernel) (v_cons (q_var 7) v_nil)) a_nil)))) (g_nm 11 sc__law_right.nd rfl (by first | exact .inl rfl | exact .inr rfl)) (s_cons (s_set 12 sc__law_right.nd rfl (by first | exact .inl rfl | exact .inr rfl) (q_lst (a_cons (q_call (T_plus c) hr hg rfl (a_cons (q_var 11) (a_cons (q_var 8) a_nil))) (a_cons (q_call (T_minus c) hr hg rfl (a_cons (q_var 8) (a_cons (q_var 11) a_nil))) (a_cons (q_call (T_times c) hr hg rfl (a_cons (q_var 11) (a_cons (q_var 8) a_nil))) (a_cons (q_call (T_derived c) hr hg rfl (a_cons (q_var 11) a_nil)) (a_cons (q_call (T_summed c) hr hg rfl (a_cons (q_var 11) a_nil)) (a_cons (q_call (T_moved c) hr hg rfl (a_cons (q_var 11) (a_cons (q_var 9) a_nil))) (a_cons (q_call (T_stretched c) hr hg rfl (a_cons (q_var 11) (a_cons (q_var 9) a_nil))) (a_cons (q_call (T_value_at c) hr hg rfl (a_cons (q_var 11) (a_cons (q_var 9) a_nil))) (a_cons (q_call (T_area c) hr hg rfl (a_cons (q_var 11) (a_cons (q_var 10) a_nil))) a_nil)))))))))))
  (s_cons (s_set 13 sc__law_right.nd rfl (by first | exact .inl rfl | exact .inr rfl) (q_lst (a_cons (q_call (T_plus c) hr hg rfl (a_cons (q_var 1) (a_cons (q_var 8) a_nil))) (a_cons (q_call (T_minus c) hr hg rfl (a_cons (q_var 8) (a_cons (q_var 1) a_nil))) (a_cons (q_call (T_times c) hr hg rfl (a_cons (q_var 1) (a_cons (q_var 8) a_nil))) (a_cons (q_call (T_derived c) hr hg rfl (a_cons (q_var 1) a_nil)) (a_cons (q_call (T_summed c) hr hg rfl (a_cons (q_var 1) a_nil)) (a_cons (q_call (T_moved c) hr hg rfl (a_cons (q_var 1) (a_cons (q_var 9) a_nil))) (a_cons (q_call (T_stretched c) hr hg rfl (a_cons (q_var 1) (a_cons (q_var 9) a_nil))) (a_cons (q_call (T_value_at c) hr hg rfl (a_cons (q_var 1) (a_cons (q_var 9) a_nil))) (a_cons (q_call (T_area c) hr hg rfl (a_cons (q_var 1) (a_cons (q_var 10) a_nil))) a_nil)))))))))))
  (s_cons (s_if (L2.PW.pt (w_or (t_cmp (om_ne (u64 hr)) (q_B (cm_repr c.sys hg hr) rfl (c.free ifr_repr) (by decide +kernel) (v_cons (q_var 12) v_nil)) (q_B (cm_repr c.sys hg hr) rfl (c.free ifr_repr) (by decide +kernel) (v_cons (q_var 13) v_nil)) (L2.nomark _)) (w_or (t_cmp om_isN (q_call (T_does_divide c) hr hg rfl (a_cons (q_var 11) (a_cons (q_var 1) a_nil))) q_bl (L2.nomark _)) (w_or1 (t_cmp om_isN (q_call (T_does_divide c) hr hg rfl (a_cons (q_var 1) (a_cons (q_var 11) a_nil))) q_bl (L2.nomark _)))))) (s_one (s_ret q_bl)) s_nil)
  (s_one (s_if (t_val (q_B (cm_any rfl) rfl (c.free ifr_any) (by decide +kernel) (v_cons (q_lc (own := [("one", 16)]) rfl sc__law_right.nd (by decide +kernel) (i_seq (q_cut (q_var 12) o_none (o_some q_int))) (L2.blkOk_by (by kernel_rfl)) (fun _ _ _ _ _ => (g_nm 16 sc__law_right.nd rfl (by first | exact .inl rfl | exact .inr rfl))) (fun _ _ _ _ _ => ts_nil) (fun _ _ _ _ _ => (q_and (q_cmp (om_ne (u64 hr)) (q_var 16) (q_lst a_nil) (L2.nomark _)) (q_and1 (q_cmp (om_eq (u64 hr)) (q_ix (q_var 16) (q_un um_neg q_int)) (q_tup (a_cons q_int (a_cons q_int a_nil))) (L2.nomark _)))))) v_nil))) (s_one (s_ret q_bl)) s_nil))))))
  (s_one (s_ret (q_and (q_cmp (om_eq (u64 hr)) (q_call (T_minus c) hr hg rfl (a_cons (q_var 1) (a_cons (q_var 7) a_nil))) (q_lst a_nil) (L2.nomark _)) (q_and1 (q_cmp (om_eq (u64 hr)) (q_call (T_degree c) hr hg rfl (a_cons (q_call (T_minus c) hr hg rfl (a_cons (q_var 7) (a_cons (q_var 1) a_nil))) a_nil)) (q_un um_neg q_int) (L2.nomark _)))))))))))))))))
theorem T_law (c : Facts fa fn tu K mg base) {fd : FuncData} (F : L2.FunD K "law" "law" (L2.defArgs s_law) (L2.defBody s_law) (L2.defScope s_law) [] [] (He.ga K "law") fd) : FnG P w K mg base L2.CX0 9 (He.ga K "law") fd ["script"] (spF K F_law) :=
  fnF (y := "script") (N := ["k"]) F sc_law fun cdv A outer s0 H E hr hg => (s_one (s_ret (q_B (cm_all rfl) rfl (c.free ifr_all) (by decide +kernel) (v_cons (q_lc (own := [("k", 1)]) rfl sc_law.nd (by decide +kernel) (i_range1 rfl (c.free ifr_range) (q_B (cm_max rfl) rfl (c.free ifr_max) (by decide +kernel) (v_cons q_int (v_cons (q_B (cm_min rfl) rfl (c.free ifr_min) (by decide +kernel) (v_cons q_int (v_cons (q_lenF 0 (L2.pv 0) rfl (c.free ifr_len) (by decide +kernel)) v_nil))) v_nil)))) (L2.blkOk_by (by kernel_rfl)) (fun _ _ _ _ _ => (g_nm 1 sc_law.nd rfl (by first | exact .inl rfl | exact .inr rfl))) (fun _ _ _ _ _ => ts_nil) (fun _ _ _ _ _ => (q_right 0 (T__law_right c) (T__law_pot c) hr hg rfl rfl (L2.pv 0) (a_cons (q_var 1) a_nil)))) v_nil))))
end
def loose0 : List PySem.Str := [Str.ofString "is_integer", Str.ofString "is_list", Str.ofString "divisor", Str.ofString "is_fraction_of", Str.ofString "is_small", Str.ofString "check_fraction", Str.ofString "are_fractions", Str.ofString "are_small", Str.ofString "reduced", Str.ofString "add", Str.ofString "take", Str.ofString "multiply", Str.ofString "divide", Str.ofString "turned", Str.ofString "is_below", Str.ofString "is_poly_of", Str.ofString "check_poly", Str.ofString "check_polys", Str.ofString "check_spot", Str.ofString "is_stretch_of", Str.ofString "check_stretch", Str.ofString "told_of", Str.ofString "value_of", Str.ofString "plus_of", Str.ofString "minus_of", Str.ofString "times_of", Str.ofString "derived_of", Str.ofString "summed_of", Str.ofString "moved_of", Str.ofString "stretched_of", Str.ofString "area_of", Str.ofString "is_poly", Str.ofString "told", Str.ofString "degree", Str.ofString "value_at", Str.ofString "plus", Str.ofString "minus", Str.ofString "times", Str.ofString "derived", Str.ofString "summed"]
def loose1 : List PySem.Str := [Str.ofString "moved", Str.ofString "stretched", Str.ofString "area", Str.ofString "divided_of", Str.ofString "does_divide", Str.ofString "_law_pot", Str.ofString "_law_draw", Str.ofString "_law_pick", Str.ofString "_law_divisor", Str.ofString "_law_cut", Str.ofString "_law_fraction", Str.ofString "_law_is_integer", Str.ofString "_law_is_fraction", Str.ofString "_law_is_poly", Str.ofString "_law_bent", Str.ofString "_law_right", Str.ofString "BentError", Str.ofString "InvalidPoly", Str.ofString "InvalidStretch", Str.ofString "InvalidSpot", Str.ofString "InvalidFraction", Str.ofString "MOST_TOP", Str.ofString "MOST_BOTTOM", Str.ofString "NOUGHT", Str.ofString "MOST_NUMBERS"]
def loose : List PySem.Str := loose0 ++ loose1
/-! ### the head -/
abbrev R0 : PySem.W.OpenRow := PySem.W.OpenLaw.row PySem.Challenge.rw_bentpieces_k11_any_value_as_poly_and_tol
abbrev hk : PySem.W.Hook := hookM 4 fa fn tu
def ob (s : PySem.W.SharedT) : AlM := obsM 4 fa fn tu (HandSHeadRun.getT s)
theorem ob_eq (s : PySem.W.SharedT) : ob s = hk.obs s.abs := obsM_eq (HandSHeadRun.getT_eq s)
theorem run (w : World) : HandSHeadRun.RunEq R0 (PySem.W.view R0.prog [71]) hk ob 6000 loose w := by
  intro os
  kernel_rfl
end L_k11


namespace L_k11
open BP
theorem draw_ok : DrawOk F__law_draw := C_draw_ok (by decide) (by decide) (by decide) (by decide)
theorem pick_ok : PickOk F__law_pick := C_pick_ok draw_ok
theorem pots_ok : PotsOk F__law_pot := C_pot_ok (by decide) (by decide) (by decide) (by decide) (by decide)
theorem sRet_ok {a : ME} {env : Env} {st st1 : Pt} {x : EV} {u : D} (h : a env st = .ok (x, st1)) (hv : x.val = .ok u) : sRet a env st = .ok (.rt u st1) := by
  unfold sRet
  rw [h]
  show (x.val.bind _) = _
  rw [hv]
  rfl
/-! ### any value -/
theorem l_int_ok (d : D) : F__law_is_integer [d] = .ok (.bool (intB d)) := by
  cases d <;> simp [F__law_is_integer, m__law_is_integer, intB]
theorem l_fr_any (d : D) (hl : ∀ ds, d = .tuple ds → ds.length ≤ 1000000) : F__law_is_fraction [d] = .ok (.bool (frB d)) := by
  cases d with
  | tuple ds =>
    have key : mLc (iSeq (mVar 0)) (.nm 1) [1] (mC (.bool true)) (mCall F__law_is_integer (aCons (mVar 1) aNil)) [.im (.tuple ds), .no] [] = .ok (.ow (ds.map fun d => .bool (intB d)), []) := by
      refine lc_bool intB (hl ds rfl) rfl (fun d _ st => ⟨[.im (.tuple ds), .im d], by simp, ?_⟩) (by simp)
      simp [l_int_ok]
    match ds, key with
    | [], key => simp [F__law_is_fraction, m__law_is_fraction, frB, sh_i, eqv_i]
    | [x], key => simp [F__law_is_fraction, m__law_is_fraction, frB, sh_i, eqv_i]
    | x :: y :: z :: r, key =>
      have h : ((r.length : Int) + 1 + 1 + 1 == 2) = false := by
        rw [beq_eq_false_iff_ne]
        omega
      simp [F__law_is_fraction, m__law_is_fraction, frB, sh_i, eqv_i, h]
    | [x, y], key =>
      have kb := bAll_map [x, y] intB
      cases hxy : (intB x && intB y) with
      | false =>
        have e : frB (.tuple [x, y]) = false := by
          cases x <;> cases y <;> first | rfl | cases hxy
        simp only [List.map_cons, List.map_nil] at key kb
        simp [F__law_is_fraction, m__law_is_fraction, sh_i, eqv_i, key, kb, hxy, e]
      | true =>
        rw [Bool.and_eq_true] at hxy
        obtain ⟨a, rfl⟩ := int_of hxy.1
        obtain ⟨b, rfl⟩ := int_of hxy.2
        simp only [List.map_cons, List.map_nil] at key kb
        have kb2 : bAll [.list [.bool true, .bool true]] = bl true := rfl
        by_cases hb : 1 ≤ b
        · obtain ⟨n, rfl⟩ : ∃ n : Nat, b = n := ⟨b.toNat, by omega⟩
          have Dv : BP2.F__law_divisor [.int (a.natAbs : Int), .int (n : Int)] = .ok (.int (a.natAbs.gcd n : Nat)) := divisor_ok a.natAbs n
          have e := gcd_is a.natAbs n
          simp [F__law_is_fraction, m__law_is_fraction, sh_i, eqv_i, key, kb2, hxy, hb, abs_if, Dv, frB, e]
        · simp [F__law_is_fraction, m__law_is_fraction, sh_i, eqv_i, key, kb2, hxy, hb, frB]
  | _ => simp [F__law_is_fraction, m__law_is_fraction, frB]
def polyB : D → Bool
  | .list xs => decide (xs.length ≤ 5) && xs.all frB
  | .tuple xs => decide (xs.length ≤ 5) && xs.all frB
  | _ => false
structure Val (d : D) : Prop where
  t : Tame 20000 5 d
  e : ∀ xs, d = .list xs ∨ d = .tuple xs → xs.length ≤ 100 ∧ ∀ x ∈ xs, ∀ ys, x = .tuple ys → ys.length ≤ 1000000
theorem is_poly_any {d : D} (h : Val d) : F_is_poly [d] = .ok (.bool (polyB d)) ∧ F__law_is_poly [d] = .ok (.bool (polyB d)) := by
  have key : ∀ xs : List D, (d = .list xs ∨ d = .tuple xs) → F_is_poly [d] = .ok (.bool (decide (xs.length ≤ 5) && xs.all frB)) ∧ F__law_is_poly [d] = .ok (.bool (decide (xs.length ≤ 5) && xs.all frB)) := fun xs hd => by
    obtain ⟨hl, hx⟩ := h.e xs hd
    have L1 := lcL_mapg (pt := .nm 1) (e := mCall F_is_fraction_of (aCons (mVar 1) aNil)) (env := [.im d, .no]) (st := []) id (fun x => .bool (frB x)) xs fun x _ => ⟨[.im d, .im x], by simp, by simp [fr_any]⟩
    rw [List.map_id] at L1
    have L2 := lcL_mapg (pt := .nm 1) (e := mCall F__law_is_fraction (aCons (mVar 1) aNil)) (env := [.im d, .no]) (st := []) id (fun x => .bool (frB x)) xs fun x hxm => ⟨[.im d, .im x], by simp, by simp [l_fr_any x (hx x hxm)]⟩
    rw [List.map_id] at L2
    have hll : xs.length ≤ LIM := by show _ ≤ 1000000; omega
    have M1 := mLc_ok (it := iSeq (mVar 0)) (vs := [1]) (env := [.im d, .no]) (st := []) (ds := xs) (by rcases hd with rfl | rfl <;> simp) ⟨hll, rfl⟩ L1
    have M2 := mLc_ok (it := iSeq (mVar 0)) (vs := [1]) (env := [.im d, .no]) (st := []) (ds := xs) (by rcases hd with rfl | rfl <;> simp) ⟨hll, rfl⟩ L2
    have A := bAll_g frB xs
    generalize xs.map (fun x => (.bool (frB x) : D)) = bs at M1 M2 A
    have IL : F_is_list [d] = .ok (.bool true) := by rcases hd with rfl | rfl <;> simp [F_is_list, m_is_list]
    have AF : F_are_fractions [d] = .ok (.bool (xs.all frB)) := by
      refine runP_rt (st := []) rfl ?_
      show m_are_fractions [.im d, .no] [] = _
      unfold m_are_fractions
      simp [-iSeq, IL, M1, A]
    have ln : bLen [d] = .ok (.im (.int (xs.length : Int))) := by rcases hd with rfl | rfl <;> simp
    have l5 : decide ((xs.length : Int) ≤ 5) = decide (xs.length ≤ 5) := by
      rw [decide_eq_decide]
      omega
    constructor
    · have P : F_is_poly_of [d] = .ok (.bool (decide (xs.length ≤ 5) && xs.all frB)) := by
        refine runP_rt (st := []) rfl ?_
        show m_is_poly_of [.im d] [] = _
        unfold m_is_poly_of
        generalize xs.all frB = bb at AF ⊢
        cases bb <;> simp [AF, ln, l5]
      refine runP_rt (st := []) rfl ?_
      show m_is_poly [.im d] [] = _
      unfold m_is_poly
      exact sRet_ok (mCall_ok rfl P) rfl
    · refine runP_rt (st := []) rfl ?_
      show m__law_is_poly [.im d, .no] [] = _
      unfold m__law_is_poly
      have it : (oIsI .listtuple) d = bl true := by rcases hd with rfl | rfl <;> rfl
      by_cases c : xs.length ≤ 5
      · have c' : (xs.length : Int) ≤ 5 := by omega
        simp [-iSeq, -oIsI, it, ln, c, c', M2, A]
      · have c' : ¬ (xs.length : Int) ≤ 5 := by omega
        simp [-iSeq, -oIsI, it, ln, c, c']
  cases hd : d with
  | list xs =>
    rw [← hd]
    have := key xs (.inl hd)
    rw [hd] at this ⊢
    exact this
  | tuple xs =>
    have := key xs (.inr hd)
    rw [hd] at this
    exact this
  | _ =>
    have AF : ∀ x : D, (∀ xs, x ≠ .list xs) → (∀ xs, x ≠ .tuple xs) → F_is_poly [x] = .ok (.bool false) ∧ F__law_is_poly [x] = .ok (.bool false) := fun x h1 h2 => by
      cases x with
      | list xs => exact absurd rfl (h1 xs)
      | tuple xs => exact absurd rfl (h2 xs)
      | _ =>
        constructor
        · simp [F_is_poly, m_is_poly, F_is_poly_of, m_is_poly_of, F_are_fractions, m_are_fractions, F_is_list, m_is_list]
        · simp [F__law_is_poly, m__law_is_poly]
    exact AF _ (fun xs e => by cases e) fun xs e => by cases e
theorem bool_repr (b : Bool) : reprOk (.list [.bool b, .bool b]) = true := by cases b <;> decide +kernel
/-! ### bent values -/
def atoms : List D := [.none, .int 0, .int 1, .int (-1), .bool true, .str "1", .tuple [.int 1, .int 2], .tuple [.int 0, .int 1], .tuple [.int 0, .int 2], .tuple [.int 2, .int 4], .tuple [.int 1, .int 0], .tuple [.int (-1), .int 2], .tuple [.int 1, .int (-2)], .list [], .tuple [], .tuple [.int (10 ^ 20 + 1), .int (10 ^ 20)]]
instance (n k : Nat) (d : D) : Decidable (Tame n k d) := by unfold Tame; infer_instance
theorem atoms_tame : ∀ d ∈ atoms, Tame 300 1 d := by decide +kernel
theorem atoms_short : ∀ d ∈ atoms, ∀ ys, d = .tuple ys ∨ d = .list ys → ys.length ≤ 2 ∧ ∀ y ∈ ys, ∀ zs, y ≠ .tuple zs := fun d hd ys h => by
  simp only [atoms, List.mem_cons, List.not_mem_nil, or_false] at hd
  rcases hd with rfl | rfl | rfl | rfl | rfl | rfl | rfl | rfl | rfl | rfl | rfl | rfl | rfl | rfl | rfl | rfl <;> rcases h with h | h <;> first | (cases h; done) | (cases h; refine ⟨by simp, fun y hy zs e => ?_⟩; subst e; simp at hy)
theorem pick_atom (st : Pt) (h : PotOk st) : ∃ y st', F__law_pick [.list atoms] st = .ok (y, st') ∧ PotOk st' ∧ y ∈ atoms := by
  obtain ⟨y, st', e, hy, p⟩ := pick_ok atoms st (by simp [atoms]) (by simp [atoms]) h
  exact ⟨y, st', e, p, hy⟩
def ptest : ME := (mOr (mUn oNot (mUn (oIsI .listtuple) (mVar 1))) (mOr (mBin oEq (mB bLen (vCons (mVar 1) vNil)) (mC (.int 0))) (mBin oEq (mDraw F__law_draw (aCons (mC (.int 7)) aNil)) (mC (.int 0)))))
theorem bent_atom {G : PD} {v : D} {st st1 : Pt} (h1 : PotOk st1) (ht : ptest [.pt, .im v, .no, .no, .no] st = .ok (.im (.bool true), st1)) : ∃ y st', runD 2 5 (m__law_bent G) [v] st = .ok (y, st') ∧ PotOk st' ∧ y ∈ atoms := by
  obtain ⟨y, st2, e, p2, hy⟩ := pick_atom st1 h1
  refine ⟨y, st2, runD_rt rfl ?_, p2, hy⟩
  show m__law_bent G [.pt, .im v, .no, .no, .no] st = _
  unfold m__law_bent
  have e2 : F__law_pick [.list [.none, .int 0, .int 1, .int (-1), .bool true, .str "1", .tuple [.int 1, .int 2], .tuple [.int 0, .int 1], .tuple [.int 0, .int 2], .tuple [.int 2, .int 4], .tuple [.int 1, .int 0], .tuple [.int (-1), .int 2], .tuple [.int 1, .int (-2)], .list [], .tuple [], .tuple [.int 100000000000000000001, .int 100000000000000000000]]] st1 = .ok (y, st2) := e
  unfold ptest at ht
  unfold sSeq
  rw [sIf_true ht (r := .ok (.rt y st2)) (by simp [e2])]
  rfl
def likeV : D → List D → D
  | .list _, zs => .list zs
  | _, zs => .tuple zs
def unlikeV : D → List D → D
  | .list _, zs => .tuple zs
  | _, zs => .list zs
theorem like_or (v : D) (zs : List D) : likeV v zs = .list zs ∨ likeV v zs = .tuple zs := by
  cases v <;> first | exact .inl rfl | exact .inr rfl
theorem unlike_or (v : D) (zs : List D) : unlikeV v zs = .list zs ∨ unlikeV v zs = .tuple zs := by
  cases v <;> first | exact .inl rfl | exact .inr rfl
theorem bent_gen {G : PD} {v : D} {xs : List D} (hv : v = .list xs ∨ v = .tuple xs) (hn : xs ≠ []) (hl : xs.length ≤ 20) (P : D → Prop) (hG : ∀ x ∈ xs, ∀ st, PotOk st → ∃ y st', G [x] st = .ok (y, st') ∧ PotOk st' ∧ P y) (st : Pt) (h : PotOk st) :
    ∃ y st', runD 2 5 (m__law_bent G) [v] st = .ok (y, st') ∧ PotOk st' ∧ (y ∈ atoms ∨ ∃ zs, (y = .list zs ∨ y = .tuple zs) ∧ zs.length ≤ xs.length + 1 ∧ ∀ z ∈ zs, z ∈ xs ∨ P z) := by
  obtain ⟨n, hn1⟩ : ∃ n, xs.length = n + 1 := by
    cases xs with
    | nil => exact absurd rfl hn
    | cons a l => exact ⟨l.length, rfl⟩
  obtain ⟨a, st1, e1, a1, a2, p1⟩ := draw_ok 7 st (by omega) (by omega) h
  have ln : bLen [v] = .ok (.im (.int ((n : Int) + 1))) := by rcases hv with rfl | rfl <;> simp [hn1]
  have it : (oIsI .listtuple) v = bl true := by rcases hv with rfl | rfl <;> rfl
  have nz : ¬ (n : Int) + 1 = 0 := by omega
  by_cases a0 : a = 0
  · obtain ⟨y, st2, e, p2, hy⟩ := bent_atom (G := G) (v := v) (st := st) p1 (by unfold ptest; simp [-oIsI, -oEq, eI', it, ln, nz, e1, a0])
    exact ⟨y, st2, e, p2, .inl hy⟩
  · have t1 : ptest [.pt, .im v, .no, .no, .no] st = .ok (.im (.bool false), st1) := by
      unfold ptest
      simp [-oIsI, -oEq, eI', it, ln, nz, e1, a0]
    obtain ⟨at', st2, e2, b1, b2, p2⟩ := draw_ok ((n : Int) + 1) st1 (by omega) (by omega) p1
    obtain ⟨i, rfl⟩ : ∃ k : Nat, at' = k := ⟨at'.toNat, by omega⟩
    obtain ⟨way, st3, e3, w1, w2, p3⟩ := draw_ok 9 st2 (by omega) (by omega) p2
    have hi : i < xs.length := by omega
    obtain ⟨x, hx⟩ : ∃ x, xs[i]? = some x := ⟨xs[i], List.getElem?_eq_getElem hi⟩
    have xm := List.mem_of_getElem? hx
    have s7 : m__law_bent G [.pt, .im v, .no, .no, .no] st = k__law_bent_6 G [.pt, .im v, .im (.int (i : Int)), .im (.int way), .no] st3 := by
      unfold m__law_bent
      unfold ptest at t1
      refine (seq_nx (sIf_false t1 rfl)).trans ?_
      unfold k__law_bent_7
      exact seq_nx (by simp [ln, e2, e3])
    have c1 : cutD xs none (some (i : Int)) = xs.take i := cutF_to xs i
    have c2 : cutD xs (some ((i : Int) + 1)) none = xs.drop (i + 1) := cutF_from xs (i + 1)
    have c3 : cutD xs (some (i : Int)) (some ((i : Int) + 1)) = [x] := by
      have z1 : sIxD xs.length 0 (some (i : Int)) = i := by
        have h0 : ¬ (i : Int) < 0 := by omega
        show (if (i : Int) < 0 then ((i : Int) + (xs.length : Int)).toNat else min (i : Int).toNat xs.length) = i
        rw [if_neg h0]
        omega
      have z2 : sIxD xs.length xs.length (some ((i : Int) + 1)) = i + 1 := by
        have h0 : ¬ (i : Int) + 1 < 0 := by omega
        show (if (i : Int) + 1 < 0 then ((i : Int) + 1 + (xs.length : Int)).toNat else min ((i : Int) + 1).toNat xs.length) = i + 1
        rw [if_neg h0]
        omega
      unfold cutD
      rw [z1, z2]
      have : i + 1 - i = 1 := by omega
      rw [this]
      have hx2 : xs[i] = x := by
        have := List.getElem?_eq_getElem hi
        rw [hx] at this
        injection this with this
        exact this.symm
      rw [List.drop_eq_getElem_cons hi, hx2]
      rfl
    have lt : (xs.take i).length ≤ 20 := by rw [List.length_take]; omega
    have ld : (xs.drop (i + 1)).length ≤ 20 := by rw [List.length_drop]; omega
    have lsum : (xs.take i).length + (xs.drop (i + 1)).length + 1 = xs.length := by
      rw [List.length_take, List.length_drop]
      omega
    have tm : ∀ z ∈ xs.take i, z ∈ xs := fun z hz => List.mem_of_mem_take hz
    have dm : ∀ z ∈ xs.drop (i + 1), z ∈ xs := fun z hz => List.mem_of_mem_drop hz
    have ix : atD xs (i : Int) = some x := by
      unfold atD ixD
      rw [if_pos (Int.natCast_nonneg i), if_pos (by omega)]
      simpa using hx
    by_cases w0 : way = 0
    · refine ⟨likeV v (xs.take i ++ xs.drop (i + 1)), st3, runD_rt rfl (s7.trans ?_), p3, .inr ⟨xs.take i ++ xs.drop (i + 1), ?_, by rw [List.length_append]; omega, fun z hz => ?_⟩⟩
      · unfold k__law_bent_6
        generalize xs.take i = A at c1 lt lsum
        generalize xs.drop (i + 1) = B at c2 ld lsum
        have l1 : A.length + B.length ≤ 1000000 := by omega
        rcases hv with rfl | rfl <;> simp [-oEq, eI', w0, c1, c2, l1, likeV]
      · exact like_or _ _
      · rcases List.mem_append.mp hz with hz | hz
        · exact .inl (tm z hz)
        · exact .inl (dm z hz)
    · have s6 : k__law_bent_6 G [.pt, .im v, .im (.int (i : Int)), .im (.int way), .no] st3 = k__law_bent_5 G [.pt, .im v, .im (.int (i : Int)), .im (.int way), .no] st3 := by
        unfold k__law_bent_6
        exact seq_nx (sIf_false (st1 := st3) (by simp [-oEq, eI', w0]) rfl)
      rw [s6] at s7
      by_cases w1' : way = 1
      · refine ⟨likeV v (xs ++ [x]), st3, runD_rt rfl (s7.trans ?_), p3, .inr ⟨xs ++ [x], ?_, by rw [List.length_append]; exact Nat.le_refl _, fun z hz => ?_⟩⟩
        · unfold k__law_bent_5
          have l1 : xs.length + 1 ≤ 1000000 := by omega
          have l2 : xs.length ≤ 999999 := by omega
          rcases hv with rfl | rfl <;> simp [-oEq, eI', w1', c3, l1, l2, likeV]
        · exact like_or _ _
        · rcases List.mem_append.mp hz with hz | hz
          · exact .inl hz
          · rw [List.mem_singleton] at hz
            rw [hz]
            exact .inl xm
      · have s5 : k__law_bent_5 G [.pt, .im v, .im (.int (i : Int)), .im (.int way), .no] st3 = k__law_bent_4 G [.pt, .im v, .im (.int (i : Int)), .im (.int way), .no] st3 := by
          unfold k__law_bent_5
          exact seq_nx (sIf_false (st1 := st3) (by simp [-oEq, eI', w1']) rfl)
        rw [s5] at s7
        by_cases w2' : way = 2
        · refine ⟨likeV v xs.reverse, st3, runD_rt rfl (s7.trans ?_), p3, .inr ⟨xs.reverse, ?_, by rw [List.length_reverse]; omega, fun z hz => .inl (List.mem_reverse.mp hz)⟩⟩
          · unfold k__law_bent_4
            rcases hv with rfl | rfl <;> simp [-oEq, eI', w2', likeV]
          · exact like_or _ _
        · have s4 : k__law_bent_4 G [.pt, .im v, .im (.int (i : Int)), .im (.int way), .no] st3 = k__law_bent_3 G [.pt, .im v, .im (.int (i : Int)), .im (.int way), .no] st3 := by
            unfold k__law_bent_4
            exact seq_nx (sIf_false (st1 := st3) (by simp [-oEq, eI', w2']) rfl)
          rw [s4] at s7
          by_cases w3' : way = 3
          · refine ⟨unlikeV v xs, st3, runD_rt rfl (s7.trans ?_), p3, .inr ⟨xs, ?_, by omega, fun z hz => .inl hz⟩⟩
            · unfold k__law_bent_3
              rcases hv with rfl | rfl <;> simp [-oEq, eI', w3', unlikeV]
            · exact unlike_or _ _
          · have s3 : k__law_bent_3 G [.pt, .im v, .im (.int (i : Int)), .im (.int way), .no] st3 = k__law_bent_2 G [.pt, .im v, .im (.int (i : Int)), .im (.int way), .no] st3 := by
              unfold k__law_bent_3
              exact seq_nx (sIf_false (st1 := st3) (by simp [-oEq, eI', w3']) rfl)
            obtain ⟨y, st4, e4, p4, hy⟩ := hG x xm st3 p3
            have s2 : k__law_bent_2 G [.pt, .im v, .im (.int (i : Int)), .im (.int way), .no] st3 = k__law_bent_1 G [.pt, .im v, .im (.int (i : Int)), .im (.int way), .im y] st4 := by
              unfold k__law_bent_2
              refine seq_nx ?_
              rcases hv with rfl | rfl <;> simp [ix, e4]
            rw [s3, s2] at s7
            refine ⟨likeV v (xs.take i ++ (y :: xs.drop (i + 1))), st4, runD_rt rfl (s7.trans ?_), p4, .inr ⟨xs.take i ++ (y :: xs.drop (i + 1)), ?_, by rw [List.length_append, List.length_cons]; omega, fun z hz => ?_⟩⟩
            · unfold k__law_bent_1
              generalize xs.take i = A at c1 lt lsum
              generalize xs.drop (i + 1) = B at c2 ld lsum
              have l1 : A.length + 1 ≤ 1000000 := by omega
              have l2 : A.length + (1 + B.length) ≤ 1000000 := by omega
              have l3 : A.length + 1 + B.length ≤ 1000000 := by omega
              have l4 : A.length ≤ 999999 := by omega
              rcases hv with rfl | rfl <;> simp [c1, c2, l1, l2, l3, l4, likeV]
            · exact like_or _ _
            · rcases List.mem_append.mp hz with hz | hz
              · exact .inl (tm z hz)
              · rcases List.mem_cons.mp hz with rfl | hz
                · exact .inr hy
                · exact .inl (dm z hz)
end L_k11

namespace L_k11
open BP
theorem frac_ok (st : Pt) (h : PotOk st) : ∃ q st', F__law_fraction [] st = .ok (qD q, st') ∧ PotOk st' ∧ Nr q := by
  obtain ⟨a, st1, e1, a1, a2, p1⟩ := draw_ok 4 st (by omega) (by omega) h
  by_cases h0 : a = 0
  · subst h0
    exact ⟨0, st1, by simp [F__law_fraction, m__law_fraction, e1, sh_i, eqv_i, q0], p1, In_zero _ _ (by decide), by decide +kernel⟩
  · obtain ⟨x, st2, e2, hx, p2⟩ := pick_ok [.int 3, .int 9, .int 99] st1 (by simp) (by simp) p1
    obtain ⟨far, rfl, f1, f2⟩ : ∃ far : Int, x = .int far ∧ 1 ≤ far ∧ far ≤ 99 := by
      simp at hx
      rcases hx with rfl | rfl | rfl
      · exact ⟨3, rfl, by omega, by omega⟩
      · exact ⟨9, rfl, by omega, by omega⟩
      · exact ⟨99, rfl, by omega, by omega⟩
    obtain ⟨t, st3, e3, t1, t2, p3⟩ := draw_ok (2 * far + 1) st2 (by omega) (by omega) p2
    obtain ⟨y, st4, e4, hy, p4⟩ := pick_ok [.int 1, .int 1, .int 2, .int 3, .int 7] st3 (by simp) (by simp) p3
    obtain ⟨b, rfl, b1, b2, b3⟩ : ∃ b : Int, y = .int b ∧ 1 ≤ b ∧ b ≤ 7 ∧ b.toNat ∣ 42 := by
      simp at hy
      rcases hy with rfl | rfl | rfl | rfl
      · exact ⟨1, rfl, by omega, by omega, by decide⟩
      · exact ⟨2, rfl, by omega, by omega, by decide⟩
      · exact ⟨3, rfl, by omega, by omega, by decide⟩
      · exact ⟨7, rfl, by omega, by omega, by decide⟩
    have h9 : (99 : Nat) < 2 ^ 9000 := by decide +kernel
    have r : BP2.F__law_cut [.int (t - far), .int b] = .ok (qD (Rat.divInt (t - far) b)) := cut_ok (t - far) b (by omega) (by omega)
    have m2 : mulOk 2 far = true := mulOk_of 10 20 (by decide) (by omega) (by decide)
    have h0' : (a == 0) = false := by simpa using h0
    exact ⟨Rat.divInt (t - far) b, st4, by simp [F__law_fraction, m__law_fraction, e1, sh_i, eqv_i, h0', h0, e2, m2, e3, e4, r], p4, frac_in (by omega) b1 b3 (by decide), sm_dv (by omega) (by omega) (by omega)⟩
theorem rows_ok (E : Env) (h0 : getE E 0 = .pt) (h14 : (wipeE E [14]) = E) (st : Pt) (h : PotOk st) (h15 : ∀ x, ∃ e1, (Pat.nm 14).set x E = .ok e1 ∧ getE e1 0 = .pt) (hl : isLk (getE E 14) = false) : ∃ p st', mLc (iRange1 (mDraw F__law_draw (aCons (mC (.int 6)) aNil))) (.nm 14) [14] (mC (.bool true)) (mDraw F__law_fraction aNil) E st = .ok (.ow (pL p), st') ∧ PotOk st' ∧ Pr p := by
  obtain ⟨t, st1, e1, t1, t2, p1⟩ := draw_ok 6 st (by omega) (by omega) h
  obtain ⟨k, rfl⟩ : ∃ k : Nat, t = k := ⟨t.toNat, by omega⟩
  obtain ⟨xs, st2, e2, hl', hxs, p2⟩ := lcL_draw (p := .nm 14) (e := mDraw F__law_fraction aNil) (env := E) (fun x => ∃ q, x = qD q ∧ Nr q) (rangeL 0 (k : Int)) st1 p1 fun d _ st hpt => by
    obtain ⟨q, st', e, p', hq⟩ := frac_ok st hpt
    obtain ⟨e1, a1, a2⟩ := h15 d
    exact ⟨e1, a1, qD q, st', by simp [a2, e], ⟨q, rfl, hq⟩, p'⟩
  obtain ⟨p, rfl, hP⟩ := rows_of' (P := Nr) hxs
  rw [range_len, pL_len] at hl'
  have R := iR1N (m := mDraw F__law_draw (aCons (mC (.int 6)) aNil)) (env := E) (st := st) (st' := st1) (k := k) (by simp [h0, e1]) (by omega)
  refine ⟨p, st2, mLc_ok R ⟨by rw [range_len]; show k ≤ 1000000; omega, by simp [hl]⟩ (by rw [h14]; exact e2), p2, fun a ha => (hP a ha).i, by omega, List.all_eq_true.mpr fun a ha => (hP a ha).s⟩
/-! ### bent values, step by step -/
theorem int_bent (i : Int) (st : Pt) (h : PotOk st) : ∃ y st', F__law_bent_1 [.int i] st = .ok (y, st') ∧ PotOk st' ∧ y ∈ atoms := bent_atom h (by unfold ptest; simp)
structure Good (y : D) : Prop where
  t : Tame 1000 3 y
  l : ∀ ys, y = .tuple ys → ys.length ≤ 1000000
theorem Nr.num {q : Rat} (h : Nr q) : q.num.natAbs < 2 ^ 100 ∧ q.den < 2 ^ 100 := h.i.qs (by decide) (by decide) (by decide)
theorem fr_bent {q : Rat} (hq : Nr q) (st : Pt) (h : PotOk st) : ∃ y st', F__law_bent_2 [qD q] st = .ok (y, st') ∧ PotOk st' ∧ Good y := by
  obtain ⟨y, st', e, p, hy⟩ := bent_gen (G := F__law_bent_1) (v := qD q) (xs := [.int q.num, .int (q.den : Int)]) (.inr rfl) (by simp) (by simp) (· ∈ atoms) (fun x hx st hp => by
    simp only [List.mem_cons, List.not_mem_nil, or_false] at hx
    rcases hx with rfl | rfl
    · exact int_bent _ st hp
    · exact int_bent _ st hp) st h
  refine ⟨y, st', e, p, ?_⟩
  obtain ⟨n1, n2⟩ := Nr.num hq
  rcases hy with hy | ⟨zs, hz, hl, hm⟩
  · exact ⟨(atoms_tame y hy).mono (by decide) (by decide), fun ys e => by have := (atoms_short y hy ys (.inl e)).1; omega⟩
  · have ht : ∀ z ∈ zs, Tame 300 1 z := fun z hzm => by
      rcases hm z hzm with h | h
      · simp only [List.mem_cons, List.not_mem_nil, or_false] at h
        rcases h with rfl | rfl
        · exact (tame_int n1 (by decide)).mono (by decide) (by decide)
        · exact (tame_int (i := (q.den : Int)) (k := 100) (by simpa using n2) (by decide)).mono (by decide) (by decide)
      · exact atoms_tame z h
    have l3 : zs.length ≤ 3 := hl
    have ta := TameAll.of ht
    have lm : (300 + 2) * zs.length ≤ (300 + 2) * 3 := Nat.mul_le_mul_left _ l3
    rcases hz with rfl | rfl
    · exact ⟨ta.list.mono (by omega) (by decide), fun ys e => by cases e⟩
    · exact ⟨ta.tuple.mono (by omega) (by decide), fun ys e => by cases e; omega⟩
theorem atom_val {y : D} (hy : y ∈ atoms) : Val y := ⟨(atoms_tame y hy).mono (by decide) (by decide), fun xs h => by
  obtain ⟨a, b⟩ := atoms_short y hy xs h.symm
  exact ⟨by omega, fun x hx ys e => absurd e (b x hx ys)⟩⟩
theorem q_good {q : Rat} (hq : Nr q) : Good (qD q) := ⟨(tame_q (hq.i.qs (k := 100) (by decide) (by decide) (by decide)) (by decide)).mono (by decide) (by decide), fun ys e => by cases e; simp⟩
theorem list_val {zs : List D} {y : D} (hz : y = .list zs ∨ y = .tuple zs) (hl : zs.length ≤ 10) (h : ∀ z ∈ zs, Good z) : Val y := by
  have ta := TameAll.of fun z hzm => (h z hzm).t
  have lm : (1000 + 2) * zs.length ≤ (1000 + 2) * 10 := Nat.mul_le_mul_left _ hl
  constructor
  · rcases hz with rfl | rfl
    · exact ta.list.mono (by omega) (by decide)
    · exact ta.tuple.mono (by omega) (by decide)
  · intro xs hx
    have e : xs = zs := by
      rcases hz with rfl | rfl <;> rcases hx with hx | hx <;> cases hx <;> rfl
    subst e
    exact ⟨by omega, fun x hxm ys e => (h x hxm).l ys e⟩
theorem poly_good {p : List Rat} (hp : Pr p) : ∀ z ∈ pL p, Good z := fun z hz => by
  obtain ⟨q, hq, rfl⟩ := List.mem_map.mp hz
  exact q_good ⟨hp.i q hq, List.all_eq_true.mp hp.s q hq⟩
theorem poly_bent {p : List Rat} (hp : Pr p) (st : Pt) (h : PotOk st) : ∃ y st', F__law_bent [pD p] st = .ok (y, st') ∧ PotOk st' ∧ Val y := by
  have lp := hp.l
  show ∃ y st', F__law_bent_3 [pD p] st = .ok (y, st') ∧ PotOk st' ∧ Val y
  by_cases hn : p = []
  · subst hn
    obtain ⟨y, st', e, p', hy⟩ := bent_atom (G := F__law_bent_2) (v := pD []) (st := st) (st1 := st) h (by
      unfold ptest
      show _ = BP.R.ok (EV.im (.bool true), st)
      simp [-oEq, eI', pD])
    exact ⟨y, st', e, p', atom_val hy⟩
  · have hn2 : pL p ≠ [] := fun z => hn (by simpa [pL] using z)
    obtain ⟨y, st', e, p', hy⟩ := bent_gen (G := F__law_bent_2) (v := pD p) (xs := pL p) (.inl rfl) hn2 (by rw [pL_len]; omega) Good (fun x hx st hpt => by
      obtain ⟨q, hq, rfl⟩ := List.mem_map.mp hx
      exact fr_bent ⟨hp.i q hq, List.all_eq_true.mp hp.s q hq⟩ st hpt) st h
    refine ⟨y, st', e, p', ?_⟩
    rcases hy with hy | ⟨zs, hz, hl, hm⟩
    · exact atom_val hy
    · rw [pL_len] at hl
      exact list_val hz (by omega) fun z hzm => by
        rcases hm z hzm with h | h
        · exact poly_good hp z h
        · exact h
def one1 : D := .tuple [.int 1, .int 1]
def fixed0 : List D := [.none, .int 0, .tuple [], .list [], .dict [], .str "poly", .list [one1, one1, one1, one1, one1, one1], .list [one1, one1, one1, one1, one1], .tuple [.int 1, .int 2], .tuple [.tuple [.int 1, .int 2]], .list [.tuple [.int (10 ^ 15), .int 1]], .list [.tuple [.int 1, .int (10 ^ 15)]], .list [.none], .list [one1]]
def fixedV (p : List Rat) : List D := pD p :: .tuple (pL p) :: fixed0
theorem fixed0_tame : ∀ d ∈ fixed0, Tame 20000 5 d := by decide +kernel
theorem fixed0_val : ∀ d ∈ fixed0, Val d := fun d hd => ⟨fixed0_tame d hd, fun xs h => by
  simp only [fixed0, List.mem_cons, List.not_mem_nil, or_false] at hd
  rcases hd with rfl | rfl | rfl | rfl | rfl | rfl | rfl | rfl | rfl | rfl | rfl | rfl | rfl | rfl <;> rcases h with h | h <;> first | (cases h; done) | (cases h; refine ⟨by simp, fun x hx ys e => ?_⟩; subst e; simp [one1] at hx; try (subst hx); try (simp))⟩
theorem fixed_val {p : List Rat} (hp : Pr p) : ∀ d ∈ fixedV p, Val d := fun d hd => by
  have lp := hp.l
  rcases List.mem_cons.mp hd with rfl | hd
  · exact list_val (.inl rfl) (by rw [pL_len]; omega) (poly_good hp)
  · rcases List.mem_cons.mp hd with rfl | hd
    · exact list_val (.inr rfl) (by rw [pL_len]; omega) (poly_good hp)
    · exact fixed0_val d hd
theorem value_step {p : List Rat} {v : D} (hv : Val v) {x4 x5 : EV} (h4 : isPt x4 = false) (h5 : isPt x5 = false) (st : Pt) : b__law_right_1 [.pt, .im (pD p), .im (.list (fixedV p)), .im v, x4, x5, .no, .no, .no, .no, .no, .no, .no, .no, .no, .no, .no] st = .ok (.nx [.pt, .im (pD p), .im (.list (fixedV p)), .im v, .im (.bool (polyB v)), .im (.str v.shown), .no, .no, .no, .no, .no, .no, .no, .no, .no, .no, .no] st) := by
  obtain ⟨l1, l2⟩ := is_poly_any hv
  have RV := hv.t.repr (by decide) (by decide)
  have RB := bool_repr (polyB v)
  unfold b__law_right_1
  refine (seq_nx (env1 := [.pt, .im (pD p), .im (.list (fixedV p)), .im v, .im (.bool (polyB v)), .im (.str v.shown), .no, .no, .no, .no, .no, .no, .no, .no, .no, .no, .no]) (st1 := st) (by simp [l2, RV, h4, h5])).trans ?_
  refine sIf_false (st1 := st) ?_ rfl
  simp [-oNe, l1, RB, oNe_str, RV]
end L_k11

namespace L_k11
open BP
/-! ### told lists: how long -/
theorem strip_take : ∀ p : List Rat, p.take (strip p).length = strip p
  | [] => rfl
  | a :: p => by
    have ih := strip_take p
    unfold strip
    split
    · simp
    · simp [ih]
def nzB (p : List Rat) : Bool := p.any fun a => !decide (a = 0)
theorem nz_drop : ∀ (p : List Rat) (k : Nat), nzB (p.drop k) = decide (k < (strip p).length)
  | [], k => by simp [nzB, strip]
  | a :: p, 0 => by
    have ih := nz_drop p 0
    rw [List.drop_zero] at ih ⊢
    have e : nzB (a :: p) = (!decide (a = 0) || nzB p) := by simp [nzB]
    have es : strip (a :: p) = if a = 0 ∧ strip p = [] then [] else a :: strip p := rfl
    rw [e, ih, es]
    by_cases h1 : a = 0 <;> by_cases h2 : strip p = []
    · simp [h1, h2]
    · have := List.length_pos_iff.mpr h2
      simp [h1, h2, this]
    · simp [h1, h2]
    · simp [h1, h2]
  | a :: p, k + 1 => by
    have ih := nz_drop p k
    rw [List.drop_succ_cons, ih]
    rw [decide_eq_decide]
    by_cases h : a = 0 ∧ strip p = []
    · rw [strip, if_pos h, h.2]
      simp
    · rw [strip, if_neg h, List.length_cons]
      omega
theorem flt_len (s : Nat) : ∀ n : Nat, ((List.range n).filter fun k => decide (k < s)).length = min s n
  | 0 => by simp
  | n + 1 => by
    have ih := flt_len s n
    rw [List.range_succ, List.filter_append, List.length_append, ih]
    by_cases h : n < s
    · simp [h]
      omega
    · simp [h]
      omega
theorem last_told {r : List Rat} (h : strip r = r) (hn : r ≠ []) : ∃ q a, r = q ++ [a] ∧ a ≠ 0 := by
  rcases List.eq_nil_or_concat r with rfl | ⟨q, a, rfl⟩
  · exact absurd rfl hn
  · rw [List.concat_eq_append] at h ⊢
    refine ⟨q, a, rfl, fun z => ?_⟩
    subst z
    rw [strip_snoc0] at h
    have := strip_le q
    rw [h, List.length_append] at this
    simp at this
    omega
theorem bools_g {α : Type} (g : α → Bool) (l : List α) : boolsOf (l.map fun a => (.bool (g a) : D)) = some (l.map g) := BP.bools_g g l
theorem bAny_g {α : Type} (g : α → Bool) (l : List α) : bAny [.list (l.map fun a => .bool (g a))] = bl (l.any g) := by
  rw [bAny_l, bools_g]
  simp
theorem sExpr_ok {a : ME} {env : Env} {st st1 : Pt} {x : EV} (h : a env st = .ok (x, st1)) : sExpr a env st = .ok (.nx env st1) := by
  unfold sExpr
  rw [h]
  rfl
/-! ### the program's, by rows -/
section
variable {d e : D} {p q r : List Rat} {x c : Rat}
theorem timesR_of {A M T : PF} {z : ME} (hA : Op A (· + ·)) (hM : Op M (· * ·)) (hT : ToldOk T) (hz : ∀ env st, z env st = .ok (.im (qD 0), st)) (n n1 m m1 : Nat) (h0 : 0 < n) (h1 : 0 < n1) (hd : Row d p) (hp : Inp n m p) (hq : Inp n1 m1 q) (fp : Fits p) (fq : Fits q) (hc : Cap (n * n1) (p.length * (q.length * (m * m1)) + m * m1)) (hlen : p.length + q.length < 800) : runP 2 7 (C_mul A M T z) [d, pD q] = .ok (pD (strip (pmul p q))) := by
  have hr : Inp (n * n1) 0 (zeros (p.length + q.length)) := fun z hz => by
    rw [List.eq_of_mem_replicate hz]
    exact In_zero _ _ (Nat.mul_pos h0 h1)
  obtain ⟨s1, t1, u1, v1, e⟩ := mul_out hA hM (.im d) q fq n n1 m m1 h0 h1 hq [] p (zeros (p.length + q.length)) 0 0 .no .no .no .no rfl rfl rfl rfl fp hp hr (hc.mono (by omega)) (hc.mono (by omega)) (by simp [zeros])
  have T1 := hT (pD (pmul p q)) (pmul p q) (Row.l _) (by unfold pmul; rw [mulRows_len]; simp [zeros]; omega)
  have rp : oMul (.list [qD 0]) (.int ((p.length : Int) + (q.length : Int))) = .ok (.ow (pL (zeros (p.length + q.length)))) := by
    have e : ((p.length : Int) + (q.length : Int)).toNat = p.length + q.length := by omega
    rw [oMul_l, e, if_pos (by simp; omega), flat_rep, zeros, pL_rep]
  unfold pmul pD at T1
  unfold pD at e
  rcases hd with rfl | rfl <;> simp [C_mul, hz, -oMul_l, rp, sFor, enum_pL, pD, e, T1, pmul]
theorem timesR (hd : Row d p) (hp : Pr p) (hq : Pr q) : BP2.F_times [d, pD q] = .ok (pD (strip (pmul p q))) := by
  have c1 := check_poly_ok hd hp.l hp.s
  have c2 := check_poly_ok (Row.l q) hq.l hq.s
  have a : BP2.F_times_of [d, pD q] = .ok (pD (strip (pmul p q))) := timesR_of add_op mul_op toldV_ok (fun _ _ => rfl) 42 42 99 99 (by decide) (by decide) hd hp.i hq.i hp.fits hq.fits (mul_cap hp.l hq.l) (by have := hp.l; have := hq.l; omega)
  unfold pD at *
  rcases hd with rfl | rfl <;> simp [BP2.F_times, BP2.m_times, F_check_polys, m_check_polys, c1, c2, a]
theorem derivedR (hd : Row d p) (hp : Pr p) : F_derived [d] = .ok (pD (strip (dv p))) := by
  have hl := hp.l
  have fp := hp.fits
  have c1 := check_poly_ok hd hp.l hp.s
  have L := lc_enum (F := F_multiply) (e := mCall F_multiply (aCons (mVar 2) (aCons (mTup (aCons (mVar 1) (aCons (mC (.int 1)) aNil))) aNil))) (i := 1) (j := 2) (env := [.im d, .no, .no]) (p := p) (fun k : Nat => co p k * (k : Rat)) (fun x y => ⟨[.im d, .im x, .im y], by simp, rfl, rfl⟩) fun k env1 hk h1 h2 => by
    have m : F_multiply [qD (co p k), qD ((k : Nat) : Rat)] = .ok (qD (co p k * (k : Rat))) := mul_op _ _ (fp _ (co_mem hk)) (fit_nat' (by omega))
    have q : (.tuple [.int (k : Int), .int 1] : D) = qD ((k : Nat) : Rat) := qi _
    simp [h1, h2, q, m]
  rw [dl_eq] at L
  have T := toldV_ok (.list (pL (dv p))) (dv p) (Row.l _) (by rw [dv_len]; omega)
  have l : (enumL (pL p)).length ≤ LIM := by
    rw [enum_len]
    show _ ≤ 1000000
    omega
  have k0 : mLc (iEnumL (mVar 0)) (.tp [(.nm 1), (.nm 2)]) [1, 2] (mC (.bool true)) (mCall F_multiply (aCons (mVar 2) (aCons (mTup (aCons (mVar 1) (aCons (mC (.int 1)) aNil))) aNil))) [.im d, .no, .no] [] = .ok (.ow (pL ((List.range p.length).map fun k : Nat => (k : Rat) * co p k)), []) := mLc_ok (by rcases hd with rfl | rfl <;> simp) ⟨l, rfl⟩ L
  have e : (pL ((List.range p.length).map fun k : Nat => (k : Rat) * co p k)).tail = pL (dv p) := pL_tail _
  have D : F_derived_of [d] = .ok (pD (strip (dv p))) := by
    refine runP_rt (st := []) rfl ?_
    show m_derived_of [.im d, .no, .no] [] = _
    simp [m_derived_of, k0, cut1, e, T]
  refine runP_rt (st := []) rfl ?_
  show m_derived [.im d] [] = _
  unfold m_derived
  exact (seq_nx (sExpr_ok (mCall_ok rfl c1))).trans (sRet_ok (mCall_ok rfl D) rfl)
theorem toldR (hd : Row d p) (hp : Pr p) : F_told [d] = .ok (pL (strip p)) ∧ V_told [d] = .ok (pD (strip p)) := by
  have c1 := check_poly_ok hd hp.l hp.s
  have T := told2_ok d p hd (by have := hp.l; omega)
  have k : F_told [d] = .ok (pL (strip p)) := by
    refine runPo_ro (st := []) rfl ?_
    show m_told [.im d] [] = _
    unfold m_told
    refine (seq_nx (sExpr_ok (mCall_ok rfl c1))).trans ?_
    simp [T]
  refine ⟨k, ?_⟩
  unfold V_told
  rw [k]
  rfl
theorem degreeR (hd : Row d p) (hp : Pr p) : F_degree [d] = .ok (.int (((strip p).length : Int) - 1)) := by
  have c1 := check_poly_ok hd hp.l hp.s
  have T := toldV_ok d p hd (by have := hp.l; omega)
  refine runP_rt (st := []) rfl ?_
  show m_degree [.im d] [] = _
  unfold m_degree
  refine (seq_nx (sExpr_ok (mCall_ok rfl c1))).trans ?_
  simp [T, pD]
/-! ### divided by itself -/
theorem self_mul (t : List Rat) : strip (pmul [1] t) = strip t := strip_ext fun n => by
  rw [ev_pmul]
  simp
  grind
theorem self_less (t : List Rat) : strip (padd t (pmulc (-1) t)) = [] := strip_nil_of _ fun k => by
  rw [co_padd, co_pmulc]
  grind
theorem divided_self (hd : Row d p) (he : Row e q) (hp : Pr p) (hq : Pr q) (h : strip p = strip q) (hn : strip p ≠ []) : F_divided_of [d, e] = .ok (.tuple [pD [1], pD []]) := by
  obtain ⟨t, ht⟩ : ∃ t, t = strip p := ⟨_, rfl⟩
  have lt : t.length ≤ 5 := by
    rw [ht]
    exact Nat.le_trans (strip_le _) hp.l
  have it : Inp 42 99 t := by
    rw [ht]
    exact hp.i.strip
  have ft : Fits t := by
    rw [ht]
    exact hp.fits.strip
  have st : strip t = t := by rw [ht, strip_strip]
  rw [← ht] at hn h
  obtain ⟨t0, a, et, na⟩ := last_told st hn
  have T1 := toldV_ok d p hd (by have := hp.l; omega)
  have T2 := toldV_ok e q he (by have := hq.l; omega)
  rw [← ht] at T1
  rw [← h] at T2
  have al : atD (pL t) (-1) = some (qD a) := by
    rw [et, pL_app]
    exact at_last _ _
  have fa : Fit a := ft a (by rw [et]; simp)
  have Dv : F_divide [qD a, qD a] = .ok (qD 1) := by
    have := divide_ok a a fa fa na
    rw [this]
    congr 2
    rw [Rat.div_def, Rat.mul_inv_cancel a na]
  have f1 : Fits [1] := fun z hz => by
    rw [List.mem_singleton.mp hz]
    exact fit1
  have X : BP2.F_times_of [pD [1], pD t] = .ok (pD t) := by
    have := times2_ok [1] t 42 42 99 99 (by decide) (by decide) (Inp1 (In_one _ _ (by decide) (by decide))) it f1 ft (mul_cap (by simp) lt) (by simp; omega)
    rw [this, self_mul, st]
  have Y : BP2.F_minus_of [pD t, pD t] = .ok (pD []) := by
    have := minus2_ok (pD t) (pD t) t t (Row.l _) (Row.l _) (by omega) (by omega) ft ft
    rw [this, self_less]
  have Z1 : BP2.V_told_of [pD [1]] = .ok (pD [1]) := by
    have := toldV_ok (pD [1]) [1] (Row.l _) (by simp)
    rw [this]
    rfl
  have Z0 : BP2.V_told_of [pD []] = .ok (pD []) := toldV_ok (pD []) [] (Row.l _) (by simp)
  have t1 : 1 ≤ t.length := List.length_pos_iff.mpr hn
  refine runP_rt (st := []) rfl ?_
  show m_divided_of [.im d, .im e, .no, .no, .no, .no, .no] [] = _
  unfold m_divided_of
  refine (seq_nx (env1 := [.im d, .im e, .im (pD t), .im (pD t), .no, .no, .no]) (st1 := []) (by simp [T1, T2])).trans ?_
  refine (seq_nx (env1 := [.im d, .im e, .im (pD t), .im (pD t), .ow [qD 0], .no, .no]) (st1 := []) (by simp [pD, q0])).trans ?_
  have body : b_divided_of_1 [.im d, .im e, .im (pD t), .im (pD t), .ow [qD 0], .no, .no] [] = .ok (.nx [.im d, .im e, .im (pD []), .im (pD t), .ow [qD 1], .im (.int 0), .im (qD 1)] []) := by
    unfold b_divided_of_1
    refine (seq_nx (env1 := [.im d, .im e, .im (pD t), .im (pD t), .ow [qD 0], .im (.int 0), .im (qD 1)]) (st1 := []) (by simp [pD, al, Dv])).trans ?_
    refine (seq_nx (env1 := [.im d, .im e, .im (pD t), .im (pD t), .ow [qD 1], .im (.int 0), .im (qD 1)]) (st1 := []) (by simp [ixD])).trans ?_
    unfold pD at X Y Z0
    simp at X Y Z0
    have c0 : ∀ lo hi, cutD ([] : List D) lo hi = [] := fun lo hi => by simp [cutD]
    simp [pD, q0, X, Y, Z0, c0]
  have loop : (sWhile fuel_divided_of_1 (mBin oGe (mB bLen (vCons (mVar 2) vNil)) (mB bLen (vCons (mVar 3) vNil))) b_divided_of_1) [.im d, .im e, .im (pD t), .im (pD t), .ow [qD 0], .no, .no] [] = .ok (.nx [.im d, .im e, .im (pD []), .im (pD t), .ow [qD 1], .im (.int 0), .im (qD 1)] []) := by
    have n0 : ¬ (t.length : Int) ≤ 0 := by omega
    show whileL _ _ 1000 _ _ = _
    have n1 : t ≠ [] := hn
    rw [whileL]
    have c1 : (mBin oGe (mB bLen (vCons (mVar 2) vNil)) (mB bLen (vCons (mVar 3) vNil))) [.im d, .im e, .im (pD t), .im (pD t), .ow [qD 0], .no, .no] [] = .ok (.im (.bool true), []) := by simp [pD]
    have c2 : (mBin oGe (mB bLen (vCons (mVar 2) vNil)) (mB bLen (vCons (mVar 3) vNil))) [.im d, .im e, .im (pD []), .im (pD t), .ow [qD 1], .im (.int 0), .im (qD 1)] [] = .ok (.im (.bool false), []) := by simp [pD, n1]
    rw [c1]
    show (b_divided_of_1 _ _).bind _ = _
    rw [body]
    show whileL (mBin oGe (mB bLen (vCons (mVar 2) vNil)) (mB bLen (vCons (mVar 3) vNil))) b_divided_of_1 999 [.im d, .im e, .im (pD []), .im (pD t), .ow [qD 1], .im (.int 0), .im (qD 1)] [] = _
    rw [whileL, c2]
    rfl
  refine (seq_nx loop).trans ?_
  unfold pD at Z1
  simp at Z1
  simp [pD, Z1]
theorem dd_ok (hd : Row d p) (he : Row e q) (hp : Pr p) (hq : Pr q) (h : strip p = strip q) : F_does_divide [d, e] = .ok (.bool true) := by
  have c1 := check_poly_ok hd hp.l hp.s
  have c2 := check_poly_ok he hq.l hq.s
  have C : F_check_polys [d, e] = .ok .none := by
    rcases hd with rfl | rfl <;> rcases he with rfl | rfl <;> simp [F_check_polys, m_check_polys, c1, c2]
  have T1 := toldV_ok d p hd (by have := hp.l; omega)
  have T2 := toldV_ok e q he (by have := hq.l; omega)
  have eq0 : ∀ s : List Rat, oEq (pD s) (.list []) = bl (decide (s = [])) := fun s => by
    have f1 := sh_p s
    have f2 := eqv_pn s
    have f3 : PySem.SeqAt.shaped (PySem.PyData.list []) = true := rfl
    unfold pD
    simp [f1, f2, f3]
    try rfl
  refine runP_rt (st := []) rfl ?_
  show m_does_divide [.im d, .im e] [] = _
  unfold m_does_divide
  refine (seq_nx (sExpr_ok (mCall_ok rfl C))).trans ?_
  by_cases hn : strip p = []
  · rw [← h, hn] at T2
    rw [hn] at T1
    have e0 := eq0 []
    simp only [decide_true] at e0
    have := sIf_true (c := mBin oEq (mCall BP2.V_told_of (aCons (mVar 0) aNil)) (mLst aNil)) (a := sRet (mBin oEq (mCall BP2.V_told_of (aCons (mVar 1) aNil)) (mLst aNil))) (b := sNil) (env := [.im d, .im e]) (st := []) (st1 := []) (r := .ok (.rt (.bool true) [])) (by simp [-oEq, T1, e0]) (by simp [-oEq, T2, e0])
    unfold sSeq
    rw [this]
    rfl
  · have e1 := eq0 (strip p)
    simp only [hn, decide_false] at e1
    refine (seq_nx (sIf_false (st1 := []) (by simp [-oEq, T1, e1]) rfl)).trans ?_
    have D := divided_self he hd hq hp h.symm (by rw [← h]; exact hn)
    have e0 := eq0 []
    simp only [decide_true] at e0
    have a1 : atD [pD [1], pD []] 1 = some (pD []) := by simp [atD, ixD]
    simp [-oEq, D, a1, e0]
end
end L_k11

namespace L_k11
open BP
def S7 (a b c d e f g : List Rat) : List (List Rat) := [a, b, c, d, e, f, g]
def rowsV (S : List (List Rat)) (v a : Rat) : List D := S.map pD ++ [qD v, qD a]
theorem tame_q' {q : Rat} {n m : Nat} (h0 : 0 < n) (h : In n m q) (h1 : n < 2 ^ 1800) (h2 : m * n < 2 ^ 1800) : Tame 50000 2 (qD q) := (tame_q (k := 1800) (h.qs h0 h1 h2) (by decide)).mono (by decide) (by decide)
theorem neg_in {q : List Rat} {n m : Nat} (h0 : 0 < n) (h : Inp n m q) : Inp n m (pmulc (-1) q) := fun a ha => by
  unfold pmulc at ha
  obtain ⟨b, hb, rfl⟩ := List.mem_map.mp ha
  have e : b * (-1) = -b := by grind
  rw [e]
  exact (h b hb).neg h0
theorem dv_in {q : List Rat} {n m : Nat} (h0 : 0 < n) (h : Inp n m q) {l : Nat} (hl : q.length ≤ l) : Inp n (l * m) (dv q) := fun a ha => by
  unfold dv at ha
  obtain ⟨k, hk, rfl⟩ := List.mem_map.mp (List.mem_of_mem_tail ha)
  rw [List.mem_range] at hk
  have := (In_int 1 (k : Int) l (by decide) (by rw [Int.natAbs_natCast]; omega)).mul (h.co h0 k) (by decide) h0
  rw [Nat.one_mul] at this
  exact this
theorem ev_le {n m l : Nat} {p : List Rat} {x : Rat} (h0 : 0 < n) (hp : Inp n m p) (hl : p.length ≤ l) (hx : Nr x) : In (n * 42 ^ l) (l * (m * 99 ^ l)) (ev p x) := by
  have h := Inp.ev h0 (by decide) hx.i (by decide) hp
  have d : n * 42 ^ p.length ∣ n * 42 ^ l := Nat.mul_dvd_mul_left _ (Nat.pow_dvd_pow _ hl)
  have big : 0 < n * 42 ^ l := Nat.mul_pos h0 (Nat.pow_pos (by decide))
  exact (h.dvd big d).mono (Nat.mul_le_mul hl (Nat.mul_le_mul_left _ (Nat.pow_le_pow_right (by decide) hl)))
theorem half : Nr (-1 / 2) := ⟨by
  have e : (-1 / 2 : Rat) = Rat.divInt (-1) 2 := by decide +kernel
  rw [e]
  exact frac_in (by decide) (by decide) (by decide) (by decide), by decide +kernel⟩
theorem three : Nr 3 := ⟨by
  have e : (3 : Rat) = Rat.divInt 3 1 := by decide +kernel
  rw [e]
  exact frac_in (by decide) (by decide) (by decide) (by decide), by decide +kernel⟩
structure Nine (p o : List Rat) (x : Rat) (a b c d e f g : List Rat) (v w : Rat) : Prop where
  t : ∀ r ∈ S7 a b c d e f g, strip r = r
  r : reprOk (.list (rowsV (S7 a b c d e f g) v w)) = true
  n : ∀ (z : D) (r : List Rat), Row z r → Pr r → (∀ k, co r k = co p k) →
    BP2.F_plus [z, pD o] = .ok (pD a) ∧ BP2.F_minus [pD o, z] = .ok (pD b) ∧ BP2.F_times [z, pD o] = .ok (pD c) ∧ F_derived [z] = .ok (pD d) ∧ BP2.F_summed [z] = .ok (pD e) ∧ BP2.F_moved [z, qD x] = .ok (pD f) ∧ BP2.F_stretched [z, qD x] = .ok (pD g) ∧ F_value_at [z, qD x] = .ok (qD v) ∧ BP2.F_area [z, .tuple [qD (-1 / 2), qD 3]] = .ok (qD w)
theorem sm1_co {p r : List Rat} (h : ∀ k, co r k = co p k) : strip (sm1 r) = strip (sm1 p) := strip_eq_of _ _ fun k => by
  have z : ∀ q : List Rat, ∀ k, co (sm1 q) (k + 1) = co q k / ((k + 1 : Nat) : Rat) := fun q k => by
    unfold sm1
    rw [co_consS, co_mapR]
    split
    · rfl
    · rename_i hk
      rw [co_big (by omega)]
      grind
  cases k with
  | zero => rfl
  | succ k => rw [z, z, h]
theorem nine_ok {p o : List Rat} {x : Rat} (hp : Pr p) (ho : Pr o) (hx : Nr x) : ∃ a b c d e f g v w, Nine p o x a b c d e f g v w := by
  have lp := hp.l
  have lo := ho.l
  have cM : Cap (42 * 42 ^ 6) (99 * (11 * 99 + 1) ^ 6) := by constructor <;> decide +kernel
  have cX : Cap 42 99 := by constructor <;> decide +kernel
  have cS : Cap (42 * 42 ^ 5) (99 * 99 ^ 5) := by constructor <;> decide +kernel
  obtain ⟨f, m1, m2, m3⟩ := moved4 (Row.l p) lp hp.s (by decide) (by decide) (by decide) hp.i hx.i cM cX hx.s
  obtain ⟨g, s1, s2, s3⟩ := stretched4 (Row.l p) lp hp.s (by decide) (by decide) (by decide) (by decide) hp.i hx.i cS cX hx.s
  have is : Inp (42 * 60) 99 (sm1 p) := sm1_in (by decide) hp.i lp
  have ls : (sm1 p).length ≤ 6 := by rw [sm1_len]; omega
  refine ⟨strip (padd p o), strip (padd o (pmulc (-1) p)), strip (pmul p o), strip (dv p), strip (sm1 p), f, g, ev p x, ev (sm1 p) 3 - ev (sm1 p) (-1 / 2), ?_, ?_, ?_⟩
  · intro r hr
    simp only [S7, List.mem_cons, List.not_mem_nil, or_false] at hr
    rcases hr with rfl | rfl | rfl | rfl | rfl | rfl | rfl
    · exact strip_strip _
    · exact strip_strip _
    · exact strip_strip _
    · exact strip_strip _
    · exact strip_strip _
    · exact m2.told
    · exact s2.told
  · have i1 : Inp 42 198 (strip (padd p o)) := (Inp.padd (by decide) hp.i ho.i).strip
    have i2 : Inp 42 198 (strip (padd o (pmulc (-1) p))) := (Inp.padd (by decide) ho.i (neg_in (by decide) hp.i)).strip
    have i3 : Inp (42 * 42) (25 * (99 * 99)) (strip (pmul p o)) := by
      refine ((Inp.pmul (by decide) (by decide) hp.i ho.i).mono ?_).strip
      have : p.length * (o.length * (99 * 99)) ≤ 5 * (5 * (99 * 99)) := Nat.mul_le_mul lp (Nat.mul_le_mul_right _ lo)
      omega
    have i4 : Inp 42 (5 * 99) (strip (dv p)) := (dv_in (by decide) hp.i lp).strip
    have l1 : (strip (padd p o)).length ≤ 10 := Nat.le_trans (strip_le _) (by rw [padd_len]; omega)
    have l2 : (strip (padd o (pmulc (-1) p))).length ≤ 10 := Nat.le_trans (strip_le _) (by rw [padd_len]; simp [pmulc]; omega)
    have l3 : (strip (pmul p o)).length ≤ 10 := by
      refine Nat.le_trans (strip_le _) ?_
      unfold pmul
      rw [mulRows_len]
      simp [zeros]
      omega
    have l4 : (strip (dv p)).length ≤ 10 := Nat.le_trans (strip_le _) (by rw [dv_len]; omega)
    have l5 : (strip (sm1 p)).length ≤ 10 := Nat.le_trans (strip_le _) (by omega)
    have v1 := ev_le (by decide) hp.i lp hx
    have v2 := ev_le (by decide) is ls three
    have v3 := (ev_le (by decide) is ls half).neg (by decide +kernel)
    have v4 := v2.add v3 (by decide +kernel)
    rw [← Rat.sub_eq_add_neg] at v4
    have al : ∀ d ∈ rowsV (S7 (strip (padd p o)) (strip (padd o (pmulc (-1) p))) (strip (pmul p o)) (strip (dv p)) (strip (sm1 p)) f g) (ev p x) (ev (sm1 p) 3 - ev (sm1 p) (-1 / 2)), Tame 50000 2 d := fun d hd => by
      simp only [rowsV, S7, List.map_cons, List.map_nil, List.cons_append, List.nil_append, List.mem_cons, List.not_mem_nil, or_false] at hd
      rcases hd with rfl | rfl | rfl | rfl | rfl | rfl | rfl | rfl | rfl
      · exact tame_p (by decide) i1 l1 (by decide +kernel) (by decide +kernel)
      · exact tame_p (by decide) i2 l2 (by decide +kernel) (by decide +kernel)
      · exact tame_p (by decide) i3 l3 (by decide +kernel) (by decide +kernel)
      · exact tame_p (by decide) i4 l4 (by decide +kernel) (by decide +kernel)
      · exact tame_p (by decide) is.strip l5 (by decide +kernel) (by decide +kernel)
      · exact tame_p (by decide +kernel) m2.inp (by have := m2.len; omega) (by decide +kernel) (by decide +kernel)
      · exact tame_p (by decide +kernel) s2.inp (by have := s2.len; omega) (by decide +kernel) (by decide +kernel)
      · exact tame_q' (by decide +kernel) v1 (by decide +kernel) (by decide +kernel)
      · exact tame_q' (by decide +kernel) v4 (by decide +kernel) (by decide +kernel)
    exact (TameAll.of al).list.repr (by simp [rowsV, S7]) (by decide)
  · intro z r hz hr hco
    have lr := hr.l
    have ee : ∀ t, ev r t = ev p t := fun t => ev_of_co t hco
    have esm := sm1_co hco
    have es : ∀ t, ev (sm1 r) t = ev (sm1 p) t := fun t => by rw [← ev_strip, esm, ev_strip]
    obtain ⟨f', n1, n2, n3⟩ := moved4 hz lr hr.s (by decide) (by decide) (by decide) hr.i hx.i cM cX hx.s
    obtain ⟨g', t1, t2, t3⟩ := stretched4 hz lr hr.s (by decide) (by decide) (by decide) (by decide) hr.i hx.i cS cX hx.s
    have ef : f' = f := told_ext n2.told m2.told fun t => by rw [n3, m3, ee]
    have eg : g' = g := told_ext t2.told s2.told fun t => by rw [t3, s3, ee]
    rw [ef] at n1
    rw [eg] at t1
    have A := area3 hz hr half three (by decide +kernel)
    rw [es, es] at A
    have V := value3 hz hr hx
    rw [ee] at V
    have U := summed4 hz lr hr.s
    rw [esm] at U
    have P1 := plus3 hz (Row.l o) hr ho
    have P2 := minus3 (Row.l o) hz ho hr
    have P3 := timesR hz hr ho
    have P4 := derivedR hz hr
    have e1 : strip (padd r o) = strip (padd p o) := strip_eq_of _ _ fun k => by rw [co_padd, co_padd, hco]
    have e2 : strip (padd o (pmulc (-1) r)) = strip (padd o (pmulc (-1) p)) := strip_eq_of _ _ fun k => by rw [co_padd, co_padd, co_pmulc, co_pmulc, hco]
    have e3 : strip (pmul r o) = strip (pmul p o) := strip_ext fun n => by rw [ev_pmul, ev_pmul, ee]
    have e4 : strip (dv r) = strip (dv p) := strip_eq_of _ _ fun k => by rw [co_dv, co_dv, hco]
    rw [e1] at P1
    rw [e2] at P2
    rw [e3] at P3
    rw [e4] at P4
    exact ⟨P1, P2, P3, P4, U, n1, t1, V, A⟩
theorem last_no {r : List Rat} (h : strip r = r) {env : Env} {st : Pt} (he : getE env 16 = .im (pD r)) : (mAnd (mBin oNe (mVar 16) (mLst aNil)) (mBin oEq (mBin oIx (mVar 16) (mUn oNeg (mC (.int 1)))) (mTup (aCons (mC (.int 0)) (aCons (mC (.int 1)) aNil))))) env st = .ok (.im (.bool false), st) := by
  have h0 := eqv_pn r
  have h1 := sh_p r
  have h2 := sh_p []
  simp only [pL_nil] at h2
  unfold pD at he
  by_cases hn : r = []
  · subst hn
    simp only [pL_nil] at *
    simp [he, h0, h1, h2]
  · obtain ⟨q, a, rfl, na⟩ := last_told h hn
    have h3 := at_last (pL q) (qD a)
    simp only [pL_app, pL_cons, pL_nil] at *
    simp [he, h0, h1, h2, h3, q0, sh_q, eqv_q, na]
theorem near_step {p s n o r : List Rat} {x : Rat} {z : D} {a b c d e f g : List Rat} {v w : Rat} (N : Nine p o x a b c d e f g v w) (hp : Pr p) (hz : Row z r) (hr : Pr r) (hco : ∀ k, co r k = co p k) (sh : PySem.Str) {S : List (List Rat)} (hS : S = S7 a b c d e f g) {x3 x12 x13 : EV} (h12 : isPt x12 = false) (h13 : isPt x13 = false) (st : Pt) : b__law_right_2 [.pt, .im (pD p), .im (.list (fixedV p)), x3, .im (pD (strip p)), .im (.str sh), .im (.int ((strip p).length : Int)), .im (pD n), .im (pD o), .im (qD x), .im (.tuple [qD (-1 / 2), qD 3]), .im z, x12, x13, .no, .no, .no] st = .ok (.nx [.pt, .im (pD p), .im (.list (fixedV p)), x3, .im (pD (strip p)), .im (.str sh), .im (.int ((strip p).length : Int)), .im (pD n), .im (pD o), .im (qD x), .im (.tuple [qD (-1 / 2), qD 3]), .im z, .im (.list (rowsV S v w)), .im (.list (rowsV S v w)), .no, .no, .no] st) := by
  obtain ⟨a1, a2, a3, a4, a5, a6, a7, a8, a9⟩ := N.n z r hz hr hco
  obtain ⟨c1, c2, c3, c4, c5, c6, c7, c8, c9⟩ := N.n (pD p) p (Row.l p) hp fun _ => rfl
  have D1 := dd_ok hz (Row.l p) hr hp (strip_eq_of _ _ hco)
  have D2 := dd_ok (Row.l p) hz hp hr (strip_eq_of _ _ hco).symm
  have R := N.r
  have T := N.t
  have rows : rowsV S v w = [pD a, pD b, pD c, pD d, pD e, pD f, pD g, qD v, qD w] := by rw [hS]; rfl
  rw [← hS] at R T
  have L7 : (S.map pD).length = 7 := by rw [hS]; rfl
  have cut7 : cutD (rowsV S v w) none (some 7) = S.map pD := by
    have := cut_to (rowsV S v w) 7
    rw [show ((7 : Nat) : Int) = 7 from rfl] at this
    rw [this]
    unfold rowsV
    rw [List.take_append_of_le_length (by omega), List.take_of_length_le (by omega)]
  have AN := bAny_g (fun _ : List Rat => false) S
  have an : S.any (fun _ => false) = false := by simp
  rw [an] at AN
  unfold b__law_right_2
  refine (seq_nx (env1 := [.pt, .im (pD p), .im (.list (fixedV p)), x3, .im (pD (strip p)), .im (.str sh), .im (.int ((strip p).length : Int)), .im (pD n), .im (pD o), .im (qD x), .im (.tuple [qD (-1 / 2), qD 3]), .im z, .im (.list (rowsV S v w)), x13, .no, .no, .no]) (st1 := st) ?_).trans ?_
  · rw [rows]
    simp [a1, a2, a3, a4, a5, a6, a7, a8, a9, h12]
  refine (seq_nx (env1 := [.pt, .im (pD p), .im (.list (fixedV p)), x3, .im (pD (strip p)), .im (.str sh), .im (.int ((strip p).length : Int)), .im (pD n), .im (pD o), .im (qD x), .im (.tuple [qD (-1 / 2), qD 3]), .im z, .im (.list (rowsV S v w)), .im (.list (rowsV S v w)), .no, .no, .no]) (st1 := st) ?_).trans ?_
  · rw [rows]
    simp [c1, c2, c3, c4, c5, c6, c7, c8, c9, h13]
  have LL := lcL_mapg (pt := .nm 16) (e := (mAnd (mBin oNe (mVar 16) (mLst aNil)) (mBin oEq (mBin oIx (mVar 16) (mUn oNeg (mC (.int 1)))) (mTup (aCons (mC (.int 0)) (aCons (mC (.int 1)) aNil)))))) (env := [.pt, .im (pD p), .im (.list (fixedV p)), x3, .im (pD (strip p)), .im (.str sh), .im (.int ((strip p).length : Int)), .im (pD n), .im (pD o), .im (qD x), .im (.tuple [qD (-1 / 2), qD 3]), .im z, .im (.list (rowsV S v w)), .im (.list (rowsV S v w)), .no, .no, .no]) (st := st) pD (fun _ => .bool false) S fun r hr => ⟨_, by simp; rfl, last_no (T r hr) rfl⟩
  have M := mLc_ok (it := iSeq (mCut (mVar 12) oNone (oSome (mC (.int 7))))) (vs := [16]) (env := [.pt, .im (pD p), .im (.list (fixedV p)), x3, .im (pD (strip p)), .im (.str sh), .im (.int ((strip p).length : Int)), .im (pD n), .im (pD o), .im (qD x), .im (.tuple [qD (-1 / 2), qD 3]), .im z, .im (.list (rowsV S v w)), .im (.list (rowsV S v w)), .no, .no, .no]) (st := st) (ds := S.map pD) (by simp [cut7]) ⟨by rw [L7]; decide, rfl⟩ LL
  generalize rowsV S v w = rv at R M ⊢
  refine (seq_nx (sIf_false (st1 := st) ?_ rfl)).trans (sIf_false (st1 := st) ?_ rfl)
  · simp [-oNe, R, D1, D2, oNe_str]
  · simp [-iSeq, M, AN]
end L_k11

namespace L_k11
open BP
theorem co_zeros (q : List Rat) (m k : Nat) : co (q ++ zeros m) k = co q k := by
  unfold co zeros
  rw [List.getD_eq_getElem?_getD, List.getD_eq_getElem?_getD]
  by_cases h : k < q.length
  · rw [List.getElem?_append_left h]
  · rw [List.getElem?_append_right (by omega), List.getElem?_eq_none (l := q) (by omega)]
    by_cases h2 : k - q.length < m
    · rw [List.getElem?_replicate, if_pos h2]
      rfl
    · rw [List.getElem?_replicate, if_neg h2]
theorem strip_pr {p : List Rat} (h : Pr p) : Pr (strip p) := ⟨h.i.strip, Nat.le_trans (strip_le _) h.l, List.all_eq_true.mpr fun a ha => List.all_eq_true.mp h.s a (mem_strip ha)⟩
theorem zeros_pr {q : List Rat} (h : Pr q) {m : Nat} (hm : q.length + m ≤ 5) : Pr (q ++ zeros m) := ⟨fun a ha => by
  rcases List.mem_append.mp ha with h1 | h1
  · exact h.i a h1
  · rw [List.eq_of_mem_replicate h1]
    exact In_zero _ _ (by decide), by simp [zeros]; omega, List.all_eq_true.mpr fun a ha => by
  rcases List.mem_append.mp ha with h1 | h1
  · exact List.all_eq_true.mp h.s a h1
  · rw [List.eq_of_mem_replicate h1]
    decide +kernel⟩
theorem tp {p : List Rat} (h : Pr p) : Tame 50000 2 (pD p) := tame_p (by decide) h.i (by have := h.l; omega) (by decide +kernel) (by decide +kernel)
theorem values_loop {p : List Rat} (hp : Pr p) (st : Pt) (h : PotOk st) : ∃ x3 x4 x5 st', (sFor (iSeq (mBin oAdd (mVar 2) (mLc (iRange1 (mC (.int 16))) (.nm 15) [15] (mC (.bool true)) (mDraw F__law_bent (aCons (mVar 1) aNil))))) (.nm 3) b__law_right_1) [.pt, .im (pD p), .im (.list (fixedV p)), .no, .no, .no, .no, .no, .no, .no, .no, .no, .no, .no, .no, .no, .no] st = .ok (.nx [.pt, .im (pD p), .im (.list (fixedV p)), x3, x4, x5, .no, .no, .no, .no, .no, .no, .no, .no, .no, .no, .no] st') ∧ PotOk st' ∧ isPt x3 = false ∧ isPt x4 = false ∧ isPt x5 = false := by
  obtain ⟨xs, st2, e2, hl, hxs, p2⟩ := lcL_draw (p := .nm 15) (e := mDraw F__law_bent (aCons (mVar 1) aNil)) (env := [.pt, .im (pD p), .im (.list (fixedV p)), .no, .no, .no, .no, .no, .no, .no, .no, .no, .no, .no, .no, .no, .no]) Val (rangeL 0 ((16 : Nat) : Int)) st h fun d hdm st hpt => by
    obtain ⟨y, st', e, p', hy⟩ := poly_bent hp st hpt
    exact ⟨_, by simp; rfl, y, st', by simp [e], hy, p'⟩
  rw [range_len] at hl
  have R := iR1N (m := mC (.int 16)) (env := [.pt, .im (pD p), .im (.list (fixedV p)), .no, .no, .no, .no, .no, .no, .no, .no, .no, .no, .no, .no, .no, .no]) (st := st) (st' := st) (k := 16) rfl (by decide)
  have M := mLc_ok (vs := [15]) R ⟨by rw [range_len]; decide, rfl⟩ e2
  have lf : (fixedV p).length = 16 := rfl
  have add : oAdd (.list (fixedV p)) (.list xs) = .ok (.ow (fixedV p ++ xs)) := by rw [oAdd_l, if_pos (by show (fixedV p).length + xs.length ≤ 1000000; omega)]
  have IT : iSeq (mBin oAdd (mVar 2) (mLc (iRange1 (mC (.int 16))) (.nm 15) [15] (mC (.bool true)) (mDraw F__law_bent (aCons (mVar 1) aNil)))) [.pt, .im (pD p), .im (.list (fixedV p)), .no, .no, .no, .no, .no, .no, .no, .no, .no, .no, .no, .no, .no, .no] st = .ok (fixedV p ++ xs, st2) := by
    simp [-iRange1, -oAdd_l, M, add]
  let I : Nat → Env → Prop := fun _ env => ∃ x3 x4 x5, env = [.pt, .im (pD p), .im (.list (fixedV p)), x3, x4, x5, .no, .no, .no, .no, .no, .no, .no, .no, .no, .no, .no] ∧ isPt x3 = false ∧ isPt x4 = false ∧ isPt x5 = false
  obtain ⟨env2, e, x3, x4, x5, rfl, h3, h4, h5⟩ := forL_inv (p := .nm 3) (b := b__law_right_1) (st := st2) (ds := fixedV p ++ xs) I (fun i d hd env hI => by
    obtain ⟨x3, x4, x5, rfl, h3, h4, h5⟩ := hI
    have hm := List.mem_of_getElem? hd
    have hv : Val d := by
      rcases List.mem_append.mp hm with hm | hm
      · exact fixed_val hp d hm
      · exact hxs d hm
    have S := value_step (p := p) hv h4 h5 st2
    exact ⟨_, by simp only [Pat.set, putE]; rw [show getE [.pt, .im (pD p), .im (.list (fixedV p)), x3, x4, x5, .no, .no, .no, .no, .no, .no, .no, .no, .no, .no, .no] 3 = x3 from rfl, h3]; rfl, _, S, _, _, _, rfl, rfl, rfl, rfl⟩) (env := [.pt, .im (pD p), .im (.list (fixedV p)), .no, .no, .no, .no, .no, .no, .no, .no, .no, .no, .no, .no, .no, .no]) ⟨.no, .no, .no, rfl, rfl, rfl, rfl⟩
  refine ⟨x3, x4, x5, st2, ?_, p2, h3, h4, h5⟩
  unfold sFor
  rw [IT]
  exact e
theorem size_ok {p : List Rat} (hp : Pr p) {x3 x4 x5 : EV} (st : Pt) : (sSet 6 (mB bLen (vCons (mLc (iRange1 (mB bLen (vCons (mVar 1) vNil))) (.nm 14) [14] (mB bAny (vCons (mLc (iSeq (mCut (mVar 1) (oSome (mVar 14)) oNone)) (.nm 16) [16] (mC (.bool true)) (mBin oNe (mVar 16) (mTup (aCons (mC (.int 0)) (aCons (mC (.int 1)) aNil))))) vNil)) (mVar 14)) vNil))) [.pt, .im (pD p), .im (.list (fixedV p)), x3, x4, x5, .no, .no, .no, .no, .no, .no, .no, .no, .no, .no, .no] st = .ok (.nx [.pt, .im (pD p), .im (.list (fixedV p)), x3, x4, x5, .im (.int ((strip p).length : Int)), .no, .no, .no, .no, .no, .no, .no, .no, .no, .no] st) := by
  have lp := hp.l
  have L := lcL_flt (pt := .nm 14) (c := mB bAny (vCons (mLc (iSeq (mCut (mVar 1) (oSome (mVar 14)) oNone)) (.nm 16) [16] (mC (.bool true)) (mBin oNe (mVar 16) (mTup (aCons (mC (.int 0)) (aCons (mC (.int 1)) aNil))))) vNil)) (e := mVar 14) (env := [.pt, .im (pD p), .im (.list (fixedV p)), x3, x4, x5, .no, .no, .no, .no, .no, .no, .no, .no, .no, .no, .no]) (st := st) (fun k : Nat => .int (k : Int)) (fun k : Nat => .int (k : Int)) (fun k => decide (k < (strip p).length)) (List.range p.length) fun k hk => by
    have D := cutF_from (pL p) k
    have e1 : (pL p).drop k = pL (p.drop k) := by simp [pL]
    rw [e1] at D
    have L1 := lcL_mapg (pt := .nm 16) (e := mBin oNe (mVar 16) (mTup (aCons (mC (.int 0)) (aCons (mC (.int 1)) aNil)))) (env := [.pt, .im (pD p), .im (.list (fixedV p)), x3, x4, x5, .no, .no, .no, .no, .no, .no, .no, .no, .im (.int (k : Int)), .no, .no]) (st := st) qD (fun a => .bool (!decide (a = 0))) (p.drop k) fun a ha => ⟨_, by simp; rfl, by simp [q0, sh_q, eqv_q]⟩
    have M1 := mLc_ok (it := iSeq (mCut (mVar 1) (oSome (mVar 14)) oNone)) (vs := [16]) (env := [.pt, .im (pD p), .im (.list (fixedV p)), x3, x4, x5, .no, .no, .no, .no, .no, .no, .no, .no, .im (.int (k : Int)), .no, .no]) (st := st) (ds := pL (p.drop k)) (by simp [pD, D]) ⟨by rw [pL_len, List.length_drop]; show _ ≤ 1000000; omega, rfl⟩ L1
    have A := bAny_g (fun a : Rat => !decide (a = 0)) (p.drop k)
    have nz := nz_drop p k
    unfold nzB at nz
    rw [nz] at A
    generalize (p.drop k).map (fun a => (PySem.PyData.bool (!decide (a = 0)))) = bs at M1 A
    exact ⟨[.pt, .im (pD p), .im (.list (fixedV p)), x3, x4, x5, .no, .no, .no, .no, .no, .no, .no, .no, .im (.int (k : Int)), .no, .no], by simp, by simp [-iSeq, M1, A], fun _ => by simp⟩
  have R := iR1N (m := mB bLen (vCons (mVar 1) vNil)) (env := [.pt, .im (pD p), .im (.list (fixedV p)), x3, x4, x5, .no, .no, .no, .no, .no, .no, .no, .no, .no, .no, .no]) (st := st) (st' := st) (k := p.length) (by simp [pD]) (by omega)
  rw [range0_map] at R
  have M := mLc_ok' (vs := [14]) R (by simp; show _ ≤ 1000000; omega) rfl L
  have fl := flt_len (strip p).length p.length
  rw [Nat.min_eq_left (strip_le p)] at fl
  refine sSet_ok (x := .im (.int ((strip p).length : Int))) ?_ rfl rfl
  simp [-iRange1, M, fl]
theorem right_ok : RightOk F__law_right := fun st0 h0 => by
  obtain ⟨p, st1, e1, h1, hp⟩ := rows_ok [.pt, .no, .no, .no, .no, .no, .no, .no, .no, .no, .no, .no, .no, .no, .no, .no, .no] rfl rfl st0 h0 (fun x => ⟨_, by simp; rfl, rfl⟩) rfl
  obtain ⟨x3, x4, x5, st2, e2, h2, n3, n4, n5⟩ := values_loop hp st1 h1
  have lp := hp.l
  have ls := strip_le p
  obtain ⟨n, hn⟩ : ∃ n, n = strip p ++ zeros (5 - (strip p).length) := ⟨_, rfl⟩
  have pn : Pr n := by
    rw [hn]
    exact zeros_pr (strip_pr hp) (by omega)
  have con : ∀ k, co n k = co p k := fun k => by rw [hn, co_zeros, co_strip]
  obtain ⟨sh, hsh⟩ : ∃ sh, sh = (pD p).shown := ⟨_, rfl⟩
  have RP : reprOk (pD p) = true := (tp hp).repr (by decide) (by decide)
  have T1 := toldR (Row.l p) hp
  have T2 := toldR (Row.t p) hp
  have G1 := degreeR (Row.l p) hp
  have G2 := degreeR (Row.t p) hp
  have ti : Tame 50000 2 (.int (((strip p).length : Int) - 1)) := (tame_int (k := 10) (by omega) (by decide)).mono (by decide) (by decide)
  have tt := tp (strip_pr hp)
  have R4 : reprOk (.list [pD (strip p), pD (strip p), .int (((strip p).length : Int) - 1), .int (((strip p).length : Int) - 1)]) = true := (TameAll.of (n := 50000) (k := 2) fun d hd => by
    simp only [List.mem_cons, List.not_mem_nil, or_false] at hd
    rcases hd with rfl | rfl | rfl | rfl
    · exact tt
    · exact tt
    · exact ti
    · exact ti).list.repr (by simp) (by decide)
  have ne1 : oNe (pD (strip p)) (pD (strip p)) = bl false := by
    have f1 := sh_p (strip p)
    have f2 := eqv_p (strip p) (strip p)
    unfold pD
    simp [f1, f2]
  have s0 : m__law_right [.pt, .no, .no, .no, .no, .no, .no, .no, .no, .no, .no, .no, .no, .no, .no, .no, .no] st0 = k__law_right_13 [.pt, .im (pD p), .no, .no, .no, .no, .no, .no, .no, .no, .no, .no, .no, .no, .no, .no, .no] st1 := by
    unfold m__law_right
    exact seq_nx (sSet_ok e1 rfl rfl)
  have s13 : k__law_right_13 [.pt, .im (pD p), .no, .no, .no, .no, .no, .no, .no, .no, .no, .no, .no, .no, .no, .no, .no] st1 = k__law_right_12 [.pt, .im (pD p), .im (.list (fixedV p)), .no, .no, .no, .no, .no, .no, .no, .no, .no, .no, .no, .no, .no, .no] st1 := by
    unfold k__law_right_13
    refine seq_nx ?_
    simp [pD, fixedV, fixed0, one1]
  have s12 : k__law_right_12 [.pt, .im (pD p), .im (.list (fixedV p)), .no, .no, .no, .no, .no, .no, .no, .no, .no, .no, .no, .no, .no, .no] st1 = k__law_right_11 [.pt, .im (pD p), .im (.list (fixedV p)), x3, x4, x5, .no, .no, .no, .no, .no, .no, .no, .no, .no, .no, .no] st2 := by
    unfold k__law_right_12
    exact seq_nx e2
  have s11 : k__law_right_11 [.pt, .im (pD p), .im (.list (fixedV p)), x3, x4, x5, .no, .no, .no, .no, .no, .no, .no, .no, .no, .no, .no] st2 = k__law_right_10 [.pt, .im (pD p), .im (.list (fixedV p)), x3, x4, x5, .im (.int ((strip p).length : Int)), .no, .no, .no, .no, .no, .no, .no, .no, .no, .no] st2 := by
    unfold k__law_right_11
    exact seq_nx (size_ok hp st2)
  have ct : cutD (pL p) none (some ((strip p).length : Int)) = pL (strip p) := by
    rw [cut_to]
    show (p.map qD).take _ = _
    rw [← List.map_take, strip_take]
    rfl
  have s10 : k__law_right_10 [.pt, .im (pD p), .im (.list (fixedV p)), x3, x4, x5, .im (.int ((strip p).length : Int)), .no, .no, .no, .no, .no, .no, .no, .no, .no, .no] st2 = k__law_right_9 [.pt, .im (pD p), .im (.list (fixedV p)), x3, .im (pD (strip p)), .im (.str sh), .im (.int ((strip p).length : Int)), .no, .no, .no, .no, .no, .no, .no, .no, .no, .no] st2 := by
    unfold k__law_right_10
    refine seq_nx ?_
    unfold pD at RP hsh ⊢
    simp [ct, RP, ← hsh, n4, n5]
  have s9 : k__law_right_9 [.pt, .im (pD p), .im (.list (fixedV p)), x3, .im (pD (strip p)), .im (.str sh), .im (.int ((strip p).length : Int)), .no, .no, .no, .no, .no, .no, .no, .no, .no, .no] st2 = k__law_right_8 [.pt, .im (pD p), .im (.list (fixedV p)), x3, .im (pD (strip p)), .im (.str sh), .im (.int ((strip p).length : Int)), .no, .no, .no, .no, .no, .no, .no, .no, .no, .no] st2 := by
    unfold k__law_right_9
    refine seq_nx (sIf_false (st1 := st2) ?_ rfl)
    have b1 : bTuple [pD p] = .ok (.im (.tuple (pL p))) := rfl
    simp [-oNe, b1, T1.2, T2.2, G1, G2, R4, oNe_str]
  have s8 : k__law_right_8 [.pt, .im (pD p), .im (.list (fixedV p)), x3, .im (pD (strip p)), .im (.str sh), .im (.int ((strip p).length : Int)), .no, .no, .no, .no, .no, .no, .no, .no, .no, .no] st2 = k__law_right_7 [.pt, .im (pD p), .im (.list (fixedV p)), x3, .im (pD (strip p)), .im (.str sh), .im (.int ((strip p).length : Int)), .no, .no, .no, .no, .no, .no, .no, .no, .no, .no] st2 := by
    unfold k__law_right_8
    refine seq_nx ?_
    have l : (strip p).length < 1000000 := by omega
    simp [T1.1, l]
  have s7 : k__law_right_7 [.pt, .im (pD p), .im (.list (fixedV p)), x3, .im (pD (strip p)), .im (.str sh), .im (.int ((strip p).length : Int)), .no, .no, .no, .no, .no, .no, .no, .no, .no, .no] st2 = k__law_right_6 [.pt, .im (pD p), .im (.list (fixedV p)), x3, .im (pD (strip p)), .im (.str sh), .im (.int ((strip p).length : Int)), .no, .no, .no, .no, .no, .no, .no, .no, .no, .no] st2 := by
    unfold k__law_right_7
    refine seq_nx (sIf_false (st1 := st2) ?_ rfl)
    simp [-oNe, T1.2, ne1, RP, ← hsh, oNe_str]
  obtain ⟨o, st3, e3, h3, ho⟩ := rows_ok [.pt, .im (pD p), .im (.list (fixedV p)), x3, .im (pD (strip p)), .im (.str sh), .im (.int ((strip p).length : Int)), .no, .no, .no, .no, .no, .no, .no, .no, .no, .no] rfl rfl st2 h2 (fun x => ⟨_, by simp; rfl, rfl⟩) rfl
  have s6 : k__law_right_6 [.pt, .im (pD p), .im (.list (fixedV p)), x3, .im (pD (strip p)), .im (.str sh), .im (.int ((strip p).length : Int)), .no, .no, .no, .no, .no, .no, .no, .no, .no, .no] st2 = k__law_right_5 [.pt, .im (pD p), .im (.list (fixedV p)), x3, .im (pD (strip p)), .im (.str sh), .im (.int ((strip p).length : Int)), .im (pD n), .im (pD o), .no, .no, .no, .no, .no, .no, .no, .no] st3 := by
    unfold k__law_right_6
    refine seq_nx ?_
    have mu : oMul (.list [qD 0]) (.int (5 - ((strip p).length : Int))) = .ok (.ow (pL (zeros (5 - (strip p).length)))) := by
      have e : (5 - ((strip p).length : Int)).toNat = 5 - (strip p).length := by omega
      rw [oMul_l, e, if_pos (by simp; omega), flat_rep, zeros, pL_rep]
    have ad : oAdd (pD (strip p)) (.list (pL (zeros (5 - (strip p).length)))) = .ok (.ow (pL n)) := by
      unfold pD
      rw [oAdd_l, if_pos (by simp [zeros]; omega), hn, pL_app]
    simp [-iRange1, -oMul_l, -oAdd_l, q0, mu, ad, e3]
    exact ⟨rfl, rfl⟩
  obtain ⟨x, st4, e4, h4, hx⟩ := frac_ok st3 h3
  have qh : (.tuple [.int (-1), .int 2] : D) = qD (-1 / 2) := by
    have a : (-1 / 2 : Rat).num = -1 := by decide +kernel
    have b : (-1 / 2 : Rat).den = 2 := by decide +kernel
    rw [qD, a, b]
    rfl
  have qt : (.tuple [.int 3, .int 1] : D) = qD 3 := rfl
  have s5 : k__law_right_5 [.pt, .im (pD p), .im (.list (fixedV p)), x3, .im (pD (strip p)), .im (.str sh), .im (.int ((strip p).length : Int)), .im (pD n), .im (pD o), .no, .no, .no, .no, .no, .no, .no, .no] st3 = k__law_right_4 [.pt, .im (pD p), .im (.list (fixedV p)), x3, .im (pD (strip p)), .im (.str sh), .im (.int ((strip p).length : Int)), .im (pD n), .im (pD o), .im (qD x), .im (.tuple [qD (-1 / 2), qD 3]), .no, .no, .no, .no, .no, .no] st4 := by
    unfold k__law_right_5
    refine seq_nx ?_
    simp [e4, qh, qt]
  obtain ⟨a, b, c, d, e, f, g, v, w, N⟩ := nine_ok hp ho hx
  obtain ⟨S, hS⟩ : ∃ S, S = S7 a b c d e f g := ⟨_, rfl⟩
  have N1 := near_step (s := p) (n := n) (z := pD (strip p)) (x3 := x3) (x12 := .no) (x13 := .no) N hp (Row.l _) (strip_pr hp) (fun k => co_strip p k) sh hS rfl rfl st4
  have N2 := near_step (s := p) (n := n) (z := .tuple (pL n)) (x3 := x3) (x12 := .im (.list (rowsV S v w))) (x13 := .im (.list (rowsV S v w))) N hp (Row.t _) pn con sh hS rfl rfl st4
  have s4 : k__law_right_4 [.pt, .im (pD p), .im (.list (fixedV p)), x3, .im (pD (strip p)), .im (.str sh), .im (.int ((strip p).length : Int)), .im (pD n), .im (pD o), .im (qD x), .im (.tuple [qD (-1 / 2), qD 3]), .no, .no, .no, .no, .no, .no] st4 = k__law_right_3 [.pt, .im (pD p), .im (.list (fixedV p)), x3, .im (pD (strip p)), .im (.str sh), .im (.int ((strip p).length : Int)), .im (pD n), .im (pD o), .im (qD x), .im (.tuple [qD (-1 / 2), qD 3]), .im (.tuple (pL n)), .im (.list (rowsV S v w)), .im (.list (rowsV S v w)), .no, .no, .no] st4 := by
    unfold k__law_right_4
    refine seq_nx ?_
    have b1 : bTuple [pD n] = .ok (.im (.tuple (pL n))) := rfl
    simp [sFor, forL, b1, N1, N2]
  have m1 := minus3 (Row.l p) (Row.l n) hp pn
  have m2 := minus3 (Row.l n) (Row.l p) pn hp
  have z1 : strip (padd p (pmulc (-1) n)) = [] := strip_nil_of _ fun k => by
    rw [co_padd, co_pmulc, con]
    grind
  have z2 : strip (padd n (pmulc (-1) p)) = [] := strip_nil_of _ fun k => by
    rw [co_padd, co_pmulc, con]
    grind
  rw [z1] at m1
  rw [z2] at m2
  have pn0 : Pr [] := ⟨fun a ha => absurd ha (by simp), by decide, rfl⟩
  have G0 := degreeR (Row.l []) pn0
  have G0' : F_degree [pD []] = .ok (.int (-1)) := G0
  have e0 : oEq (pD []) (.list []) = bl true := rfl
  have e9 : oEq (.int (-1)) (.int (-1)) = bl true := rfl
  have s3 : k__law_right_3 [.pt, .im (pD p), .im (.list (fixedV p)), x3, .im (pD (strip p)), .im (.str sh), .im (.int ((strip p).length : Int)), .im (pD n), .im (pD o), .im (qD x), .im (.tuple [qD (-1 / 2), qD 3]), .im (.tuple (pL n)), .im (.list (rowsV S v w)), .im (.list (rowsV S v w)), .no, .no, .no] st4 = .ok (.rt (.bool true) st4) := by
    unfold k__law_right_3
    refine sRet_ok (x := .im (.bool true)) ?_ rfl
    simp [-oEq, m1, m2, e0, G0', e9]
  rw [s13, s12, s11, s10, s9, s8, s7, s6, s5, s4, s3] at s0
  exact ⟨st4, runD_rt rfl s0, h4⟩
theorem law_true (ns : List Int) (_ : ns.length ≤ 63) : F_law ns = .ok (.bool true) := C_lawA_ok (m := 3) pots_ok right_ok (by decide) ns
end L_k11

open PySem PySem.W PySem.Calls
open PyProof.Rows
theorem PySem.Challenge.cw_bentpieces_k11_any_value_as_poly_and_tol_holds : PySem.Challenge.rw_bentpieces_k11_any_value_as_poly_and_tol.Holds := by
  w_on; o_law
  refine HandSHeadRun.head_any (r := OpenLaw.row PySem.Challenge.rw_bentpieces_k11_any_value_as_poly_and_tol) (q := view (OpenLaw.row PySem.Challenge.rw_bentpieces_k11_any_value_as_poly_and_tol).prog [71]) (H := L_k11.hk) (ob := L_k11.ob) (M := 6000) (loose := L_k11.loose) (d := HandSHeadRun.topDef (OpenLaw.row PySem.Challenge.rw_bentpieces_k11_any_value_as_poly_and_tol).prog 71) (kwd := []) L_k11.ob_eq
    (by kernel_rfl) (fun s => by kernel_rfl) L_k11.run (by kernel_rfl) (by kernel_rfl) (by kernel_rfl) (by rfl) (by first | assumption | decide +kernel) (by decide +kernel) ⟨rfl, rfl, rfl, rfl, rfl, by decide +kernel⟩ ?hw ?hc
  case hw => w_witness2
  case hc =>
    refine BP.walkG (l := PySem.Challenge.rw_bentpieces_k11_any_value_as_poly_and_tol) (n := 63) (k := 9) (x := "script") rfl (by decide) (by kernel_rfl) ⟨rfl, by decide, by decide⟩ ?F
    intro w mg fa h Y G hmg0
    obtain ⟨hS, K, KX, c⟩ := Y
    have hmg : mg ("law" : PySem.Str) = some (.ref fa) := by
      have e : (HandSHeadRun.topDef (OpenLaw.row PySem.Challenge.rw_bentpieces_k11_any_value_as_poly_and_tol).prog 71).name = ("law" : PySem.Str) := by kernel_rfl
      rw [← e]
      exact hmg0
    obtain ⟨fd, F⟩ := c.1.def_ 56 (d := L_k11.d_law) rfl
    have e := hmg.symm.trans (He.glo_ok KX G (c.1.fact 56 (f := .glo "law") rfl))
    cases e
    have b := L2.FunD.bindsA (ps := ["script"]) F fun _ _ _ _ _ _ us hl => match us, hl with | [_], _ => rfl
    exact ⟨hS, K, fd, BP.spF K L_k11.F_law, KX, fun s v => b s [v] rfl, fun H a ns hl hO hq => ⟨a, ns, .bool true, rfl, BP.Hv.sq hO hq, L_k11.law_true ns hl, fun v H' hv => by cases hv; rfl⟩, fun base hb hn hs => L_k11.T_law ⟨hb, hn, hs, c⟩ F⟩
