import PyProof.Rows.All
import HandS.ForMost
import HandS.ForExc
import HandS.IsInst
import HandS.Flow
import HandS.More
import HandS.Wide
import HandS.TupLe
import HandS.TupAny
import HandS.TupMul
import HandS.WideMore
import PyProof.P3In
import HandS.Text
import HandS.StrMore
import HandS.NoneIn
import HandS.Style
import HandS.Iter
import HandS.Zip
import HandS.Comp
import HandS.Defaults
import HandS.Head0
import HandS.Head1
import HandS.Head2
import HandS.HeadEnd
import HandS.HeadHook1
import HandS.HeadHook2
import HandS.HeadHook3
import HandS.HeadHook4
import HandS.EndBits
import HandS.Dict
import PyProof.NeKinds
import PyProof.EqAt
import HandS.RaiseMore
import HandS.ExcIs
import HandS.Replace
import HandS.ReplaceLit
import HandS.ReplaceDef
import KE.GoesComp
import KE.GoesRaise
import KE.KAsSuite
import HandS.SetFor
import HandS.Strs
import HandS.SortInts
import KE.SortData
import KE.SortLaws
import PySem.Challenge.RW_partsproved_k61_determinants_and_resulta
set_option Elab.async false
set_option linter.all false
set_option autoImplicit false
namespace PolA
open Lean.Grind
universe u
/-! polynomials over any commutative ring: rows of numbers that end -/
section
variable {R : Type} [CommRing R]
def cvl (f g : Nat → R) : Nat → R
  | 0 => f 0 * g 0
  | n + 1 => f 0 * g (n + 1) + cvl (fun k => f (k + 1)) g n
theorem cvl_zero (f g : Nat → R) : cvl f g 0 = f 0 * g 0 := rfl
theorem cvl_succ (f g : Nat → R) (n : Nat) : cvl f g (n + 1) = f 0 * g (n + 1) + cvl (fun k => f (k + 1)) g n := rfl
theorem cvl_addl (f f' g : Nat → R) (n : Nat) : cvl (fun k => f k + f' k) g n = cvl f g n + cvl f' g n := by
  induction n generalizing f f' with
  | zero => simp only [cvl_zero]; grind
  | succ n ih => simp only [cvl_succ, ih]; grind
theorem cvl_addr (f g g' : Nat → R) (n : Nat) : cvl f (fun k => g k + g' k) n = cvl f g n + cvl f g' n := by
  induction n generalizing f with
  | zero => simp only [cvl_zero]; grind
  | succ n ih => simp only [cvl_succ, ih]; grind
theorem cvl_scl (a : R) (f g : Nat → R) (n : Nat) : cvl (fun k => a * f k) g n = a * cvl f g n := by
  induction n generalizing f with
  | zero => simp only [cvl_zero]; grind
  | succ n ih => simp only [cvl_succ, ih]; grind
theorem cvl_last (f g : Nat → R) (n : Nat) : cvl f g (n + 1) = f (n + 1) * g 0 + cvl f (fun k => g (k + 1)) n := by
  induction n generalizing f with
  | zero => simp only [cvl_succ, cvl_zero]; grind
  | succ n ih =>
    rw [cvl_succ, ih, cvl_succ f]
    grind
theorem cvl_comm (f g : Nat → R) (n : Nat) : cvl f g n = cvl g f n := by
  induction n generalizing f with
  | zero => simp only [cvl_zero]; grind
  | succ n ih => rw [cvl_succ, cvl_last, ih]; grind
theorem cvl_assoc (f g h : Nat → R) (n : Nat) : cvl (cvl f g) h n = cvl f (cvl g h) n := by
  induction n generalizing f with
  | zero => simp only [cvl_zero]; grind
  | succ n ih =>
    have e : (fun k => cvl f g (k + 1)) = fun k => f 0 * g (k + 1) + cvl (fun k => f (k + 1)) g k := funext fun k => rfl
    rw [cvl_succ (cvl f g), e, cvl_addl, cvl_scl (f 0) (fun k => g (k + 1)), ih, cvl_succ f, cvl_succ g, cvl_zero]
    grind
theorem cvl_eq0 {f g : Nat → R} {n : Nat} (h : ∀ i, i ≤ n → f i = 0 ∨ g (n - i) = 0) : cvl f g n = 0 := by
  induction n generalizing f with
  | zero =>
    rw [cvl_zero]
    rcases h 0 (Nat.le_refl 0) with h | h
    · rw [h]; grind
    · rw [h]; grind
  | succ n ih =>
    rw [cvl_succ, ih fun i hi => by
      have := h (i + 1) (by omega)
      rwa [show n + 1 - (i + 1) = n - i by omega] at this]
    rcases h 0 (by omega) with h | h
    · rw [h]; grind
    · rw [show n + 1 - 0 = n + 1 from rfl] at h; rw [h]; grind
/-- only one term is not 0 -/
theorem cvl_one {f g : Nat → R} {n j : Nat} (hj : j ≤ n) (h : ∀ i, i ≤ n → i ≠ j → f i = 0 ∨ g (n - i) = 0) : cvl f g n = f j * g (n - j) := by
  induction n generalizing f j with
  | zero =>
    obtain rfl : j = 0 := by omega
    rfl
  | succ n ih =>
    rw [cvl_succ]
    cases j with
    | zero =>
      rw [cvl_eq0 fun i hi => by
        have := h (i + 1) (by omega) (by omega)
        rwa [show n + 1 - (i + 1) = n - i by omega] at this]
      rw [show n + 1 - 0 = n + 1 from rfl]; grind
    | succ j =>
      rw [ih (j := j) (by omega) fun i hi hne => by
        have := h (i + 1) (by omega) (by omega)
        rwa [show n + 1 - (i + 1) = n - i by omega] at this]
      rw [show n + 1 - (j + 1) = n - j by omega]
      rcases h 0 (by omega) (by omega) with h | h
      · rw [h]; grind
      · rw [show n + 1 - 0 = n + 1 from rfl] at h; rw [h]; grind
end
structure Po (R : Type) [CommRing R] where
  c : Nat → R
  fin : ∃ N, ∀ n, N ≤ n → c n = 0
section
variable {R : Type} [CommRing R]
local instance instNC : NatCast R := Semiring.natCast
local instance instIC : IntCast R := Ring.intCast
theorem Po.ext {f g : Po R} (h : ∀ n, f.c n = g.c n) : f = g := by
  obtain ⟨a, _⟩ := f
  obtain ⟨b, _⟩ := g
  obtain rfl : a = b := funext h
  rfl
/-- a number -/
def Po.C (a : R) : Po R := ⟨fun n => if n = 0 then a else 0, 1, fun n hn => if_neg (by omega)⟩
def Po.add (f g : Po R) : Po R := ⟨fun n => f.c n + g.c n, by
  obtain ⟨N, hf⟩ := f.fin
  obtain ⟨M, hg⟩ := g.fin
  exact ⟨max N M, fun n hn => by rw [hf n (by omega), hg n (by omega)]; grind⟩⟩
def Po.neg (f : Po R) : Po R := ⟨fun n => -f.c n, by
  obtain ⟨N, hf⟩ := f.fin
  exact ⟨N, fun n hn => by rw [hf n hn]; grind⟩⟩
def Po.mul (f g : Po R) : Po R := ⟨cvl f.c g.c, by
  obtain ⟨N, hf⟩ := f.fin
  obtain ⟨M, hg⟩ := g.fin
  refine ⟨N + M, fun n hn => cvl_eq0 fun i hi => ?_⟩
  rcases Nat.lt_or_ge i N with h | h
  · exact .inr (hg _ (by omega))
  · exact .inl (hf _ h)⟩
def Po.pow (f : Po R) : Nat → Po R
  | 0 => Po.C 1
  | n + 1 => Po.mul (Po.pow f n) f
instance : Add (Po R) := ⟨Po.add⟩
instance : Mul (Po R) := ⟨Po.mul⟩
instance : Neg (Po R) := ⟨Po.neg⟩
instance : Sub (Po R) := ⟨fun f g => Po.add f (Po.neg g)⟩
instance : NatCast (Po R) := ⟨fun n => Po.C (n : R)⟩
instance : IntCast (Po R) := ⟨fun n => Po.C (n : R)⟩
instance (n : Nat) : OfNat (Po R) n := ⟨Po.C (OfNat.ofNat n)⟩
instance : SMul Nat (Po R) := ⟨fun n f => Po.mul (Po.C (n : R)) f⟩
instance : SMul Int (Po R) := ⟨fun n f => Po.mul (Po.C (n : R)) f⟩
instance : HPow (Po R) Nat (Po R) := ⟨Po.pow⟩
theorem c_add (f g : Po R) (n : Nat) : (f + g).c n = f.c n + g.c n := rfl
theorem c_neg (f : Po R) (n : Nat) : (-f).c n = -f.c n := rfl
theorem c_mul (f g : Po R) (n : Nat) : (f * g).c n = cvl f.c g.c n := rfl
theorem c_sub (f g : Po R) (n : Nat) : (f - g).c n = f.c n - g.c n := by
  show f.c n + -g.c n = _
  grind
theorem c_C (a : R) (n : Nat) : (Po.C a).c n = if n = 0 then a else 0 := rfl
theorem c_Cmul (a : R) (f : Po R) (n : Nat) : (Po.C a * f).c n = a * f.c n := by
  rw [c_mul, cvl_one (j := 0) (by omega) fun i _ hi => .inl (by rw [c_C, if_neg hi]), c_C, if_pos rfl]; rfl
theorem C_add (a b : R) : Po.C (a + b) = Po.C a + Po.C b := Po.ext fun n => by
  rw [c_add, c_C, c_C, c_C]; split <;> grind
theorem C_mul (a b : R) : Po.C (a * b) = Po.C a * Po.C b := Po.ext fun n => by
  rw [c_Cmul, c_C, c_C]; split <;> grind
theorem C_neg (a : R) : Po.C (-a) = -Po.C a := Po.ext fun n => by
  rw [c_neg, c_C, c_C]; split <;> grind
theorem zero_def : (0 : Po R) = Po.C 0 := rfl
theorem one_def : (1 : Po R) = Po.C 1 := rfl
theorem c_zero (n : Nat) : (0 : Po R).c n = 0 := by
  rw [zero_def, c_C]; split <;> rfl
theorem c_one (n : Nat) : (1 : Po R).c n = if n = 0 then 1 else 0 := rfl
theorem po_mul_comm (f g : Po R) : f * g = g * f := Po.ext fun n => cvl_comm _ _ n
instance : CommRing (Po R) where
  add_zero f := Po.ext fun n => by rw [c_add, c_zero]; grind
  add_comm f g := Po.ext fun n => by rw [c_add, c_add]; grind
  add_assoc f g h := Po.ext fun n => by simp only [c_add]; grind
  mul_assoc f g h := Po.ext fun n => cvl_assoc _ _ _ n
  mul_one f := by
    rw [po_mul_comm]
    exact Po.ext fun n => by rw [one_def, c_Cmul]; grind
  left_distrib f g h := Po.ext fun n => cvl_addr _ _ _ n
  zero_mul f := Po.ext fun n => by rw [zero_def, c_Cmul, c_C]; split <;> grind
  pow_zero f := rfl
  pow_succ f n := rfl
  ofNat_succ n := by
    show Po.C (OfNat.ofNat (n + 1)) = Po.C (OfNat.ofNat n) + Po.C (OfNat.ofNat 1)
    rw [← C_add, Semiring.ofNat_succ]
  ofNat_eq_natCast n := by
    show Po.C (OfNat.ofNat n) = Po.C (n : R)
    rw [Semiring.ofNat_eq_natCast]
  nsmul_eq_natCast_mul n f := rfl
  neg_add_cancel f := Po.ext fun n => by rw [c_add, c_neg, c_zero]; grind
  sub_eq_add_neg f g := rfl
  neg_zsmul i f := by
    show Po.mul (Po.C ((-i : Int) : R)) f = Po.neg (Po.mul (Po.C (i : R)) f)
    refine Po.ext fun n => ?_
    show (Po.C ((-i : Int) : R) * f).c n = -(Po.C (i : R) * f).c n
    rw [c_Cmul, c_Cmul, Ring.intCast_neg]; grind
  zsmul_natCast_eq_nsmul n f := by
    show Po.mul (Po.C (((n : Nat) : Int) : R)) f = Po.mul (Po.C (n : R)) f
    rw [Ring.intCast_natCast]
  intCast_ofNat n := by
    have := Ring.intCast_ofNat (α := R) n
    exact congrArg Po.C this
  intCast_neg i := by
    show Po.C ((-i : Int) : R) = -Po.C (i : R)
    rw [Ring.intCast_neg, C_neg]
  mul_comm := po_mul_comm
  one_mul f := Po.ext fun n => by rw [one_def, c_Cmul]; grind
  mul_zero f := by
    rw [po_mul_comm]
    exact Po.ext fun n => by rw [zero_def, c_Cmul, c_C]; split <;> grind
  right_distrib f g h := Po.ext fun n => cvl_addl _ _ _ n
end
end PolA

set_option autoImplicit false
namespace PolA
open Lean.Grind
theorem least_ix {P : Nat → Prop} (h : ∃ n, P n) : ∃ n, P n ∧ ∀ k, k < n → ¬ P k := by
  obtain ⟨n, hn⟩ := h
  induction n using Nat.strongRecOn with
  | ind n ih =>
    by_cases h : ∃ k, k < n ∧ P k
    · obtain ⟨k, hk, pk⟩ := h
      exact ih k hk pk
    · exact ⟨n, hn, fun k hk pk => h ⟨k, hk, pk⟩⟩
class Dom (R : Type) [CommRing R] : Prop where
  one_ne : (1 : R) ≠ 0
  mul_eq : ∀ a b : R, a * b = 0 → a = 0 ∨ b = 0
instance : Dom Int := ⟨by decide, fun a b h => Int.mul_eq_zero.1 h⟩
instance {K : Type} [Field K] : Dom K := ⟨fun h => Field.zero_ne_one h.symm, fun a b h => by
  by_cases ha : a = 0
  · exact .inl ha
  · refine .inr ?_
    have := Field.mul_inv_cancel ha
    have e : a⁻¹ * (a * b) = b := by grind
    rw [← e, h]; grind⟩
section
variable {R : Type} [CommRing R]
/-- how many numbers: the degree and 1 -/
noncomputable def len (f : Po R) : Nat := (least_ix f.fin).choose
theorem len_spec (f : Po R) : (∀ n, len f ≤ n → f.c n = 0) ∧ ∀ k, k < len f → ¬ ∀ n, k ≤ n → f.c n = 0 := (least_ix f.fin).choose_spec
theorem c_big {f : Po R} {n : Nat} (h : len f ≤ n) : f.c n = 0 := (len_spec f).1 n h
theorem len_le {f : Po R} {n : Nat} : len f ≤ n ↔ ∀ k, n ≤ k → f.c k = 0 := by
  constructor
  · intro h k hk; exact c_big (by omega)
  · intro h
    refine Nat.le_of_not_lt fun c => (len_spec f).2 n c h
theorem len_0 : len (0 : Po R) = 0 := Nat.le_zero.1 (len_le.2 fun k _ => c_zero k)
theorem eq0_of_len {f : Po R} (h : len f = 0) : f = 0 := Po.ext fun n => by rw [c_big (by omega), c_zero]
theorem len_eq0 {f : Po R} : len f = 0 ↔ f = 0 := ⟨eq0_of_len, fun h => by rw [h, len_0]⟩
theorem len_pos {f : Po R} (h : f ≠ 0) : 0 < len f := Nat.pos_of_ne_zero fun e => h (eq0_of_len e)
noncomputable def ld (f : Po R) : R := f.c (len f - 1)
theorem ld_ne {f : Po R} (h : f ≠ 0) : ld f ≠ 0 := by
  intro e
  have h1 := len_pos h
  have : len f ≤ len f - 1 := len_le.2 fun k hk => by
    rcases Nat.lt_or_ge k (len f) with a | a
    · obtain rfl : k = len f - 1 := by omega
      exact e
    · exact c_big a
  omega
theorem len_of {f : Po R} {n : Nat} (h : f.c n ≠ 0) (h2 : ∀ k, n < k → f.c k = 0) : len f = n + 1 := by
  have a := len_le.2 (show ∀ k, n + 1 ≤ k → f.c k = 0 from fun k hk => h2 k hk)
  rcases Nat.lt_or_ge (len f) (n + 1) with b | b
  · exact absurd (c_big (f := f) (n := n) (by omega)) h
  · omega
theorem len_lt_of {f : Po R} {n : Nat} (h : f.c n ≠ 0) : n < len f := by
  rcases Nat.lt_or_ge n (len f) with b | b
  · exact b
  · exact absurd (c_big b) h
theorem len_add (f g : Po R) : len (f + g) ≤ max (len f) (len g) := len_le.2 fun k hk => by
  rw [c_add, c_big (f := f) (by omega), c_big (f := g) (by omega)]; grind
theorem len_neg (f : Po R) : len (-f) = len f := by
  have h : ∀ g : Po R, len (-g) ≤ len g := fun g => len_le.2 fun k hk => by rw [c_neg, c_big hk]; grind
  have h1 := h f
  have h2 := h (-f)
  rw [show - -f = f by grind] at h2
  omega
theorem len_sub (f g : Po R) : len (f - g) ≤ max (len f) (len g) := by
  have := len_add f (-g)
  rw [len_neg] at this
  rwa [show f - g = f + -g by grind]
theorem len_mul_le (f g : Po R) : len (f * g) ≤ len f + len g - 1 := len_le.2 fun k hk => by
  rw [c_mul]
  refine cvl_eq0 fun i hi => ?_
  rcases Nat.lt_or_ge i (len f) with a | a
  · exact .inr (c_big (by omega))
  · exact .inl (c_big a)
theorem c_mul_top {f g : Po R} : (f * g).c (len f - 1 + (len g - 1)) = ld f * ld g := by
  rw [c_mul, cvl_one (j := len f - 1) (by omega) fun i hi hne => ?_]
  · rw [show len f - 1 + (len g - 1) - (len f - 1) = len g - 1 by omega]; rfl
  · rcases Nat.lt_or_ge i (len f) with a | a
    · exact .inr (c_big (by omega))
    · exact .inl (c_big a)
theorem len_C {a : R} (h : a ≠ 0) : len (Po.C a) = 1 := len_of (n := 0) (by rw [c_C, if_pos rfl]; exact h) fun k hk => by rw [c_C, if_neg (by omega)]
theorem len_C_le (a : R) : len (Po.C a) ≤ 1 := len_le.2 fun k hk => by rw [c_C, if_neg (by omega)]
theorem C_0 : Po.C (0 : R) = 0 := rfl
theorem C_1 : Po.C (1 : R) = 1 := rfl
theorem C_of_len {f : Po R} (h : len f ≤ 1) : f = Po.C (f.c 0) := Po.ext fun n => by
  rw [c_C]
  split
  · rename_i e; rw [e]
  · exact c_big (by omega)
theorem C_inj {a b : R} (h : Po.C a = Po.C b) : a = b := by
  have := congrArg (fun f => f.c 0) h
  exact this
theorem C_ne {a : R} (h : a ≠ 0) : Po.C a ≠ 0 := fun e => h (C_inj (e.trans C_0.symm))
def mono (n : Nat) (a : R) : Po R := ⟨fun k => if k = n then a else 0, n + 1, fun k hk => if_neg (by omega)⟩
theorem c_mono (n : Nat) (a : R) (k : Nat) : (mono n a).c k = if k = n then a else 0 := rfl
theorem c_mono_mul (n : Nat) (a : R) (f : Po R) (k : Nat) : (mono n a * f).c k = if n ≤ k then a * f.c (k - n) else 0 := by
  rw [c_mul]
  split
  · rename_i h
    rw [cvl_one (j := n) h fun i _ hi => .inl (by rw [c_mono, if_neg hi]), c_mono, if_pos rfl]
  · rename_i h
    exact cvl_eq0 fun i hi => .inl (by rw [c_mono, if_neg (by omega)])
theorem mono_0 (a : R) : mono 0 a = Po.C a := rfl
theorem len_mono_le (n : Nat) (a : R) : len (mono n a) ≤ n + 1 := len_le.2 fun k hk => by rw [c_mono, if_neg (by omega)]
section
variable [Dom R]
theorem dom_ne {a b : R} (ha : a ≠ 0) (hb : b ≠ 0) : a * b ≠ 0 := fun h => (Dom.mul_eq a b h).elim ha hb
theorem len_mul {f g : Po R} (hf : f ≠ 0) (hg : g ≠ 0) : len (f * g) = len f + len g - 1 := by
  have h1 := len_mul_le f g
  have h2 : len f - 1 + (len g - 1) < len (f * g) := len_lt_of (by rw [c_mul_top]; exact dom_ne (ld_ne hf) (ld_ne hg))
  have := len_pos hf
  have := len_pos hg
  omega
theorem mul_ne {f g : Po R} (hf : f ≠ 0) (hg : g ≠ 0) : f * g ≠ 0 := fun e => by
  have h := len_mul hf hg
  rw [e, len_0] at h
  have := len_pos hf
  have := len_pos hg
  omega
instance : Dom (Po R) := ⟨C_ne Dom.one_ne, fun f g h => by
  by_cases hf : f = 0
  · exact .inl hf
  · by_cases hg : g = 0
    · exact .inr hg
    · exact absurd h (mul_ne hf hg)⟩
theorem mul_cancel {a b c : R} (ha : a ≠ 0) (h : a * b = a * c) : b = c := by
  have : a * (b - c) = 0 := by grind
  rcases Dom.mul_eq _ _ this with h | h
  · exact absurd h ha
  · grind
theorem ld_mul {f g : Po R} (hf : f ≠ 0) (hg : g ≠ 0) : ld (f * g) = ld f * ld g := by
  have h := len_mul hf hg
  have := len_pos hf
  have := len_pos hg
  show (f * g).c (len (f * g) - 1) = _
  rw [h, show len f + len g - 1 - 1 = len f - 1 + (len g - 1) by omega, c_mul_top]
end
theorem ld_C {a : R} (h : a ≠ 0) : ld (Po.C a) = a := by
  unfold ld
  rw [len_C h]; rfl
end
/-! division -/
section
variable {K : Type} [Field K]
theorem divmod (f g : Po K) (hg : g ≠ 0) : ∃ q r, f = q * g + r ∧ len r < len g := by
  generalize hn : len f = n
  induction n using Nat.strongRecOn generalizing f with
  | ind n ih =>
    by_cases h : len f < len g
    · exact ⟨0, f, by grind, h⟩
    have h1 := len_pos hg
    let s := mono (len f - len g) (ld f * (ld g)⁻¹)
    have hs : len (f - s * g) < len f := by
      have : len (f - s * g) ≤ len f - 1 := len_le.2 fun k hk => by
        rw [c_sub, c_mono_mul]
        rcases Nat.lt_or_ge k (len f) with a | a
        · obtain rfl : k = len f - 1 := by omega
          rw [if_pos (by omega), show len f - 1 - (len f - len g) = len g - 1 by omega]
          have e : g.c (len g - 1) = ld g := rfl
          have e2 : f.c (len f - 1) = ld f := rfl
          rw [e, e2]
          have := Field.mul_inv_cancel (ld_ne hg)
          grind
        · rw [if_pos (by omega), c_big a, c_big (f := g) (by omega)]; grind
      omega
    obtain ⟨q, r, e, hr⟩ := ih _ (by omega) (f - s * g) rfl
    exact ⟨q + s, r, by grind, hr⟩
def Dv {R : Type} [CommRing R] (a b : R) : Prop := ∃ c, b = a * c
theorem bezout (f g : Po K) : ∃ d u v, d = u * f + v * g ∧ Dv d f ∧ Dv d g := by
  generalize hn : len g = n
  induction n using Nat.strongRecOn generalizing f g with
  | ind n ih =>
    by_cases hg : g = 0
    · subst hg
      exact ⟨f, 1, 0, by grind, ⟨1, by grind⟩, ⟨0, by grind⟩⟩
    · obtain ⟨q, r, e, hr⟩ := divmod f g hg
      obtain ⟨d, u, v, h1, ⟨a, ha⟩, ⟨b, hb⟩⟩ := ih _ (by omega) g r rfl
      exact ⟨d, v, u - v * q, by grind, ⟨q * a + b, by grind⟩, ⟨a, ha⟩⟩
end
section
variable {R : Type} [CommRing R]
theorem Dv.refl (a : R) : Dv a a := ⟨1, by grind⟩
theorem Dv.trans {a b c : R} (h : Dv a b) (k : Dv b c) : Dv a c := by
  obtain ⟨x, hx⟩ := h
  obtain ⟨y, hy⟩ := k
  exact ⟨x * y, by grind⟩
theorem Dv.mul_r {a b : R} (c : R) (h : Dv a b) : Dv a (b * c) := by
  obtain ⟨x, hx⟩ := h
  exact ⟨x * c, by grind⟩
theorem Dv.mul_l {a b : R} (c : R) (h : Dv a b) : Dv a (c * b) := by
  obtain ⟨x, hx⟩ := h
  exact ⟨x * c, by grind⟩
theorem Dv.add {a b c : R} (h : Dv a b) (k : Dv a c) : Dv a (b + c) := by
  obtain ⟨x, hx⟩ := h
  obtain ⟨y, hy⟩ := k
  exact ⟨x + y, by grind⟩
theorem Dv.sub {a b c : R} (h : Dv a b) (k : Dv a c) : Dv a (b - c) := by
  obtain ⟨x, hx⟩ := h
  obtain ⟨y, hy⟩ := k
  exact ⟨x - y, by grind⟩
theorem Dv.zero (a : R) : Dv a 0 := ⟨0, by grind⟩
theorem Dv.mul2 {a b c d : R} (h : Dv a b) (k : Dv c d) : Dv (a * c) (b * d) := by
  obtain ⟨x, hx⟩ := h
  obtain ⟨y, hy⟩ := k
  exact ⟨x * y, by grind⟩
theorem Dv.one (a : R) : Dv 1 a := ⟨a, by grind⟩
theorem Dv.len [Dom R] {f g : Po R} (h : Dv f g) (hg : g ≠ 0) : PolA.len f ≤ PolA.len g := by
  obtain ⟨x, rfl⟩ := h
  have hf : f ≠ 0 := fun e => hg (by rw [e]; grind)
  have hx : x ≠ 0 := fun e => hg (by rw [e]; grind)
  rw [len_mul hf hx]
  have := len_pos hx
  omega
end
end PolA

set_option autoImplicit false
namespace PolA
open Lean.Grind
def pr {R : Type} [CommRing R] : List R → R
  | [] => 1
  | f :: l => f * pr l
theorem pr_app {R : Type} [CommRing R] (l r : List R) : pr (l ++ r) = pr l * pr r := by
  induction l with
  | nil => simp only [pr, List.nil_append]; grind
  | cons f l ih => simp only [pr, List.cons_append, ih]; grind
theorem pr_perm {R : Type} [CommRing R] {l r : List R} (h : l.Perm r) : pr l = pr r := by
  induction h with
  | nil => rfl
  | cons x _ ih => simp only [pr, ih]
  | swap x y l => simp only [pr]; grind
  | trans _ _ ih1 ih2 => exact ih1.trans ih2
theorem dv_pr {R : Type} [CommRing R] {l : List R} {f : R} (h : f ∈ l) : Dv f (pr l) := by
  induction l with
  | nil => cases h
  | cons x l ih =>
    rcases List.mem_cons.1 h with rfl | h
    · exact ⟨pr l, rfl⟩
    · exact (ih h).mul_l x
section
variable {K : Type} [Field K]
def Irr (f : Po K) : Prop := 2 ≤ len f ∧ ∀ g h, f = g * h → len g ≤ 1 ∨ len h ≤ 1
def Mon {R : Type} [CommRing R] (f : Po R) : Prop := ld f = 1
theorem Mon.ne {R : Type} [CommRing R] [Dom R] {f : Po R} (h : Mon f) : f ≠ 0 := fun e => by
  unfold Mon ld at h
  rw [e, c_zero] at h
  exact Dom.one_ne h.symm
theorem Irr.ne {f : Po K} (h : Irr f) : f ≠ 0 := fun e => by
  have := h.1
  rw [e, len_0] at this; omega
theorem unit_of {f : Po K} (h : len f = 1) : ∃ a : K, a ≠ 0 ∧ f = Po.C a := by
  have e := C_of_len (f := f) (by omega)
  refine ⟨f.c 0, fun z => ?_, e⟩
  rw [z, C_0] at e
  rw [e, len_0] at h; omega
theorem C_inv {a : K} (h : a ≠ 0) : Po.C a * Po.C a⁻¹ = 1 := by
  rw [← C_mul, Field.mul_inv_cancel h]; rfl
theorem dv_unit {f : Po K} (h : len f = 1) (g : Po K) : Dv f g := by
  obtain ⟨a, ha, rfl⟩ := unit_of h
  exact ⟨Po.C a⁻¹ * g, by have := C_inv ha; grind⟩
theorem irr_prime {f g h : Po K} (hf : Irr f) (d : Dv f (g * h)) : Dv f g ∨ Dv f h := by
  obtain ⟨c, u, v, e, d1, d2⟩ := bezout f g
  obtain ⟨x, hx⟩ := d1
  rcases hf.2 c x hx with a | a
  · refine .inr ?_
    have h1 : len c = 1 := by
      rcases Nat.eq_zero_or_pos (len c) with z | z
      · have := eq0_of_len z
        refine absurd ?_ hf.ne
        rw [hx, this]; grind
      · omega
    obtain ⟨y, hy⟩ := dv_unit h1 (1 : Po K)
    obtain ⟨z, hz⟩ := d
    exact ⟨u * y * h + v * y * z, by grind⟩
  · refine .inl ?_
    have h1 : len x = 1 := by
      rcases Nat.eq_zero_or_pos (len x) with z | z
      · have := eq0_of_len z
        refine absurd ?_ hf.ne
        rw [hx, this]; grind
      · omega
    obtain ⟨y, hy⟩ := dv_unit h1 (1 : Po K)
    obtain ⟨z, hz⟩ := d2
    exact ⟨y * z, by grind⟩
theorem irr_pr {f : Po K} {l : List (Po K)} (hf : Irr f) (d : Dv f (pr l)) : ∃ g, g ∈ l ∧ Dv f g := by
  induction l with
  | nil =>
    have : (1 : Po K) ≠ 0 := Dom.one_ne
    have h2 := d.len this
    have h3 : len (1 : Po K) = 1 := len_C (a := (1 : K)) Dom.one_ne
    have := hf.1
    simp only [pr] at h2
    omega
  | cons g l ih =>
    rcases irr_prime hf d with h | h
    · exact ⟨g, List.mem_cons_self .., h⟩
    · obtain ⟨k, hk, d⟩ := ih h
      exact ⟨k, List.mem_cons_of_mem _ hk, d⟩
theorem mon_assoc {f g : Po K} (hf : Irr f) (hg : Irr g) (mf : Mon f) (mg : Mon g) (d : Dv f g) : f = g := by
  obtain ⟨c, hc⟩ := d
  have hc0 : c ≠ 0 := fun e => hg.ne (by rw [hc, e]; grind)
  rcases hg.2 f c hc with w | w
  · have := hf.1; omega
  · have h1 : len c = 1 := by have := len_pos hc0; omega
    obtain ⟨a, ha, rfl⟩ := unit_of h1
    have e := ld_mul hf.ne hc0
    rw [← hc, ld_C ha] at e
    have : a = 1 := by
      rw [show ld g = 1 from mg, show ld f = 1 from mf] at e
      grind
    rw [hc, this, C_1]; grind
/-- just one row of parts -/
theorem uniq {l r : List (Po K)} (hl : ∀ f ∈ l, Irr f ∧ Mon f) (hr : ∀ f ∈ r, Irr f ∧ Mon f) (h : pr l = pr r) : l.Perm r := by
  induction l generalizing r with
  | nil =>
    cases r with
    | nil => exact List.Perm.refl _
    | cons g r =>
      have h3 : len (1 : Po K) = 1 := len_C (a := (1 : K)) Dom.one_ne
      have h2 : Dv g (1 : Po K) := ⟨pr r, h⟩
      have := h2.len Dom.one_ne
      have := (hr g (List.mem_cons_self ..)).1.1
      omega
  | cons f l ih =>
    have hf := hl f (List.mem_cons_self ..)
    obtain ⟨g, hg, d⟩ := irr_pr hf.1 (show Dv f (pr r) from ⟨pr l, h.symm⟩)
    have e := mon_assoc hf.1 (hr g hg).1 hf.2 (hr g hg).2 d
    subst e
    obtain ⟨a, b, rfl⟩ := List.append_of_mem hg
    have pm : (a ++ f :: b).Perm (f :: (a ++ b)) := List.perm_middle
    have e2 := pr_perm pm
    have e3 : f * pr l = f * pr (a ++ b) := h.trans e2
    have := ih (fun x hx => hl x (List.mem_cons_of_mem _ hx)) (r := a ++ b) (fun x hx => hr x (by
      rcases List.mem_append.1 hx with h | h
      · exact List.mem_append_left _ h
      · exact List.mem_append_right _ (List.mem_cons_of_mem _ h))) (mul_cancel hf.1.ne e3)
    exact (this.cons f).trans pm.symm
theorem len_Cmul {a : K} (ha : a ≠ 0) (f : Po K) : len (Po.C a * f) = len f := by
  by_cases hf : f = 0
  · subst hf
    rw [show Po.C a * (0 : Po K) = 0 by grind]
  · have := len_mul (C_ne ha) hf
    rw [len_C ha] at this
    omega
theorem ld_Cmul {a : K} (ha : a ≠ 0) {f : Po K} (hf : f ≠ 0) : ld (Po.C a * f) = a * ld f := by rw [ld_mul (C_ne ha) hf, ld_C ha]
theorem irr_Cmul {a : K} (ha : a ≠ 0) {f : Po K} (hf : Irr f) : Irr (Po.C a * f) := by
  refine ⟨by rw [len_Cmul ha]; exact hf.1, fun g h e => ?_⟩
  have ci := C_inv ha
  have := hf.2 (Po.C a⁻¹ * g) h (by grind)
  rcases this with h1 | h1
  · left
    by_cases hz : a⁻¹ = 0
    · exact absurd (Field.mul_inv_cancel ha) (by rw [hz]; intro e; exact Field.zero_ne_one (α := K) (by grind))
    · rwa [len_Cmul hz] at h1
  · exact .inr h1
theorem inv_ne {a : K} (ha : a ≠ 0) : a⁻¹ ≠ 0 := fun hz => by
  have := Field.mul_inv_cancel ha
  rw [hz] at this
  exact Field.zero_ne_one (α := K) (by grind)
noncomputable def mkMon (f : Po K) : Po K := Po.C (ld f)⁻¹ * f
theorem mkMon_mon {f : Po K} (hf : f ≠ 0) : Mon (mkMon f) := by
  unfold mkMon Mon
  rw [ld_Cmul (inv_ne (ld_ne hf)) hf]
  have := Field.mul_inv_cancel (ld_ne hf)
  grind
theorem mkMon_eq {f : Po K} (hf : f ≠ 0) : f = Po.C (ld f) * mkMon f := by
  have := C_inv (ld_ne hf)
  unfold mkMon
  grind
theorem Mon.mul {R : Type} [CommRing R] [Dom R] {f g : Po R} (hf : Mon f) (hg : Mon g) : Mon (f * g) := by
  unfold Mon at *
  rw [ld_mul (Mon.ne hf) (Mon.ne hg), hf, hg]; grind
theorem Mon.one {R : Type} [CommRing R] [Dom R] : Mon (1 : Po R) := ld_C Dom.one_ne
theorem Mon.pr {l : List (Po K)} (h : ∀ f ∈ l, Mon f) : Mon (PolA.pr l) := by
  induction l with
  | nil => exact Mon.one
  | cons f l ih => exact (h f (List.mem_cons_self ..)).mul (ih fun x hx => h x (List.mem_cons_of_mem _ hx))
theorem mon_C {a : K} (h : Mon (Po.C a)) : a = 1 := by
  by_cases ha : a = 0
  · exact absurd (by rw [ha]; rfl) h.ne
  · rw [← ld_C ha]; exact h
/-- each one of degree 1 or more is parted -/
theorem ex_parts {f : Po K} (hf : Mon f) : ∃ l, (∀ g ∈ l, Irr g ∧ Mon g) ∧ f = pr l := by
  generalize hn : len f = n
  induction n using Nat.strongRecOn generalizing f with
  | ind n ih =>
    have h0 := len_pos hf.ne
    by_cases h1 : len f = 1
    · obtain ⟨a, ha, rfl⟩ := unit_of h1
      rw [mon_C hf]
      exact ⟨[], ⟨fun g hg => (List.not_mem_nil hg).elim, rfl⟩⟩
    by_cases hi : Irr f
    · exact ⟨[f], fun g hg => by rw [List.mem_singleton.1 hg]; exact ⟨hi, hf⟩, by simp only [pr]; grind⟩
    · have : ∃ g h, f = g * h ∧ 1 < len g ∧ 1 < len h := by
        apply Classical.byContradiction
        intro c
        refine hi ⟨by omega, fun g h e => ?_⟩
        rcases Nat.lt_or_ge 1 (len g) with a | a
        · rcases Nat.lt_or_ge 1 (len h) with b | b
          · exact absurd ⟨g, h, e, a, b⟩ c
          · exact .inr b
        · exact .inl a
      obtain ⟨g, h, e, hg, hh⟩ := this
      have hg0 : g ≠ 0 := fun z => by rw [z, len_0] at hg; omega
      have hh0 : h ≠ 0 := fun z => by rw [z, len_0] at hh; omega
      have hl := len_mul hg0 hh0
      rw [← e] at hl
      have hg1 : len (mkMon g) = len g := len_Cmul (inv_ne (ld_ne hg0)) g
      have hh1 : len (mkMon h) = len h := len_Cmul (inv_ne (ld_ne hh0)) h
      obtain ⟨l1, a1, b1⟩ := ih (len g) (by omega) (mkMon_mon hg0) hg1
      obtain ⟨l2, a2, b2⟩ := ih (len h) (by omega) (mkMon_mon hh0) hh1
      refine ⟨l1 ++ l2, fun x hx => (List.mem_append.1 hx).elim (a1 x) (a2 x), ?_⟩
      rw [pr_app, ← b1, ← b2]
      have e1 := mkMon_eq hg0
      have e2 := mkMon_eq hh0
      have e3 : ld g * ld h = 1 := by rw [← ld_mul hg0 hh0, ← e]; exact hf
      have e4 : Po.C (ld g) * Po.C (ld h) = 1 := by rw [← C_mul, e3]; rfl
      rw [e]
      grind
end
end PolA

set_option autoImplicit false
namespace PolA
open Lean.Grind
/-! rests: a ring modulo one of its own -/
section
variable {R : Type} [CommRing R]
def qst (m : R) : Setoid R where
  r a b := Dv m (a - b)
  iseqv := ⟨fun a => ⟨0, by grind⟩, fun ⟨c, h⟩ => ⟨-c, by grind⟩, fun ⟨c, h⟩ ⟨d, k⟩ => ⟨c + d, by grind⟩⟩
def Qt (m : R) : Type := Quotient (qst m)
def Qt.mk (m a : R) : Qt m := Quotient.mk (qst m) a
theorem Qt.eq {m a b : R} : Qt.mk m a = Qt.mk m b ↔ Dv m (a - b) := ⟨fun h => Quotient.exact h, fun h => Quotient.sound h⟩
theorem Qt.ind {m : R} {P : Qt m → Prop} (h : ∀ a, P (Qt.mk m a)) (x : Qt m) : P x := Quotient.ind h x
def Qt.add {m : R} : Qt m → Qt m → Qt m := Quotient.lift₂ (fun a b => Qt.mk m (a + b)) fun a b a' b' ⟨c, h⟩ ⟨d, k⟩ => Qt.eq.2 ⟨c + d, by grind⟩
def Qt.mul {m : R} : Qt m → Qt m → Qt m := Quotient.lift₂ (fun a b => Qt.mk m (a * b)) fun a b a' b' ⟨c, h⟩ ⟨d, k⟩ => Qt.eq.2 ⟨c * b + a' * d, by grind⟩
def Qt.neg {m : R} : Qt m → Qt m := Quotient.lift (fun a => Qt.mk m (-a)) fun a b ⟨c, h⟩ => Qt.eq.2 ⟨-c, by grind⟩
variable {m : R}
local instance instNC2 : NatCast R := Semiring.natCast
local instance instIC2 : IntCast R := Ring.intCast
instance : Add (Qt m) := ⟨Qt.add⟩
instance : Mul (Qt m) := ⟨Qt.mul⟩
instance : Neg (Qt m) := ⟨Qt.neg⟩
instance : Sub (Qt m) := ⟨fun a b => Qt.add a (Qt.neg b)⟩
instance : NatCast (Qt m) := ⟨fun n => Qt.mk m (n : R)⟩
instance : IntCast (Qt m) := ⟨fun n => Qt.mk m (n : R)⟩
instance (n : Nat) : OfNat (Qt m) n := ⟨Qt.mk m (OfNat.ofNat n)⟩
instance : SMul Nat (Qt m) := ⟨fun n f => Qt.mul (Qt.mk m (n : R)) f⟩
instance : SMul Int (Qt m) := ⟨fun n f => Qt.mul (Qt.mk m (n : R)) f⟩
def Qt.pow (f : Qt m) : Nat → Qt m
  | 0 => Qt.mk m 1
  | n + 1 => Qt.mul (Qt.pow f n) f
instance : HPow (Qt m) Nat (Qt m) := ⟨Qt.pow⟩
theorem mk_add (a b : R) : Qt.mk m (a + b) = Qt.mk m a + Qt.mk m b := rfl
theorem mk_mul (a b : R) : Qt.mk m (a * b) = Qt.mk m a * Qt.mk m b := rfl
theorem mk_neg (a : R) : Qt.mk m (-a) = -Qt.mk m a := rfl
theorem mk_zero : Qt.mk m 0 = 0 := rfl
theorem mk_one : Qt.mk m 1 = 1 := rfl
instance : CommRing (Qt m) where
  add_zero := Qt.ind fun a => by rw [← mk_zero, ← mk_add, show a + 0 = a by grind]
  add_comm := Qt.ind fun a => Qt.ind fun b => by rw [← mk_add, ← mk_add, show a + b = b + a by grind]
  add_assoc := Qt.ind fun a => Qt.ind fun b => Qt.ind fun c => by simp only [← mk_add]; rw [show a + b + c = a + (b + c) by grind]
  mul_assoc := Qt.ind fun a => Qt.ind fun b => Qt.ind fun c => by simp only [← mk_mul]; rw [show a * b * c = a * (b * c) by grind]
  mul_one := Qt.ind fun a => by rw [← mk_one, ← mk_mul, show a * 1 = a by grind]
  one_mul := Qt.ind fun a => by rw [← mk_one, ← mk_mul, show 1 * a = a by grind]
  left_distrib := Qt.ind fun a => Qt.ind fun b => Qt.ind fun c => by simp only [← mk_mul, ← mk_add]; rw [show a * (b + c) = a * b + a * c by grind]
  right_distrib := Qt.ind fun a => Qt.ind fun b => Qt.ind fun c => by simp only [← mk_mul, ← mk_add]; rw [show (a + b) * c = a * c + b * c by grind]
  zero_mul := Qt.ind fun a => by rw [← mk_zero, ← mk_mul, show 0 * a = 0 by grind]
  mul_zero := Qt.ind fun a => by rw [← mk_zero, ← mk_mul, show a * 0 = 0 by grind]
  pow_zero f := rfl
  pow_succ f n := rfl
  ofNat_succ n := by
    show Qt.mk m (OfNat.ofNat (n + 1)) = Qt.mk m (OfNat.ofNat n) + Qt.mk m (OfNat.ofNat 1)
    rw [← mk_add, Semiring.ofNat_succ]
  ofNat_eq_natCast n := by
    show Qt.mk m (OfNat.ofNat n) = Qt.mk m (n : R)
    rw [Semiring.ofNat_eq_natCast]
  nsmul_eq_natCast_mul n f := rfl
  neg_add_cancel := Qt.ind fun a => by rw [← mk_zero, ← mk_neg, ← mk_add, show -a + a = 0 by grind]
  sub_eq_add_neg f g := rfl
  neg_zsmul i := Qt.ind fun a => by
    show Qt.mk m (((-i : Int) : R) * a) = Qt.mk m (-((i : R) * a))
    rw [Ring.intCast_neg, show -(i : R) * a = -((i : R) * a) by grind]
  zsmul_natCast_eq_nsmul n f := by
    show Qt.mul (Qt.mk m (((n : Nat) : Int) : R)) f = Qt.mul (Qt.mk m (n : R)) f
    rw [Ring.intCast_natCast]
  intCast_ofNat n := congrArg (Qt.mk m) (Ring.intCast_ofNat (α := R) n)
  intCast_neg i := by
    show Qt.mk m ((-i : Int) : R) = -Qt.mk m (i : R)
    rw [Ring.intCast_neg]; rfl
  mul_comm := Qt.ind fun a => Qt.ind fun b => by rw [← mk_mul, ← mk_mul, show a * b = b * a by grind]
theorem mk_sub (a b : R) : Qt.mk m (a - b) = Qt.mk m a - Qt.mk m b := by
  rw [show a - b = a + -b by grind, mk_add, mk_neg]; grind
theorem mk_eq0 {a : R} : Qt.mk m a = 0 ↔ Dv m a := by
  rw [← mk_zero, Qt.eq, show a - 0 = a by grind]
theorem mk_pow (a : R) (n : Nat) : Qt.mk m (a ^ n) = Qt.mk m a ^ n := by
  induction n with
  | zero => rw [Semiring.pow_zero, Semiring.pow_zero]; rfl
  | succ n ih => rw [Semiring.pow_succ, Semiring.pow_succ, mk_mul, ih]
end
/- a ring in which each one but 0 can be turned over -/
open Classical in
noncomputable abbrev fieldOf {R : Type} [CommRing R] (h0 : (0 : R) ≠ 1) (h : ∀ a : R, a ≠ 0 → ∃ b, a * b = 1) : Field R :=
  letI iv : Inv R := ⟨fun a => if h1 : a ≠ 0 then (h a h1).choose else 0⟩
  have e1 : (0 : R)⁻¹ = 0 := by
    show (if h1 : (0 : R) ≠ 0 then (h 0 h1).choose else 0) = 0
    rw [dif_neg (fun z => z rfl)]
  have e2 : ∀ {a : R}, a ≠ 0 → a * a⁻¹ = 1 := fun {a} ha => by
    show a * (if h1 : a ≠ 0 then (h a h1).choose else 0) = 1
    rw [dif_pos ha]
    exact (h a ha).choose_spec
  letI dv : Div R := ⟨fun a b => a * b⁻¹⟩
  letI zp : HPow R Int R := ⟨fun a n => match n with
    | .ofNat k => a ^ k
    | .negSucc k => (a ^ (k + 1))⁻¹⟩
  have one_inv : (1 : R)⁻¹ = 1 := by
    have := e2 (a := (1 : R)) (fun z => h0 z.symm)
    grind
  have inv_inv : ∀ a : R, a⁻¹⁻¹ = a := fun a => by
    by_cases ha : a = 0
    · rw [ha, e1, e1]
    · have h1 := e2 ha
      have h2 : a⁻¹ ≠ 0 := fun z => h0 (by rw [z] at h1; grind)
      have h3 := e2 h2
      grind
  { div_eq_mul_inv := fun a b => rfl
    zero_ne_one := h0
    inv_zero := e1
    mul_inv_cancel := e2
    zpow_zero := fun a => Semiring.pow_zero a
    zpow_succ := fun a n => by
      show a ^ (n + 1) = a ^ n * a
      exact Semiring.pow_succ a n
    zpow_neg := fun a n => by
      cases n with
      | ofNat k =>
        cases k with
        | zero =>
          show a ^ (0 : Nat) = (a ^ (0 : Nat))⁻¹
          rw [Semiring.pow_zero, one_inv]
        | succ k => rfl
      | negSucc k =>
        show a ^ (k + 1) = ((a ^ (k + 1))⁻¹)⁻¹
        rw [inv_inv] }
end PolA

set_option autoImplicit false
namespace PolA
open Lean.Grind
section
variable {R : Type} [CommRing R]
def Po.X : Po R := mono 1 1
def tl (f : Po R) : Po R := ⟨fun n => f.c (n + 1), by
  obtain ⟨N, h⟩ := f.fin
  exact ⟨N, fun n hn => h _ (by omega)⟩⟩
theorem c_X_mul (f : Po R) (k : Nat) : (Po.X * f).c k = if k = 0 then 0 else f.c (k - 1) := by
  unfold Po.X
  rw [c_mono_mul]
  cases k with
  | zero => rfl
  | succ k => rw [if_pos (by omega), if_neg (by omega)]; grind
theorem po_cons (f : Po R) : f = Po.C (f.c 0) + Po.X * tl f := Po.ext fun n => by
  rw [c_add, c_C, c_X_mul]
  cases n with
  | zero => rw [if_pos rfl, if_pos rfl]; grind
  | succ n =>
    rw [if_neg (by omega), if_neg (by omega)]
    show _ = _ + f.c (n + 1)
    grind
theorem tl_len (f : Po R) : len (tl f) ≤ len f - 1 := len_le.2 fun k hk => c_big (f := f) (by omega)
theorem po_ind {P : Po R → Prop} (h0 : P 0) (h : ∀ a f, P f → P (Po.C a + Po.X * f)) (f : Po R) : P f := by
  generalize hn : len f = n
  induction n using Nat.strongRecOn generalizing f with
  | ind n ih =>
    by_cases hf : f = 0
    · rw [hf]; exact h0
    · rw [po_cons f]
      have := tl_len f
      have := len_pos hf
      exact h _ _ (ih _ (by omega) (tl f) rfl)
/-! values -/
theorem ev_ex (f : Po R) (a : R) : ∃ r, Dv (Po.X - Po.C a) (f - Po.C r) := by
  induction f using po_ind with
  | h0 => exact ⟨0, 0, by rw [C_0]; grind⟩
  | h b f ih =>
    obtain ⟨r, q, h⟩ := ih
    refine ⟨b + a * r, Po.X * q + Po.C r, ?_⟩
    rw [C_add, C_mul]
    grind
theorem ev_uq {q : Po R} {a r : R} (h : Po.C r = (Po.X - Po.C a) * q) : r = 0 := by
  have hq : q = 0 := by
    apply Classical.byContradiction
    intro hq
    have h1 := len_pos hq
    have e := congrArg (fun f => f.c (len q)) h
    have e2 : ((Po.X - Po.C a) * q).c (len q) = q.c (len q - 1) - a * q.c (len q) := by
      rw [show (Po.X - Po.C a) * q = Po.X * q - Po.C a * q by grind, c_sub, c_X_mul, c_Cmul, if_neg (by omega)]
    simp only [e2, c_big (f := q) (Nat.le_refl _)] at e
    rw [c_C, if_neg (by omega)] at e
    refine ld_ne hq ?_
    show q.c (len q - 1) = 0
    grind
  rw [hq] at h
  have : Po.C r = 0 := by grind
  exact C_inj this
noncomputable def ev (f : Po R) (a : R) : R := (ev_ex f a).choose
theorem ev_dv (f : Po R) (a : R) : Dv (Po.X - Po.C a) (f - Po.C (ev f a)) := (ev_ex f a).choose_spec
theorem ev_eq {f : Po R} {a r : R} (h : Dv (Po.X - Po.C a) (f - Po.C r)) : ev f a = r := by
  obtain ⟨q, hq⟩ := h
  obtain ⟨q', hq'⟩ := ev_dv f a
  have : ev f a - r = 0 := ev_uq (a := a) (q := q - q') (by
    rw [show ev f a - r = ev f a + -r by grind, C_add, C_neg]; grind)
  grind
theorem ev_C (a b : R) : ev (Po.C b) a = b := ev_eq ⟨0, by grind⟩
theorem ev_X (a : R) : ev Po.X a = a := ev_eq ⟨1, by grind⟩
theorem ev_add (f g : Po R) (a : R) : ev (f + g) a = ev f a + ev g a := by
  obtain ⟨q, h⟩ := ev_dv f a
  obtain ⟨q', h'⟩ := ev_dv g a
  exact ev_eq ⟨q + q', by rw [C_add]; grind⟩
theorem ev_mul (f g : Po R) (a : R) : ev (f * g) a = ev f a * ev g a := by
  obtain ⟨q, h⟩ := ev_dv f a
  obtain ⟨q', h'⟩ := ev_dv g a
  exact ev_eq ⟨q * g + Po.C (ev f a) * q', by rw [C_mul]; grind⟩
theorem ev_neg (f : Po R) (a : R) : ev (-f) a = -ev f a := by
  obtain ⟨q, h⟩ := ev_dv f a
  exact ev_eq ⟨-q, by rw [C_neg]; grind⟩
theorem ev_sub (f g : Po R) (a : R) : ev (f - g) a = ev f a - ev g a := by
  rw [show f - g = f + -g by grind, ev_add, ev_neg]; grind
theorem ev_0 (a : R) : ev 0 a = 0 := ev_C a 0
theorem ev_1 (a : R) : ev 1 a = 1 := ev_C a 1
theorem ev_pow (f : Po R) (n : Nat) (a : R) : ev (f ^ n) a = ev f a ^ n := by
  induction n with
  | zero => rw [Semiring.pow_zero, Semiring.pow_zero, ev_1]
  | succ n ih => rw [Semiring.pow_succ, Semiring.pow_succ, ev_mul, ih]
theorem ev_root {f : Po R} {a : R} : ev f a = 0 ↔ Dv (Po.X - Po.C a) f := by
  constructor
  · intro h
    obtain ⟨q, hq⟩ := ev_dv f a
    rw [h, C_0] at hq
    exact ⟨q, by grind⟩
  · intro ⟨q, hq⟩
    exact ev_eq ⟨q, by rw [C_0]; grind⟩
theorem len_Xa [Dom R] (a : R) : len (Po.X - Po.C a) = 2 := len_of (n := 1) (by
    rw [c_sub, c_C, if_neg (by omega)]
    show (if (1 : Nat) = 1 then (1 : R) else 0) - 0 ≠ 0
    rw [if_pos rfl]
    intro h
    exact Dom.one_ne (R := R) (by grind)) fun k hk => by
    rw [c_sub, c_C, if_neg (by omega)]
    show (if k = 1 then (1 : R) else 0) - 0 = 0
    rw [if_neg (by omega)]; grind
theorem Xa_ne [Dom R] (a : R) : Po.X - Po.C a ≠ 0 := fun e => by
  have := len_Xa a
  rw [e, len_0] at this
  omega
/-- not more roots than the degree -/
theorem roots_le [Dom R] {f : Po R} (hf : f ≠ 0) {l : List R} (hl : l.Nodup) (h : ∀ a ∈ l, ev f a = 0) : l.length + 1 ≤ len f := by
  induction l generalizing f with
  | nil => have := len_pos hf; simp; omega
  | cons a l ih =>
    obtain ⟨g, hg⟩ := ev_root.1 (h a (List.mem_cons_self ..))
    have hg0 : g ≠ 0 := fun e => hf (by rw [hg, e]; grind)
    have h1 := len_mul (Xa_ne a) hg0
    rw [← hg, len_Xa] at h1
    have hn := List.nodup_cons.1 hl
    have := ih hg0 hn.2 fun b hb => by
      have e := h b (List.mem_cons_of_mem _ hb)
      rw [hg, ev_mul, ev_sub, ev_X, ev_C] at e
      rcases Dom.mul_eq _ _ e with e | e
      · exact absurd hb (by rw [show b = a by grind]; exact hn.1)
      · exact e
    have := len_pos hg0
    simp only [List.length_cons]
    omega
end
/-! finite fields -/
section
variable {K : Type} [Field K]
theorem pr_map_mul (a : K) (l : List K) : pr (l.map fun x => a * x) = a ^ l.length * pr l := by
  induction l with
  | nil =>
    show (1 : K) = a ^ 0 * 1
    rw [Semiring.pow_zero]; grind
  | cons x l ih =>
    simp only [List.map_cons, pr, List.length_cons, ih]
    rw [Semiring.pow_succ]; grind
theorem pr_ne {l : List K} (h : ∀ x ∈ l, x ≠ 0) : pr l ≠ 0 := by
  induction l with
  | nil => exact Dom.one_ne
  | cons x l ih => exact dom_ne (h x (List.mem_cons_self ..)) (ih fun y hy => h y (List.mem_cons_of_mem _ hy))
open Classical in
theorem perm_of {α : Type} {l r : List α} (hl : l.Nodup) (hr : r.Nodup) (h : ∀ a, a ∈ l ↔ a ∈ r) : l.Perm r := (List.perm_ext_iff_of_nodup hl hr).2 (fun {a} => h a)
theorem nodup_map {α β : Type} {f : α → β} {l : List α} (hf : ∀ a ∈ l, ∀ b ∈ l, f a = f b → a = b) (h : l.Nodup) : (l.map f).Nodup := by
  induction l with
  | nil => exact List.nodup_nil
  | cons a l ih =>
    have hn := List.nodup_cons.1 h
    rw [List.map_cons]
    refine List.nodup_cons.2 ⟨fun hm => ?_, ih (fun x hx y hy => hf x (List.mem_cons_of_mem _ hx) y (List.mem_cons_of_mem _ hy)) hn.2⟩
    obtain ⟨b, hb, e⟩ := List.mem_map.1 hm
    have := hf b (List.mem_cons_of_mem _ hb) a (List.mem_cons_self ..) e
    exact hn.1 (this ▸ hb)
open Classical in
theorem fermat {L : List K} (hn : L.Nodup) (hc : ∀ a, a ∈ L) (a : K) : a ^ L.length = a := by
  have hlen : L.length = (L.erase 0).length + 1 := by
    have := List.length_erase_of_mem (hc 0)
    have := List.length_pos_of_mem (hc 0)
    omega
  by_cases ha : a = 0
  · rw [hlen, Semiring.pow_succ, ha]; grind
  have hM : ∀ x ∈ L.erase 0, x ≠ 0 := fun x hx e => by
    rw [e] at hx
    exact hn.not_mem_erase hx
  have hMn := hn.erase (0 : K)
  have hp : ((L.erase 0).map fun x => a * x).Perm (L.erase 0) := perm_of (nodup_map (fun x _ y _ e => mul_cancel ha e) hMn) hMn fun b => by
    constructor
    · intro hb
      obtain ⟨x, hx, rfl⟩ := List.mem_map.1 hb
      exact (List.mem_erase_of_ne (dom_ne ha (hM x hx))).2 (hc _)
    · intro hb
      refine List.mem_map.2 ⟨a⁻¹ * b, (List.mem_erase_of_ne (dom_ne (inv_ne ha) (hM b hb))).2 (hc _), ?_⟩
      have := Field.mul_inv_cancel ha
      grind
  have e := pr_perm hp
  rw [pr_map_mul] at e
  have h1 := pr_ne hM
  have : a ^ (L.erase 0).length = 1 := mul_cancel h1 (by grind)
  rw [hlen, Semiring.pow_succ, this]; grind
end
end PolA

set_option autoImplicit false
namespace PolA
open Lean.Grind
/-! determinants: rows are numbers without end, of which as many count as there are rows -/
section
variable {R : Type} [CommRing R]
def tlv (v : Nat → R) : Nat → R := fun i => v (i + 1)
def exD (F : List (Nat → R) → R) : List (Nat → R) → List (Nat → R) → R
  | _, [] => 0
  | pre, r :: post => r 0 * F ((pre ++ post).map tlv) - exD F (pre ++ [r]) post
def DD : Nat → List (Nat → R) → R
  | 0, _ => 1
  | n + 1, rs => exD (DD n) [] rs
def lnv (u v : Nat → R) (c : R) : Nat → R := fun i => u i + c * v i
/-- linear in each row, 0 where two neighbours are equal, in lists of one length -/
structure Alt (n : Nat) (F : List (Nat → R) → R) : Prop where
  lin : ∀ (A B : List (Nat → R)) (u v : Nat → R) (c : R), (A ++ u :: B).length = n → F (A ++ lnv u v c :: B) = F (A ++ u :: B) + c * F (A ++ v :: B)
  adj : ∀ (A B : List (Nat → R)) (u : Nat → R), (A ++ u :: u :: B).length = n → F (A ++ u :: u :: B) = 0
theorem tlv_lnv (u v : Nat → R) (c : R) : tlv (lnv u v c) = lnv (tlv u) (tlv v) c := rfl
theorem exD_pre {n : Nat} {F : List (Nat → R) → R} (h : Alt n F) : ∀ (post A B : List (Nat → R)) (u v : Nat → R) (c : R), (A ++ u :: B ++ post).length = n + 1 → exD F (A ++ lnv u v c :: B) post = exD F (A ++ u :: B) post + c * exD F (A ++ v :: B) post
  | [], A, B, u, v, c, _ => by
    show (0 : R) = 0 + c * 0
    grind
  | r :: post, A, B, u, v, c, hl => by
    have ih := exD_pre h post A (B ++ [r]) u v c (by simp at hl ⊢; omega)
    have h1 := h.lin (A.map tlv) ((B ++ post).map tlv) (tlv u) (tlv v) c (by simp at hl ⊢; omega)
    simp only [exD, List.append_assoc, List.cons_append, List.map_append, List.map_cons, tlv_lnv] at ih h1 ⊢
    rw [ih, h1]
    grind
theorem exD_post {n : Nat} {F : List (Nat → R) → R} (h : Alt n F) : ∀ (A pre B : List (Nat → R)) (u v : Nat → R) (c : R), (pre ++ (A ++ u :: B)).length = n + 1 → exD F pre (A ++ lnv u v c :: B) = exD F pre (A ++ u :: B) + c * exD F pre (A ++ v :: B)
  | [], pre, B, u, v, c, hl => by
    have h1 := exD_pre h B pre [] u v c (by simp at hl ⊢; omega)
    simp only [List.nil_append, exD]
    rw [h1]
    show (u 0 + c * v 0) * _ - _ = _
    grind
  | r :: A, pre, B, u, v, c, hl => by
    have ih := exD_post h A (pre ++ [r]) B u v c (by simp at hl ⊢; omega)
    have h1 := h.lin ((pre ++ A).map tlv) (B.map tlv) (tlv u) (tlv v) c (by simp at hl ⊢; omega)
    simp only [List.cons_append, exD, List.append_assoc, List.map_append, List.map_cons, tlv_lnv] at ih h1 ⊢
    rw [ih, h1]
    grind
theorem exD_adj_pre {n : Nat} {F : List (Nat → R) → R} (h : Alt n F) : ∀ (post A B : List (Nat → R)) (u : Nat → R), (A ++ u :: u :: B ++ post).length = n + 1 → exD F (A ++ u :: u :: B) post = 0
  | [], _, _, _, _ => rfl
  | r :: post, A, B, u, hl => by
    have ih := exD_adj_pre h post A (B ++ [r]) u (by simp at hl ⊢; omega)
    have h1 := h.adj (A.map tlv) ((B ++ post).map tlv) (tlv u) (by simp at hl ⊢; omega)
    simp only [exD, List.append_assoc, List.cons_append, List.map_append, List.map_cons] at ih h1 ⊢
    rw [ih, h1]
    grind
theorem exD_adj_post {n : Nat} {F : List (Nat → R) → R} (h : Alt n F) : ∀ (A pre B : List (Nat → R)) (u : Nat → R), (pre ++ (A ++ u :: u :: B)).length = n + 1 → exD F pre (A ++ u :: u :: B) = 0
  | [], pre, B, u, hl => by
    have h1 := exD_adj_pre h B pre [] u (by simp at hl ⊢; omega)
    simp only [List.nil_append, exD, List.append_assoc, List.cons_append, List.map_append, List.map_cons, List.map_nil] at h1 ⊢
    rw [h1]
    grind
  | r :: A, pre, B, u, hl => by
    have ih := exD_adj_post h A (pre ++ [r]) B u (by simp at hl ⊢; omega)
    have h1 := h.adj ((pre ++ A).map tlv) (B.map tlv) (tlv u) (by simp at hl ⊢; omega)
    simp only [List.cons_append, exD, List.append_assoc, List.map_append, List.map_cons] at ih h1 ⊢
    rw [ih, h1]
    grind
theorem DD_alt : ∀ n, Alt (R := R) n (DD n)
  | 0 => ⟨fun A B u v c h => by simp at h, fun A B u h => by simp at h⟩
  | n + 1 => ⟨fun A B u v c h => exD_post (DD_alt n) A [] B u v c (by simpa using h), fun A B u h => exD_adj_post (DD_alt n) A [] B u (by simpa using h)⟩
section
variable {n : Nat} {F : List (Nat → R) → R} (h : Alt n F)
include h
theorem Alt.swap (A B : List (Nat → R)) (u v : Nat → R) (hl : (A ++ u :: v :: B).length = n) : F (A ++ v :: u :: B) = -F (A ++ u :: v :: B) := by
  have e := h.adj A B (lnv u v 1) (by simp at hl ⊢; omega)
  have l1 := h.lin A (lnv u v 1 :: B) u v 1 (by simp at hl ⊢; omega)
  have l2 := h.lin (A ++ [u]) B u v 1 (by simp at hl ⊢; omega)
  have l3 := h.lin (A ++ [v]) B u v 1 (by simp at hl ⊢; omega)
  have a1 := h.adj A B u (by simp at hl ⊢; omega)
  have a2 := h.adj A B v (by simp at hl ⊢; omega)
  simp only [List.append_assoc, List.cons_append, List.nil_append] at l2 l3
  rw [l1, l2, l3, a1, a2] at e
  grind
theorem Alt.same (A : List (Nat → R)) (u : Nat → R) : ∀ (M B : List (Nat → R)), (A ++ u :: (M ++ u :: B)).length = n → F (A ++ u :: (M ++ u :: B)) = 0 := by
  intro M
  induction M generalizing A with
  | nil => intro B hl; exact h.adj A B u hl
  | cons x M ih =>
    intro B hl
    have e := h.swap A (M ++ u :: B) x u (by simp at hl ⊢; omega)
    have := ih (A ++ [x]) B (by simp at hl ⊢; omega)
    simp only [List.append_assoc, List.cons_append, List.nil_append] at this ⊢
    rw [e, this]
    grind
/-- a row's multiple added to a later one, to an earlier one -/
theorem Alt.addL (A M B : List (Nat → R)) (u v : Nat → R) (c : R) (hl : (A ++ u :: (M ++ v :: B)).length = n) : F (A ++ u :: (M ++ lnv v u c :: B)) = F (A ++ u :: (M ++ v :: B)) := by
  have e := h.lin (A ++ u :: M) B v u c (by simp at hl ⊢; omega)
  have z := h.same A u M B (by simp at hl ⊢; omega)
  simp only [List.append_assoc, List.cons_append] at e
  rw [e, z]
  grind
theorem Alt.addE (A M B : List (Nat → R)) (u v : Nat → R) (c : R) (hl : (A ++ u :: (M ++ v :: B)).length = n) : F (A ++ lnv u v c :: (M ++ v :: B)) = F (A ++ u :: (M ++ v :: B)) := by
  have e := h.lin A (M ++ v :: B) u v c (by simp at hl ⊢; omega)
  have z := h.same A v M B (by simp at hl ⊢; omega)
  rw [e, z]
  grind
theorem Alt.swp (A M B : List (Nat → R)) (u v : Nat → R) (hl : (A ++ u :: (M ++ v :: B)).length = n) : F (A ++ v :: (M ++ u :: B)) = -F (A ++ u :: (M ++ v :: B)) := by
  have z := h.same A (lnv u v 1) M B (by simp at hl ⊢; omega)
  have l1 := h.lin A (M ++ lnv u v 1 :: B) u v 1 (by simp at hl ⊢; omega)
  have l2 := h.lin (A ++ u :: M) B u v 1 (by simp at hl ⊢; omega)
  have l3 := h.lin (A ++ v :: M) B u v 1 (by simp at hl ⊢; omega)
  have a1 := h.same A u M B (by simp at hl ⊢; omega)
  have a2 := h.same A v M B (by simp at hl ⊢; omega)
  simp only [List.append_assoc, List.cons_append] at l2 l3
  rw [l1, l2, l3, a1, a2] at z
  grind
/-- a row brought to the front over the others -/
theorem Alt.front (u : Nat → R) : ∀ (M A B : List (Nat → R)), (A ++ M ++ u :: B).length = n → F (A ++ M ++ u :: B) = (-1) ^ M.length * F (A ++ u :: (M ++ B)) := by
  intro M
  induction M with
  | nil => intro A B _; simp only [List.append_nil, List.nil_append, List.length_nil]; grind
  | cons x M ih =>
    intro A B hl
    have e := h.swap A (M ++ B) x u (by simp at hl ⊢; omega)
    have i := ih (A ++ [x]) B (by simp at hl ⊢; omega)
    simp only [List.append_assoc, List.cons_append, List.nil_append, List.length_cons] at i e ⊢
    rw [e, i]
    grind
end
theorem exD_zero (F : List (Nat → R) → R) : ∀ (post pre : List (Nat → R)), (∀ v ∈ post, v 0 = 0) → exD F pre post = 0
  | [], _, _ => rfl
  | r :: post, pre, h => by
    rw [exD, exD_zero F post _ fun v hv => h v (List.mem_cons_of_mem _ hv), h r (List.mem_cons_self ..)]
    grind
theorem DD_zero (n : Nat) (rs : List (Nat → R)) (h : ∀ v ∈ rs, v 0 = 0) : DD (n + 1) rs = 0 := exD_zero _ _ _ h
theorem DD_head (n : Nat) (r : Nat → R) (rs : List (Nat → R)) (h : ∀ v ∈ rs, v 0 = 0) : DD (n + 1) (r :: rs) = r 0 * DD n (rs.map tlv) := by
  show exD (DD n) [] (r :: rs) = _
  rw [exD, exD_zero _ _ _ h]
  simp only [List.nil_append]
  grind
def prD : List (Nat → R) → R
  | [] => 1
  | r :: rs => r 0 * prD (rs.map tlv)
termination_by l => l.length
decreasing_by simp
def shv (k : Nat) (v : Nat → R) : Nat → R := fun i => v (i + k)
theorem shv_tl (k : Nat) (v : Nat → R) : shv k (tlv v) = shv (k + 1) v := by
  funext i
  show v (i + k + 1) = v (i + (k + 1))
  rw [show i + k + 1 = i + (k + 1) by omega]
/-- where the first rows go down like stairs -/
theorem DD_tri : ∀ (L rest : List (Nat → R)), (∀ t (ht : t < L.length), ∀ i, i < t → L[t] i = 0) → (∀ v ∈ rest, ∀ i, i < L.length → v i = 0) → DD (L.length + rest.length) (L ++ rest) = prD L * DD rest.length (rest.map (shv L.length))
  | [], rest, _, _ => by
    have : rest.map (shv 0) = rest := by
      have e : (shv 0 : (Nat → R) → Nat → R) = id := by
        funext v i
        rfl
      rw [e, List.map_id]
    simp only [List.length_nil, List.nil_append, Nat.zero_add, prD, this]
    grind
  | a :: L, rest, h1, h2 => by
    have z : ∀ v ∈ L ++ rest, v 0 = 0 := fun v hv => by
      rcases List.mem_append.1 hv with hv | hv
      · obtain ⟨t, ht, rfl⟩ := List.mem_iff_getElem.1 hv
        exact h1 (t + 1) (by simp; omega) 0 (by omega)
      · exact h2 v hv 0 (by simp)
    have ih := DD_tri (L.map tlv) (rest.map tlv) (fun t ht i hi => by
      rw [List.getElem_map]
      exact h1 (t + 1) (by simp at ht ⊢; omega) (i + 1) (by omega)) (fun v hv i hi => by
      obtain ⟨w, hw, rfl⟩ := List.mem_map.1 hv
      exact h2 w hw (i + 1) (by simp at hi ⊢; omega))
    rw [show (a :: L).length + rest.length = (L.length + rest.length) + 1 by simp; omega, List.cons_append, DD_head _ _ _ z, List.map_append]
    simp only [List.length_map] at ih
    rw [ih, List.map_map]
    rw [show prD (a :: L) = a 0 * prD (L.map tlv) by rw [prD]]
    have e : (shv L.length ∘ tlv : (Nat → R) → Nat → R) = shv (a :: L).length := by
      funext v
      exact shv_tl _ _
    rw [e]
    grind
termination_by L => L.length
decreasing_by simp
/-- only as many places as rows count -/
theorem DD_loc : ∀ (n : Nat) (rs ss : List (Nat → R)), rs.length = n → ss.length = n → (∀ k (h1 : k < rs.length) (h2 : k < ss.length), ∀ i, i < n → rs[k] i = ss[k] i) → DD n rs = DD n ss := by
  intro n
  induction n with
  | zero => intro rs ss _ _ _; rfl
  | succ n ih =>
    have key : ∀ (post post' pre pre' : List (Nat → R)), pre.length = pre'.length → post.length = post'.length → pre.length + post.length = n + 1 → (∀ k (h1 : k < pre.length) (h2 : k < pre'.length), ∀ i, i < n + 1 → pre[k] i = pre'[k] i) → (∀ k (h1 : k < post.length) (h2 : k < post'.length), ∀ i, i < n + 1 → post[k] i = post'[k] i) → exD (DD n) pre post = exD (DD n) pre' post' := by
      intro post
      induction post with
      | nil =>
        intro post' pre pre' _ h2 _ _ _
        have : post' = [] := List.eq_nil_of_length_eq_zero h2.symm
        subst this
        rfl
      | cons r post ihp =>
        intro post' pre pre' h1 h2 h3 h4 h5
        match post', h2 with
        | r' :: post', h2 =>
          have e0 : r 0 = r' 0 := h5 0 (by simp) (by simp) 0 (by omega)
          have e1 : exD (DD n) (pre ++ [r]) post = exD (DD n) (pre' ++ [r']) post' := by
            refine ihp post' _ _ (by simp [h1]) (by simpa using h2) (by simp at h3 ⊢; omega) (fun k k1 k2 i hi => ?_) (fun k k1 k2 i hi => h5 (k + 1) (by simp; omega) (by simp; omega) i hi)
            by_cases hk : k < pre.length
            · rw [List.getElem_append_left hk, List.getElem_append_left (by omega)]
              exact h4 k hk (by omega) i hi
            · have hk' : k = pre.length := by simp at k1; omega
              subst hk'
              rw [List.getElem_append_right (Nat.le_refl _), List.getElem_append_right (by omega)]
              simp only [Nat.sub_self, h1, List.getElem_singleton]
              exact h5 0 (by simp) (by simp) i hi
          have e2 : DD n ((pre ++ post).map tlv) = DD n ((pre' ++ post').map tlv) := by
            refine ih _ _ (by simp at h3 ⊢; omega) (by simp at h2 h3 ⊢; omega) (fun k k1 k2 i hi => ?_)
            rw [List.getElem_map, List.getElem_map]
            show ((pre ++ post)[k]'(by simpa using k1)) (i + 1) = ((pre' ++ post')[k]'(by simpa using k2)) (i + 1)
            by_cases hk : k < pre.length
            · rw [List.getElem_append_left hk, List.getElem_append_left (by omega)]
              exact h4 k hk (by omega) (i + 1) (by omega)
            · rw [List.getElem_append_right (by omega), List.getElem_append_right (by omega)]
              have e : k - pre.length = k - pre'.length := by omega
              have := h5 (k - pre.length + 1) (by simp at k1 ⊢; omega) (by simp at k2 ⊢; omega) (i + 1) (by omega)
              simp only [List.getElem_cons_succ] at this
              rw [this]
              have g : ∀ (a b : Nat) (ha : a < post'.length) (hb : b < post'.length), a = b → post'[a] = post'[b] := fun a b ha hb e => by subst e; rfl
              exact congrFun (g _ _ _ _ e) _
          rw [exD, exD, e0, e1, e2]
    intro rs ss h1 h2 h3
    exact key rs ss [] [] rfl (by omega) (by simpa using h1) (fun k k1 => by simp at k1) (fun k k1 k2 i hi => h3 k k1 k2 i hi)
end
end PolA

set_option autoImplicit false
namespace PolA
open Lean.Grind
section
variable {R : Type} [CommRing R]
/-! the one form -/
def bsv (k : Nat) : Nat → R := fun i => if i = k then 1 else 0
def zrv : Nat → R := fun _ => 0
def Loc (n : Nat) (F : List (Nat → R) → R) : Prop := ∀ (A B : List (Nat → R)) (u v : Nat → R), (A ++ u :: B).length = n → (∀ i, i < n → u i = v i) → F (A ++ u :: B) = F (A ++ v :: B)
theorem DD_Loc (n : Nat) : Loc (R := R) n (DD n) := fun A B u v hl h => DD_loc n _ _ hl (by simp at hl ⊢; omega) fun k h1 h2 i hi => by
  by_cases hk : k < A.length
  · rw [List.getElem_append_left hk, List.getElem_append_left hk]
  · obtain ⟨j, rfl⟩ : ∃ j, k = j + A.length := ⟨k - A.length, by omega⟩
    have h1' : j < (u :: B).length := by simp at h1 ⊢; omega
    have h2' : j < (v :: B).length := by simp at h2 ⊢; omega
    rw [← List.getElem_append_right' A h1', ← List.getElem_append_right' A h2']
    match j with
    | 0 => exact h i hi
    | j + 1 => rfl
theorem all_in : ∀ (n : Nat) (l : List Nat), l.Nodup → (∀ x ∈ l, x < n) → l.length = n → ∀ x, x < n → x ∈ l := by
  intro n
  induction n with
  | zero => intro l _ _ _ x hx; omega
  | succ n ih =>
    intro l nd hl hlen x hx
    have hn : n ∈ l := by
      refine Classical.byContradiction fun hn => ?_
      have hall : ∀ y ∈ l, y < n := fun y hy => by
        have := hl y hy
        have : y ≠ n := fun e => hn (e ▸ hy)
        omega
      -- n + 1 unlike ones below n
      match l, nd, hlen, hall with
      | y :: l', nd, hlen, hall =>
        have nd' := List.nodup_cons.1 nd
        have := ih l' nd'.2 (fun z hz => hall z (List.mem_cons_of_mem _ hz)) (by simpa using hlen) y (hall y (List.mem_cons_self ..))
        exact nd'.1 this
    by_cases hxn : x = n
    · rw [hxn]; exact hn
    · have h1 : (l.erase n).length = n := by rw [List.length_erase_of_mem hn, hlen]; rfl
      have h2 : (l.erase n).Nodup := nd.erase n
      have h3 : ∀ y ∈ l.erase n, y < n := fun y hy => by
        have := (nd.mem_erase_iff).1 hy
        have := hl y this.2
        omega
      exact List.mem_of_mem_erase (ih _ h2 h3 h1 x (by omega))
section
variable {n : Nat} {H : List (Nat → R) → R} (h : Alt n H)
include h
theorem Alt.perm {l r : List (Nat → R)} (p : l.Perm r) : ∀ A, (A ++ l).length = n → H (A ++ r) = 0 → H (A ++ l) = 0 := by
  induction p with
  | nil => intro A _ e; exact e
  | cons x p ih =>
    intro A hl e
    have := ih (A ++ [x]) (by simp at hl ⊢; omega) (by simpa using e)
    simpa using this
  | swap x y l =>
    intro A hl e
    have := h.swap A l x y (by simp at hl ⊢; omega)
    rw [this, e]
    grind
  | trans p q i1 i2 =>
    intro A hl e
    refine i1 A hl (i2 A ?_ e)
    have := p.length_eq
    simp at hl ⊢; omega
theorem Alt.basis (h0 : H ((List.range n).map bsv) = 0) (l : List Nat) (hl : l.length = n) (hx : ∀ x ∈ l, x < n) : H (l.map bsv) = 0 := by
  by_cases nd : l.Nodup
  · have p : l.Perm (List.range n) := perm_of nd List.nodup_range fun a => ⟨fun ha => List.mem_range.2 (hx a ha), fun ha => all_in n l nd hx hl a (List.mem_range.1 ha)⟩
    have := h.perm (p.map bsv) [] (by simpa using hl) (by simpa using h0)
    simpa using this
  · -- two are the same
    have key : ∀ (l A : List Nat), (A ++ l).length = n → ¬ l.Nodup → H ((A ++ l).map bsv) = 0 := by
      intro l
      induction l with
      | nil => intro A _ hn; exact absurd List.nodup_nil hn
      | cons x l ih =>
        intro A hl hn
        by_cases hm : x ∈ l
        · obtain ⟨M, B, rfl⟩ := List.append_of_mem hm
          have := h.same (A.map bsv) (bsv x) (M.map bsv) (B.map bsv) (by simp at hl ⊢; omega)
          simpa using this
        · have : ¬ l.Nodup := fun hc => hn (List.nodup_cons.2 ⟨hm, hc⟩)
          have := ih (A ++ [x]) (by simp at hl ⊢; omega) this
          simpa using this
    simpa using key l [] (by simpa using hl) nd
theorem Alt.zrow (A B : List (Nat → R)) (hl : (A ++ zrv :: B).length = n) : H (A ++ zrv :: B) = 0 := by
  have := h.lin A B zrv zrv (-1) hl
  rw [show lnv zrv zrv (-1 : R) = zrv by funext i; show (0 : R) + -1 * 0 = 0; grind] at this
  grind
def cutv (k : Nat) (v : Nat → R) : Nat → R := fun i => if i < k then v i else 0
theorem Alt.all (hloc : Loc n H) (h0 : H ((List.range n).map bsv) = 0) : ∀ (L : List (Nat → R)) (l : List Nat), L.length + l.length = n → (∀ x ∈ l, x < n) → H (L ++ l.map bsv) = 0 := by
  intro L
  induction hL : L.length generalizing L with
  | zero =>
    intro l hl hx
    have : L = [] := List.eq_nil_of_length_eq_zero hL
    subst this
    exact h.basis h0 l (by simpa using hl) hx
  | succ t ih =>
    intro l hl hx
    rcases List.eq_nil_or_concat L with rfl | ⟨L', v, rfl⟩
    · simp at hL
    rw [List.concat_eq_append] at *
    have hL' : L'.length = t := by simpa using hL
    have key : ∀ k, k ≤ n → H (L' ++ cutv k v :: l.map bsv) = 0 := by
      intro k
      induction k with
      | zero =>
        intro _
        have : cutv 0 v = (zrv : Nat → R) := by
          funext i
          show (if i < 0 then v i else 0) = 0
          rw [if_neg (by omega)]
        rw [this]
        exact h.zrow _ _ (by simp; omega)
      | succ k ihk =>
        intro hk
        have e : cutv (k + 1) v = lnv (cutv k v) (bsv k) (v k) := by
          funext i
          show (if i < k + 1 then v i else 0) = (if i < k then v i else 0) + v k * (if i = k then 1 else 0)
          by_cases h1 : i < k
          · rw [if_pos (by omega), if_pos h1, if_neg (by omega)]; grind
          · by_cases h2 : i = k
            · rw [if_pos (by omega), if_neg h1, if_pos h2, h2]; grind
            · rw [if_neg (by omega), if_neg h1, if_neg h2]; grind
        have l1 := h.lin L' (l.map bsv) (cutv k v) (bsv k) (v k) (by simp; omega)
        have i1 := ih L' hL' (k :: l) (by simp; omega) (fun x hx' => by
          rcases List.mem_cons.1 hx' with rfl | hx'
          · omega
          · exact hx x hx')
        rw [List.map_cons] at i1
        rw [e, l1, ihk (by omega), i1]
        grind
    have := hloc L' (l.map bsv) (cutv n v) v (by simp; omega) (fun i hi => by
      show (if i < n then v i else 0) = v i
      rw [if_pos hi])
    rw [List.append_assoc]
    show H (L' ++ v :: l.map bsv) = 0
    rw [← this]
    exact key n (Nat.le_refl _)
end
theorem DD_one (n : Nat) : DD n ((List.range n).map (bsv (R := R))) = 1 := by
  have key : ∀ (m k : Nat), prD ((List.range' k m).map fun t => (fun i => if i + k = t then (1 : R) else 0)) = 1 := by
    intro m
    induction m with
    | zero => intro k; simp [prD]
    | succ m ih =>
      intro k
      rw [List.range'_succ, List.map_cons, prD, List.map_map]
      have e : (tlv ∘ fun t => (fun i => if i + k = t then (1 : R) else 0)) = fun t => (fun i => if i + (k + 1) = t then (1 : R) else 0) := by
        funext t i
        show (if i + 1 + k = t then (1 : R) else 0) = if i + (k + 1) = t then (1 : R) else 0
        rw [show i + 1 + k = i + (k + 1) by omega]
      rw [e, ih (k + 1)]
      show (if 0 + k = k then (1 : R) else 0) * 1 = 1
      rw [if_pos (by omega)]
      grind
  have h1 := DD_tri (R := R) ((List.range n).map bsv) [] (fun t ht i hi => by
    rw [List.getElem_map]
    simp only [List.getElem_range]
    show (if i = t then (1 : R) else 0) = 0
    rw [if_neg (by omega)]) (fun v hv => by simp at hv)
  simp only [List.length_map, List.length_range, List.length_nil, Nat.add_zero, List.append_nil, List.map_nil] at h1
  rw [h1]
  have h2 := key n 0
  rw [← List.range_eq_range'] at h2
  have e3 : (List.range n).map (bsv (R := R)) = (List.range n).map fun t => (fun i => if i + 0 = t then (1 : R) else 0) := rfl
  rw [e3, h2]
  show (1 : R) * 1 = 1
  grind
/-- every other form is a multiple -/
theorem Alt.uniq {n : Nat} {F : List (Nat → R) → R} (h : Alt n F) (hl : Loc n F) (L : List (Nat → R)) (hL : L.length = n) : F L = F ((List.range n).map bsv) * DD n L := by
  have hd := DD_alt (R := R) n
  have hA : Alt n fun L => F L - F ((List.range n).map bsv) * DD n L := ⟨fun A B u v c hh => by
    show F _ - _ * DD n _ = F _ - _ * DD n _ + c * (F _ - _ * DD n _)
    rw [h.lin A B u v c hh, hd.lin A B u v c hh]; grind, fun A B u hh => by
    show F _ - _ * DD n _ = 0
    rw [h.adj A B u hh, hd.adj A B u hh]; grind⟩
  have := hA.all (fun A B u v hh hi => by
    show F _ - _ * DD n _ = F _ - _ * DD n _
    rw [hl A B u v hh hi, DD_Loc n A B u v hh hi]) (by
    show F _ - _ * DD n _ = 0
    rw [DD_one]; grind) L [] (by simpa using hL) (by simp)
  simp only [List.map_nil, List.append_nil] at this
  grind
/-- columns that are joined -/
theorem DD_cols {n : Nat} (T : (Nat → R) → Nat → R) (hT : ∀ u v c, T (lnv u v c) = lnv (T u) (T v) c) (hl : ∀ u v, (∀ i, i < n → u i = v i) → ∀ i, i < n → T u i = T v i) (L : List (Nat → R)) (hL : L.length = n) : DD n (L.map T) = DD n ((List.range n).map fun k => T (bsv k)) * DD n L := by
  have hd := DD_alt (R := R) n
  have hA : Alt n fun L => DD n (L.map T) := ⟨fun A B u v c hh => by
    show DD n _ = DD n _ + c * DD n _
    simp only [List.map_append, List.map_cons, hT]
    exact hd.lin _ _ _ _ _ (by simpa using hh), fun A B u hh => by
    show DD n _ = 0
    simp only [List.map_append, List.map_cons]
    exact hd.adj _ _ _ (by simpa using hh)⟩
  have := hA.uniq (fun A B u v hh hi => by
    show DD n _ = DD n _
    simp only [List.map_append, List.map_cons]
    exact DD_Loc n _ _ _ _ (by simpa using hh) (hl u v hi)) L hL
  simp only [List.map_map] at this
  exact this
end
end PolA

set_option autoImplicit false
namespace PolA
open Lean.Grind
section
variable {R : Type} [CommRing R]
theorem DD_clear (n : Nat) : ∀ (B A : List (Nat → R)), (A ++ B).length = n → DD (n + 1) (bsv 0 :: (A ++ B)) = DD (n + 1) (bsv 0 :: (A ++ B.map fun v => lnv v (bsv 0) (-(v 0))))
  | [], A, _ => rfl
  | v :: B, A, hl => by
    have h := DD_alt (R := R) (n + 1)
    have e := h.addL [] A B (bsv 0) v (-(v 0)) (by simp at hl ⊢; omega)
    have i := DD_clear n B (A ++ [lnv v (bsv 0) (-(v 0))]) (by simp at hl ⊢; omega)
    simp only [List.append_assoc, List.cons_append, List.nil_append, List.map_cons] at e i ⊢
    rw [← e, i]
theorem DD_row0 (n : Nat) (B : List (Nat → R)) (hl : B.length = n) : DD (n + 1) (bsv 0 :: B) = DD n (B.map tlv) := by
  have h := DD_clear n B [] (by simpa using hl)
  simp only [List.nil_append] at h
  rw [h, DD_head, List.map_map]
  · have e : (tlv ∘ fun v : Nat → R => lnv v (bsv 0) (-(v 0))) = tlv := by
      funext v i
      show v (i + 1) + -(v 0) * (if i + 1 = 0 then 1 else 0) = v (i + 1)
      rw [if_neg (by omega)]
      grind
    rw [e]
    show (if (0 : Nat) = 0 then (1 : R) else 0) * _ = _
    rw [if_pos rfl]
    grind
  · intro w hw
    obtain ⟨v, _, rfl⟩ := List.mem_map.1 hw
    show v 0 + -(v 0) * (if (0 : Nat) = 0 then 1 else 0) = 0
    rw [if_pos rfl]
    grind
/-- Horner's columns -/
def hor (a : R) (v : Nat → R) : Nat → R
  | 0 => v 0
  | j + 1 => v (j + 1) + a * hor a v j
theorem hor_lin (a : R) (u v : Nat → R) (c : R) : ∀ j, hor a (lnv u v c) j = hor a u j + c * hor a v j
  | 0 => rfl
  | j + 1 => by
    show (u (j + 1) + c * v (j + 1)) + a * hor a (lnv u v c) j = (u (j + 1) + a * hor a u j) + c * (v (j + 1) + a * hor a v j)
    rw [hor_lin a u v c j]; grind
theorem hor_loc (a : R) (u v : Nat → R) : ∀ j, (∀ i, i ≤ j → u i = v i) → hor a u j = hor a v j
  | 0, h => h 0 (Nat.le_refl _)
  | j + 1, h => by
    show u (j + 1) + a * hor a u j = v (j + 1) + a * hor a v j
    rw [h (j + 1) (Nat.le_refl _), hor_loc a u v j fun i hi => h i (by omega)]
theorem hor_bs (a : R) (k : Nat) : ∀ j, (j < k → hor a (bsv k) j = 0) ∧ (j = k → hor a (bsv k) j = 1)
  | 0 => ⟨fun h => by show (if 0 = k then (1 : R) else 0) = 0; rw [if_neg (by omega)], fun h => by show (if 0 = k then (1 : R) else 0) = 1; rw [if_pos h]⟩
  | j + 1 => by
    obtain ⟨h1, h2⟩ := hor_bs a k j
    refine ⟨fun h => ?_, fun h => ?_⟩
    · show (if j + 1 = k then (1 : R) else 0) + a * hor a (bsv k) j = 0
      rw [if_neg (by omega), h1 (by omega)]; grind
    · show (if j + 1 = k then (1 : R) else 0) + a * hor a (bsv k) j = 1
      rw [if_pos h, h1 (by omega)]; grind
/-- first what is left at a, then the quotient -/
def Tq (a : R) (n : Nat) (v : Nat → R) : Nat → R
  | 0 => hor a v n
  | j + 1 => hor a v j
theorem Tq_det (a : R) (n : Nat) : DD (n + 1) ((List.range (n + 1)).map fun k => Tq a n (bsv k)) = (-1) ^ n := by
  have h := DD_alt (R := R) (n + 1)
  rw [List.range_succ, List.map_append, List.map_singleton]
  have e := h.front (Tq a n (bsv n)) ((List.range n).map fun k => Tq a n (bsv k)) [] [] (by simp)
  simp only [List.nil_append, List.append_nil, List.length_map, List.length_range] at e
  rw [e]
  have hb : DD (n + 1) (Tq a n (bsv n) :: (List.range n).map fun k => Tq a n (bsv k)) = DD (n + 1) (bsv 0 :: (List.range n).map fun k => Tq a n (bsv k)) := by
    refine DD_Loc (n + 1) [] _ _ _ (by simp) fun i hi => ?_
    match i with
    | 0 => exact (hor_bs a n n).2 rfl
    | i + 1 =>
      show hor a (bsv n) i = if i + 1 = 0 then 1 else 0
      rw [if_neg (by omega), (hor_bs a n i).1 (by omega)]
  rw [hb, DD_row0 n _ (by simp), List.map_map]
  have key : ∀ (m k : Nat), prD ((List.range' k m).map fun t => (fun i => hor a (bsv t) (i + k))) = 1 := by
    intro m
    induction m with
    | zero => intro k; simp [prD]
    | succ m ih =>
      intro k
      rw [List.range'_succ, List.map_cons, prD, List.map_map]
      have e : (tlv ∘ fun t => (fun i => hor a (bsv t) (i + k))) = fun t => (fun i => hor a (bsv t) (i + (k + 1))) := by
        funext t i
        show hor a (bsv t) (i + 1 + k) = hor a (bsv t) (i + (k + 1))
        rw [show i + 1 + k = i + (k + 1) by omega]
      rw [e, ih (k + 1)]
      show hor a (bsv k) (0 + k) * 1 = 1
      rw [(hor_bs a k (0 + k)).2 (by omega)]
      grind
  have h1 := DD_tri (R := R) ((List.range n).map (tlv ∘ fun k => Tq a n (bsv k))) [] (fun t ht i hi => by
    rw [List.getElem_map]
    simp only [List.getElem_range]
    show hor a (bsv t) i = 0
    exact (hor_bs a t i).1 hi) (fun v hv => by simp at hv)
  simp only [List.length_map, List.length_range, List.length_nil, Nat.add_zero, List.append_nil, List.map_nil] at h1
  have h2 := key n 0
  rw [← List.range_eq_range'] at h2
  have e3 : (List.range n).map (tlv ∘ fun k => Tq a n (bsv k)) = (List.range n).map fun t => (fun i => hor a (bsv t) (i + 0)) := rfl
  rw [h1, e3, h2]
  show (-1 : R) ^ n * (1 * 1) = (-1) ^ n
  grind
/-! polynomials as rows, the highest number first -/
def pvc (N : Nat) (p : Po R) : Nat → R := fun i => if i < N then p.c (N - 1 - i) else 0
theorem pvc_lnv (N : Nat) (p q : Po R) (c : R) : lnv (pvc N p) (pvc N q) c = pvc N (p + Po.C c * q) := by
  funext i
  show (if i < N then p.c (N - 1 - i) else 0) + c * (if i < N then q.c (N - 1 - i) else 0) = if i < N then (p + Po.C c * q).c (N - 1 - i) else 0
  by_cases h : i < N
  · rw [if_pos h, if_pos h, if_pos h, c_add, c_Cmul]
  · rw [if_neg h, if_neg h, if_neg h]; grind
theorem c_div (a r : R) (q : Po R) (d : Nat) : ((Po.X - Po.C a) * q + Po.C r).c d = (if d = 0 then r else q.c (d - 1)) - a * q.c d := by
  rw [show (Po.X - Po.C a) * q + Po.C r = Po.X * q - Po.C a * q + Po.C r by grind, c_add, c_sub, c_Cmul, c_X_mul, c_C]
  by_cases h : d = 0
  · rw [if_pos h, if_pos h, if_pos h]; grind
  · rw [if_neg h, if_neg h, if_neg h]; grind
theorem hor_pvc {N : Nat} (a r : R) (q : Po R) (hq : len q ≤ N) : ∀ j, j ≤ N → hor a (pvc (N + 1) ((Po.X - Po.C a) * q + Po.C r)) j = if j < N then q.c (N - 1 - j) else r := by
  intro j
  induction j with
  | zero =>
    intro _
    show (if 0 < N + 1 then ((Po.X - Po.C a) * q + Po.C r).c (N + 1 - 1 - 0) else 0) = _
    rw [if_pos (by omega), c_div, show N + 1 - 1 - 0 = N by omega, c_big (f := q) hq]
    by_cases h : 0 < N
    · rw [if_neg (by omega), if_pos h, Nat.sub_zero]; grind
    · rw [if_pos (by omega), if_neg h]; grind
  | succ j ih =>
    intro hj
    show (if j + 1 < N + 1 then ((Po.X - Po.C a) * q + Po.C r).c (N + 1 - 1 - (j + 1)) else 0) + a * hor a _ j = _
    rw [ih (by omega), if_pos (by omega), if_pos (by omega), c_div, show N + 1 - 1 - (j + 1) = N - 1 - j by omega]
    by_cases h : j + 1 < N
    · rw [if_neg (by omega), if_pos h, show N - 1 - j - 1 = N - 1 - (j + 1) by omega]; grind
    · rw [if_pos (by omega), if_neg h, show N - 1 - j = 0 by omega]; grind
/-- the first column is 0, the others the quotient -/
theorem Tq_pvc {N : Nat} (a : R) (q : Po R) (hq : len q ≤ N) : (Tq a N (pvc (N + 1) ((Po.X - Po.C a) * q))) 0 = 0 ∧ ∀ i, i < N → tlv (Tq a N (pvc (N + 1) ((Po.X - Po.C a) * q))) i = pvc N q i := by
  have e : (Po.X - Po.C a) * q = (Po.X - Po.C a) * q + Po.C 0 := by rw [← zero_def]; grind
  rw [e]
  refine ⟨?_, fun i hi => ?_⟩
  · show hor a _ N = 0
    rw [hor_pvc a 0 q hq N (Nat.le_refl _), if_neg (by omega)]
  · show hor a _ i = if i < N then q.c (N - 1 - i) else 0
    rw [hor_pvc a 0 q hq i (by omega)]
theorem Tq_ev {N : Nat} (a : R) (g : Po R) (hg : len g ≤ N + 1) : Tq a N (pvc (N + 1) g) 0 = ev g a := by
  obtain ⟨q, hq⟩ := ev_dv g a
  have e : g = (Po.X - Po.C a) * q + Po.C (ev g a) := by grind
  have hql : len q ≤ N := by
    refine len_le.2 fun k hk => ?_
    -- from above
    have key : ∀ j, ∀ k, len q - j ≤ k → N ≤ k → q.c k = 0 := by
      intro j
      induction j with
      | zero => intro k h1 _; exact c_big (by omega)
      | succ j ih =>
        intro k h1 h2
        have h3 := ih (k + 1) (by omega) (by omega)
        have h4 := c_div a (ev g a) q (k + 1)
        rw [← e, c_big (f := g) (by omega), if_neg (by omega), h3] at h4
        rw [show k + 1 - 1 = k by omega] at h4
        grind
    exact key (len q) k (by omega) hk
  show hor a _ N = _
  have h := hor_pvc a (ev g a) q hql N (Nat.le_refl _)
  rw [← e, if_neg (by omega)] at h
  exact h
def chn (a : R) : List (Nat → R) → List (Nat → R)
  | u :: v :: l => lnv u v (-a) :: chn a (v :: l)
  | l => l
theorem chn_len (a : R) : ∀ l : List (Nat → R), (chn a l).length = l.length
  | [] => rfl
  | [_] => rfl
  | u :: v :: l => by
    show (chn a (v :: l)).length + 1 = _
    rw [chn_len a (v :: l)]; rfl
theorem DD_chn {n : Nat} (a : R) : ∀ (L A : List (Nat → R)), (A ++ L).length = n → DD n (A ++ chn a L) = DD n (A ++ L)
  | [], _, _ => rfl
  | [_], _, _ => rfl
  | u :: v :: l, A, hl => by
    have ih := DD_chn a (v :: l) (A ++ [lnv u v (-a)]) (by simp at hl ⊢; omega)
    have e := (DD_alt (R := R) n).addE A [] l u v (-a) (by simpa using hl)
    simp only [List.append_assoc, List.cons_append, List.nil_append] at ih e
    show DD n (A ++ lnv u v (-a) :: chn a (v :: l)) = _
    rw [ih, e]
def upw (k : Nat) (f : Po R) : Po R := Po.X ^ k * f
theorem upw_0 (f : Po R) : upw 0 f = f := by unfold upw; grind
theorem upw_s (k : Nat) (f : Po R) : upw (k + 1) f = Po.X * upw k f := by unfold upw; grind
theorem upw_len (f : Po R) : ∀ k, len (upw k f) ≤ len f + k
  | 0 => by rw [upw_0]; omega
  | k + 1 => by
    rw [upw_s]
    refine len_le.2 fun i hi => ?_
    have := upw_len f k
    rw [c_X_mul]
    split
    · rfl
    · exact c_big (by omega)
theorem upw_mul (p f : Po R) (k : Nat) : upw k (p * f) = p * upw k f := by unfold upw; grind
/-- x^(n-1) f, .., x f, f -/
def dnw (N : Nat) (f : Po R) : Nat → List (Nat → R)
  | 0 => []
  | k + 1 => pvc N (upw k f) :: dnw N f k
theorem dnw_len (N : Nat) (f : Po R) : ∀ k, (dnw N f k).length = k
  | 0 => rfl
  | k + 1 => by rw [dnw, List.length_cons, dnw_len]
def rst (n m : Nat) (f g : Po R) : R := DD (n + m) (dnw (n + m) f m ++ dnw (n + m) g n)
theorem chn_dnw (N : Nat) (a : R) (g : Po R) : ∀ n, chn a (dnw N g (n + 1)) = dnw N ((Po.X - Po.C a) * g) n ++ [pvc N g]
  | 0 => by
    show [pvc N (upw 0 g)] = [pvc N g]
    rw [upw_0]
  | n + 1 => by
    show lnv (pvc N (upw (n + 1) g)) (pvc N (upw n g)) (-a) :: chn a (dnw N g (n + 1)) = pvc N (upw n ((Po.X - Po.C a) * g)) :: (dnw N ((Po.X - Po.C a) * g) n ++ [pvc N g])
    rw [chn_dnw N a g n, pvc_lnv, upw_s, upw_mul, C_neg]
    congr 2
    grind
/-- lists that agree in the places that count -/
theorem DD_same {n : Nat} : ∀ (L L' A : List (Nat → R)), L.length = L'.length → (A ++ L).length = n → (∀ k (h1 : k < L.length) (h2 : k < L'.length), ∀ i, i < n → L[k] i = L'[k] i) → DD n (A ++ L) = DD n (A ++ L')
  | [], L', A, h, _, _ => by
    have : L' = [] := List.eq_nil_of_length_eq_zero h.symm
    rw [this]
  | u :: L, L', A, h, hl, e => by
    match L', h with
    | v :: L', h =>
      have h0 := DD_Loc (R := R) n A L u v hl (e 0 (by simp) (by simp))
      have ih := DD_same L L' (A ++ [v]) (by simpa using h) (by simp at hl ⊢; omega) (fun k h1 h2 i hi => e (k + 1) (by simpa using h1) (by simpa using h2) i hi)
      simp only [List.append_assoc, List.cons_append, List.nil_append] at ih
      rw [h0, ih]
theorem dnw_get (N : Nat) (f : Po R) : ∀ (k t : Nat) (h : t < (dnw N f k).length), (dnw N f k)[t] = pvc N (upw (k - 1 - t) f)
  | 0, t, h => by simp [dnw] at h
  | k + 1, 0, h => by
    show pvc N (upw k f) = _
    rfl
  | k + 1, t + 1, h => by
    show (dnw N f k)[t]'(by simp [dnw] at h; exact h) = _
    rw [dnw_get N f k t]
    congr 2
    omega
theorem neg1 (n : Nat) : ((-1 : R) ^ n) * (-1) ^ n = 1 := by
  induction n with
  | zero => grind
  | succ n ih => grind
theorem rst_root {n m : Nat} (a : R) (f g : Po R) (hf : len f ≤ n + 1) (hg : len g ≤ m + 1) : rst (n + 1) m ((Po.X - Po.C a) * f) g = ev g a * rst n m f g := by
  have hN : n + 1 + m = (n + m) + 1 := by omega
  unfold rst
  rw [hN]
  generalize hM : n + m = M at *
  have h := DD_alt (R := R) (M + 1)
  have l1 : (dnw (M + 1) ((Po.X - Po.C a) * f) m ++ dnw (M + 1) g (n + 1)).length = M + 1 := by rw [List.length_append, dnw_len, dnw_len]; omega
  -- the rows of g less those before
  rw [← DD_chn a (dnw (M + 1) g (n + 1)) (dnw (M + 1) ((Po.X - Po.C a) * f) m) l1, chn_dnw, ← List.append_assoc]
  generalize hB : dnw (M + 1) ((Po.X - Po.C a) * f) m ++ dnw (M + 1) ((Po.X - Po.C a) * g) n = B
  have lB : B.length = M := by rw [← hB, List.length_append, dnw_len, dnw_len]; omega
  -- each is a multiple
  have hmul : ∀ v ∈ B, ∃ q : Po R, len q ≤ M ∧ v = pvc (M + 1) ((Po.X - Po.C a) * q) := by
    intro v hv
    rw [← hB] at hv
    rcases List.mem_append.1 hv with hv | hv
    · obtain ⟨t, ht, rfl⟩ := List.mem_iff_getElem.1 hv
      rw [dnw_get, upw_mul]
      rw [dnw_len] at ht
      exact ⟨_, by have := upw_len f (m - 1 - t); omega, rfl⟩
    · obtain ⟨t, ht, rfl⟩ := List.mem_iff_getElem.1 hv
      rw [dnw_get, upw_mul]
      rw [dnw_len] at ht
      exact ⟨_, by have := upw_len g (n - 1 - t); omega, rfl⟩
  -- the columns
  have hc := DD_cols (n := M + 1) (Tq a M) (fun u v c => by
    funext i
    match i with
    | 0 => exact hor_lin a u v c M
    | i + 1 => exact hor_lin a u v c i) (fun u v e i hi => by
    match i with
    | 0 => exact hor_loc a u v M fun j hj => e j (by omega)
    | i + 1 => exact hor_loc a u v i fun j hj => e j (by omega)) (B ++ [pvc (M + 1) g]) (by simp [lB])
  rw [Tq_det] at hc
  rw [List.map_append, List.map_singleton] at hc
  have hfr := h.front (Tq a M (pvc (M + 1) g)) (B.map (Tq a M)) [] [] (by simp [lB])
  simp only [List.nil_append, List.append_nil, List.length_map, lB] at hfr
  rw [hfr] at hc
  have h0 : ∀ v ∈ B.map (Tq a M), v 0 = 0 := fun v hv => by
    obtain ⟨w, hw, rfl⟩ := List.mem_map.1 hv
    obtain ⟨q, hq, rfl⟩ := hmul w hw
    exact (Tq_pvc a q hq).1
  rw [DD_head _ _ _ h0, Tq_ev a g (by omega), List.map_map] at hc
  have hs : DD M (B.map (tlv ∘ Tq a M)) = DD M (dnw M f m ++ dnw M g n) := by
    have hl2 : (B.map (tlv ∘ Tq a M)).length = (dnw M f m ++ dnw M g n).length := by
      rw [List.length_map, lB, List.length_append, dnw_len, dnw_len]; omega
    have := DD_same (n := M) (B.map (tlv ∘ Tq a M)) (dnw M f m ++ dnw M g n) [] hl2 (by simp [lB]) (fun k h1 h2 i hi => by
      rw [List.getElem_map]
      by_cases hk : k < m
      · have e1 : B[k]'(by simpa using h1) = pvc (M + 1) ((Po.X - Po.C a) * upw (m - 1 - k) f) := by
          simp only [← hB]
          rw [List.getElem_append_left (by rw [dnw_len]; exact hk), dnw_get, upw_mul]
        rw [e1, List.getElem_append_left (by rw [dnw_len]; exact hk), dnw_get]
        exact (Tq_pvc a _ (by have := upw_len f (m - 1 - k); omega)).2 i hi
      · have h3 : k - m < n := by
          rw [List.length_map, lB] at h1
          omega
        have e1 : B[k]'(by simpa using h1) = pvc (M + 1) ((Po.X - Po.C a) * upw (n - 1 - (k - m)) g) := by
          simp only [← hB]
          rw [List.getElem_append_right (by rw [dnw_len]; omega), dnw_get, upw_mul]
          simp only [dnw_len]
        rw [e1, List.getElem_append_right (by rw [dnw_len]; omega), dnw_get]
        simp only [dnw_len]
        exact (Tq_pvc a _ (by have := upw_len g (n - 1 - (k - m)); omega)).2 i hi)
    simpa using this
  show DD (M + 1) (B ++ [pvc (M + 1) g]) = _
  have hc' : (-1 : R) ^ M * (ev g a * DD M (B.map (tlv ∘ Tq a M))) = (-1) ^ M * DD (M + 1) (B ++ [pvc (M + 1) g]) := hc
  rw [hs] at hc'
  have h1 := neg1 (R := R) M
  generalize (-1 : R) ^ M = s at *
  generalize DD (M + 1) (B ++ [pvc (M + 1) g]) = x at *
  generalize DD M (dnw M f m ++ dnw M g n) = y at *
  generalize ev g a = z at *
  have h2 : s * (s * (z * y)) = s * (s * x) := by rw [hc']
  grind
theorem DD_sc {n : Nat} (a : R) : ∀ (L A : List (Nat → R)), (A ++ L).length = n → DD n (A ++ L.map fun v => lnv zrv v a) = a ^ L.length * DD n (A ++ L)
  | [], A, _ => by simp only [List.map_nil, List.length_nil]; grind
  | v :: L, A, hl => by
    have h := DD_alt (R := R) n
    have e := h.lin A L zrv v a (by simp at hl ⊢; omega)
    have z := h.zrow A L (by simp at hl ⊢; omega)
    have ih := DD_sc a L (A ++ [lnv zrv v a]) (by simp at hl ⊢; omega)
    simp only [List.append_assoc, List.cons_append, List.nil_append, List.map_cons, List.length_cons] at ih ⊢
    rw [ih, e, z]
    grind
theorem rst_const (m : Nat) (a : R) (g : Po R) : rst 0 m (Po.C a) g = a ^ m := by
  unfold rst
  have e : dnw (0 + m) (Po.C a) m ++ dnw (0 + m) g 0 = dnw m (Po.C a) m := by
    rw [Nat.zero_add]; show _ ++ [] = _; rw [List.append_nil]
  rw [e, Nat.zero_add]
  have h1 := DD_sc (n := m) a ((List.range m).map bsv) [] (by simp)
  rw [List.nil_append, List.nil_append, DD_one, List.length_map, List.length_range, List.map_map] at h1
  have h2 := DD_same (n := m) (dnw m (Po.C a) m) ((List.range m).map ((fun v => lnv zrv v a) ∘ bsv)) [] (by rw [dnw_len, List.length_map, List.length_range]) (by rw [List.nil_append, dnw_len]) (fun k k1 k2 i hi => by
    rw [dnw_get, List.getElem_map]
    simp only [List.getElem_range]
    rw [dnw_len] at k1
    show (if i < m then (upw (m - 1 - k) (Po.C a)).c (m - 1 - i) else 0) = 0 + a * (if i = k then 1 else 0)
    rw [if_pos hi]
    have : ∀ k d, (upw k (Po.C a)).c d = if d = k then a else 0 := by
      intro k
      induction k with
      | zero => intro d; rw [upw_0, c_C]
      | succ k ih =>
        intro d
        rw [upw_s, c_X_mul]
        by_cases h : d = 0
        · rw [if_pos h, if_neg (by omega)]
        · rw [if_neg h, ih]
          by_cases h2 : d - 1 = k
          · rw [if_pos h2, if_pos (by omega)]
          · rw [if_neg h2, if_neg (by omega)]
    rw [this]
    by_cases h : i = k
    · rw [if_pos (by omega), if_pos h]; grind
    · rw [if_neg (by omega), if_neg h]; grind)
  rw [List.nil_append, List.nil_append] at h2
  rw [h2, h1]
  grind
def lnX (l : List R) : Po R := l.foldr (fun a p => (Po.X - Po.C a) * p) 1
theorem lnX_len (a : R) : ∀ l : List R, len (Po.C a * lnX l) ≤ l.length + 1
  | [] => len_le.2 fun k hk => by
    show (Po.C a * 1).c k = 0
    rw [c_Cmul, c_one, if_neg (by simp at hk; omega)]; grind
  | b :: l => by
    have ih := lnX_len a l
    refine len_le.2 fun k hk => ?_
    have e : Po.C a * lnX (b :: l) = (Po.X - Po.C b) * (Po.C a * lnX l) + Po.C 0 := by
      show Po.C a * ((Po.X - Po.C b) * lnX l) = _
      rw [← zero_def]; grind
    rw [e, c_div, c_big (f := Po.C a * lnX l) (by simp at hk; omega), if_neg (by simp at hk; omega), c_big (f := Po.C a * lnX l) (by simp at hk; omega)]
    grind
theorem rst_prod (a : R) (g : Po R) {m : Nat} (hg : len g ≤ m + 1) : ∀ l : List R, rst l.length m (Po.C a * lnX l) g = (l.map (ev g)).foldr (· * ·) (a ^ m)
  | [] => by
    have e : Po.C a * lnX ([] : List R) = Po.C a := by show Po.C a * 1 = _; grind
    rw [e]
    exact rst_const m a g
  | b :: l => by
    have e : Po.C a * lnX (b :: l) = (Po.X - Po.C b) * (Po.C a * lnX l) := by
      show Po.C a * ((Po.X - Po.C b) * lnX l) = _
      grind
    rw [e, List.length_cons, rst_root b _ g (lnX_len a l) hg, rst_prod a g hg l]
    rfl
end
end PolA

set_option autoImplicit false
namespace PolA
open Lean.Grind
/-! elimination over the fractions -/
theorem prD_snoc {R : Type} [CommRing R] : ∀ (L : List (Nat → R)) (u : Nat → R), prD (L ++ [u]) = prD L * u L.length
  | [], u => by
    show prD [u] = prD [] * u 0
    rw [prD, prD]
    show u 0 * prD [] = 1 * u 0
    rw [prD]; grind
  | a :: L, u => by
    have ih := prD_snoc (L.map tlv) (tlv u)
    rw [List.cons_append, prD, prD, List.map_append, List.map_singleton, ih, List.length_map]
    show a 0 * (prD (L.map tlv) * u (L.length + 1)) = a 0 * prD (L.map tlv) * u (a :: L).length
    rw [List.length_cons]
    grind
termination_by L => L.length
decreasing_by simp
def Pd (G : Nat → Nat → Rat) : Nat → Rat
  | 0 => 1
  | k + 1 => Pd G k * G k k
theorem prD_range (G : Nat → Nat → Rat) : ∀ k, prD ((List.range k).map G) = Pd G k
  | 0 => by show prD [] = 1; rw [prD]
  | k + 1 => by
    rw [List.range_succ, List.map_append, List.map_singleton, prD_snoc, prD_range G k, List.length_map, List.length_range]
    rfl
theorem Pd_congr {G G' : Nat → Nat → Rat} : ∀ k, (∀ t, t < k → G t t = G' t t) → Pd G k = Pd G' k
  | 0, _ => rfl
  | k + 1, h => by
    show Pd G k * G k k = Pd G' k * G' k k
    rw [Pd_congr k fun t ht => h t (by omega), h k (by omega)]
def Itg (x : Rat) : Prop := ∃ z : Int, x = (z : Rat)
theorem DD_int : ∀ (n : Nat) (L : List (Nat → Rat)), (∀ v ∈ L, ∀ i, Itg (v i)) → Itg (DD n L)
  | 0, L, _ => ⟨1, rfl⟩
  | n + 1, L, h => by
    have key : ∀ (post pre : List (Nat → Rat)), (∀ v ∈ pre, ∀ i, Itg (v i)) → (∀ v ∈ post, ∀ i, Itg (v i)) → Itg (exD (DD n) pre post) := by
      intro post
      induction post with
      | nil => intro pre _ _; exact ⟨0, rfl⟩
      | cons r post ih =>
        intro pre h1 h2
        obtain ⟨x, hx⟩ := h2 r (List.mem_cons_self ..) 0
        obtain ⟨y, hy⟩ := DD_int n ((pre ++ post).map tlv) (fun v hv i => by
          obtain ⟨w, hw, rfl⟩ := List.mem_map.1 hv
          rcases List.mem_append.1 hw with hw | hw
          · exact h1 w hw (i + 1)
          · exact h2 w (List.mem_cons_of_mem _ hw) (i + 1))
        obtain ⟨z, hz⟩ := ih (pre ++ [r]) (fun v hv i => by
          rcases List.mem_append.1 hv with hv | hv
          · exact h1 v hv i
          · rw [List.mem_singleton.1 hv]; exact h2 r (List.mem_cons_self ..) i) (fun v hv => h2 v (List.mem_cons_of_mem _ hv))
        exact ⟨x * y - z, by rw [exD, hx, hy, hz, Rat.intCast_sub, Rat.intCast_mul]⟩
    exact key L [] (by simp) h
def cmp (s : Nat → Nat) (v : Nat → Rat) : Nat → Rat := fun i => v (s i)
theorem cmp_lnv (s : Nat → Nat) (u v : Nat → Rat) (c : Rat) : cmp s (lnv u v c) = lnv (cmp s u) (cmp s v) c := rfl
/-- multiples of one row added to those behind it -/
theorem clr {n : Nat} (f : Nat → Nat → Rat) (c : Nat → Rat) (u : Nat → Rat) : ∀ (J : List Nat) (A M : List (Nat → Rat)), (A ++ u :: (M ++ J.map f)).length = n → DD n (A ++ u :: (M ++ J.map fun j => lnv (f j) u (c j))) = DD n (A ++ u :: (M ++ J.map f))
  | [], A, M, _ => rfl
  | j :: J, A, M, hl => by
    have ih := clr f c u J A (M ++ [lnv (f j) u (c j)]) (by simp at hl ⊢; omega)
    have e := (DD_alt (R := Rat) n).addL A M (J.map f) u (f j) (c j) (by simpa using hl)
    simp only [List.append_assoc, List.cons_append, List.nil_append, List.map_cons] at ih ⊢
    rw [ih, e]
/-- the state of the elimination before column k: c the numbers that are kept, p the pivot before, s the sign -/
structure EI (N : Nat) (det : Rat) (k : Nat) (c : Nat → Nat → Int) (p s : Int) (r G : Nat → Nat → Rat) : Prop where
  itg : ∀ j i, Itg (r j i)
  sg : s = 1 ∨ s = -1
  dt : DD N ((List.range N).map r) = (s : Rat) * det
  eq : ∀ J : List Nat, (∀ j ∈ J, k ≤ j ∧ j < N) → ∀ t : Nat → Nat, DD (k + J.length) (((List.range k ++ J).map G).map (cmp t)) = DD (k + J.length) (((List.range k ++ J).map r).map (cmp t))
  up : ∀ t, t < N → ∀ i, i < t → i < k → G t i = 0
  pe : (p : Rat) = Pd G k
  p0 : p ≠ 0
  ce : ∀ j i, k ≤ j → j < N → k ≤ i → i < N → (c j i : Rat) = (p : Rat) * G j i
theorem EI.start (N : Nat) (c : Nat → Nat → Int) : EI N (DD N ((List.range N).map fun j i => (c j i : Rat))) 0 c 1 1 (fun j i => (c j i : Rat)) (fun j i => (c j i : Rat)) :=
  ⟨fun j i => ⟨c j i, rfl⟩, .inl rfl, by
    have : ((1 : Int) : Rat) = 1 := rfl
    rw [this]; grind, fun J hJ t => rfl, fun t ht i h1 h2 => by omega, rfl, by decide, fun j i _ _ _ _ => by
    have : ((1 : Int) : Rat) = 1 := rfl
    rw [this]; grind⟩
theorem cmp_tri (G : Nat → Nat → Rat) (k j i : Nat) (h : ∀ t, t < k → ∀ i, i < t → G t i = 0) (hj : ∀ i, i < k → G j i = 0) : DD (k + 1) (((List.range k ++ [j]).map G).map (cmp fun t => if t < k then t else i)) = Pd G k * G j i := by
  have h1 := DD_tri (R := Rat) ((List.range k).map fun t => cmp (fun t => if t < k then t else i) (G t)) [cmp (fun t => if t < k then t else i) (G j)] (fun t ht q hq => by
    rw [List.getElem_map]
    simp only [List.getElem_range]
    rw [List.length_map, List.length_range] at ht
    show G t (if q < k then q else i) = 0
    rw [if_pos (by omega)]
    exact h t ht q hq) (fun v hv q hq => by
    rw [List.mem_singleton.1 hv]
    rw [List.length_map, List.length_range] at hq
    show G j (if q < k then q else i) = 0
    rw [if_pos hq]
    exact hj q hq)
  simp only [List.length_map, List.length_range, List.length_singleton] at h1
  rw [prD_range] at h1
  have e1 : Pd (fun t => cmp (fun t => if t < k then t else i) (G t)) k = Pd G k := Pd_congr k fun t ht => by
    show G t (if t < k then t else i) = G t t
    rw [if_pos ht]
  rw [e1] at h1
  have e2 : ((List.range k ++ [j]).map G).map (cmp fun t => if t < k then t else i) = ((List.range k).map fun t => cmp (fun t => if t < k then t else i) (G t)) ++ [cmp (fun t => if t < k then t else i) (G j)] := by
    rw [List.map_append, List.map_append, List.map_map]; rfl
  rw [e2, h1, List.map_singleton]
  have e3 : DD 1 [shv k (cmp (fun t => if t < k then t else i) (G j))] = G j i := by
    rw [show (1 : Nat) = 0 + 1 by rfl, DD_head _ _ _ (by simp)]
    show G j (if 0 + k < k then 0 + k else i) * 1 = _
    rw [if_neg (by omega)]; grind
  rw [e3]
theorem EI.itgG {N : Nat} {det : Rat} {k : Nat} {c : Nat → Nat → Int} {p s : Int} {r G : Nat → Nat → Rat} (h : EI N det k c p s r G) {j : Nat} (hj : k ≤ j) (hjN : j < N) (i : Nat) : Itg (Pd G k * G j i) := by
  have e := h.eq [j] (fun x hx => by rw [List.mem_singleton.1 hx]; exact ⟨hj, hjN⟩) (fun t => if t < k then t else i)
  rw [List.length_singleton, cmp_tri G k j i (fun t ht i hi => h.up t (by omega) i hi (by omega)) (fun i hi => h.up j hjN i (by omega) hi)] at e
  rw [e]
  refine DD_int _ _ fun v hv q => ?_
  obtain ⟨w, hw, rfl⟩ := List.mem_map.1 hv
  obtain ⟨t, _, rfl⟩ := List.mem_map.1 hw
  exact h.itg t _
/-- one column is cleared -/
theorem EI.step {N : Nat} {det : Rat} {k : Nat} {c : Nat → Nat → Int} {p s : Int} {r G : Nat → Nat → Rat} (h : EI N det k c p s r G) (hk : k < N) (hc : c k k ≠ 0) (c' : Nat → Nat → Int) (hc' : ∀ j i, k < j → j < N → k < i → i < N → c' j i = (c j i * c k k - c j k * c k i).fdiv p) :
    EI N det (k + 1) c' (c k k) s r (fun j => if k < j then lnv (G j) (G k) (-(G j k / G k k)) else G j) := by
  have hG : (c k k : Rat) = (p : Rat) * G k k := h.ce k k (Nat.le_refl _) hk (Nat.le_refl _) hk
  have hp0 : (p : Rat) ≠ 0 := fun e => h.p0 (Rat.intCast_eq_zero_iff.1 e)
  have hck : (c k k : Rat) ≠ 0 := fun e => hc (Rat.intCast_eq_zero_iff.1 e)
  have hGk : G k k ≠ 0 := fun e => hck (by rw [hG, e, Rat.mul_zero])
  generalize hG' : (fun j => if k < j then lnv (G j) (G k) (-(G j k / G k k)) else G j) = G'
  have g1 : ∀ j, k < j → G' j = lnv (G j) (G k) (-(G j k / G k k)) := fun j hj => by rw [← hG']; show (if k < j then _ else _) = _; rw [if_pos hj]
  have g2 : ∀ j, j ≤ k → G' j = G j := fun j hj => by rw [← hG']; show (if k < j then _ else _) = _; rw [if_neg (by omega)]
  have hPd : Pd G' (k + 1) = Pd G (k + 1) := Pd_congr _ fun t ht => by rw [g2 t (by omega)]
  have hup : ∀ t, t < N → ∀ i, i < t → i < k + 1 → G' t i = 0 := fun t ht i h1 h2 => by
    by_cases hkt : k < t
    · rw [g1 t hkt]
      show G t i + -(G t k / G k k) * G k i = 0
      by_cases hik : i = k
      · subst hik; grind
      · rw [h.up t ht i h1 (by omega), h.up k hk i (by omega) (by omega)]; grind
    · rw [g2 t (by omega)]
      exact h.up t ht i h1 (by omega)
  have hpe : ((c k k : Int) : Rat) = Pd G' (k + 1) := by
    rw [hPd, hG, h.pe]; rfl
  have heq : ∀ J : List Nat, (∀ j ∈ J, k + 1 ≤ j ∧ j < N) → ∀ t : Nat → Nat, DD (k + 1 + J.length) (((List.range (k + 1) ++ J).map G').map (cmp t)) = DD (k + 1 + J.length) (((List.range (k + 1) ++ J).map r).map (cmp t)) := fun J hJ t => by
    have e1 := h.eq (k :: J) (fun j hj => by
      rcases List.mem_cons.1 hj with rfl | hj
      · exact ⟨Nat.le_refl _, hk⟩
      · have := hJ j hj; omega) t
    rw [List.length_cons, show k + (J.length + 1) = k + 1 + J.length by omega] at e1
    have e2 : ∀ f : Nat → Nat → Rat, ((List.range (k + 1) ++ J).map f).map (cmp t) = ((List.range k).map fun j => cmp t (f j)) ++ cmp t (f k) :: ([] ++ J.map fun j => cmp t (f j)) := fun f => by
      rw [List.range_succ, List.append_assoc, List.map_append, List.map_append, List.map_map]
      simp
      rfl
    have e3 : ((List.range k ++ k :: J).map G).map (cmp t) = ((List.range (k + 1) ++ J).map G).map (cmp t) := by
      rw [List.range_succ, List.append_assoc]; rfl
    have e4 : ((List.range k ++ k :: J).map r).map (cmp t) = ((List.range (k + 1) ++ J).map r).map (cmp t) := by
      rw [List.range_succ, List.append_assoc]; rfl
    rw [e3, e4] at e1
    rw [← e1, e2 G', e2 G]
    have e5 : (List.range k).map (fun j => cmp t (G' j)) = (List.range k).map fun j => cmp t (G j) := List.map_congr_left fun j hj => by rw [g2 j (by have := List.mem_range.1 hj; omega)]
    have e6 : J.map (fun j => cmp t (G' j)) = J.map fun j => lnv (cmp t (G j)) (cmp t (G k)) (-(G j k / G k k)) := List.map_congr_left fun j hj => by rw [g1 j (by have := hJ j hj; omega)]; rfl
    rw [e5, e6, g2 k (Nat.le_refl _)]
    exact clr (fun j => cmp t (G j)) (fun j => -(G j k / G k k)) (cmp t (G k)) J ((List.range k).map fun j => cmp t (G j)) [] (by simp; omega)
  refine ⟨h.itg, h.sg, h.dt, heq, hup, hpe, hc, fun j i h1 h2 h3 h4 => ?_⟩
  -- what is kept is whole
  have hI : Itg (Pd G' (k + 1) * G' j i) := by
    have e := heq [j] (fun x hx => by rw [List.mem_singleton.1 hx]; omega) (fun t => if t < k + 1 then t else i)
    rw [List.length_singleton, cmp_tri G' (k + 1) j i (fun t ht i hi => hup t (by omega) i hi (by omega)) (fun i hi => hup j h2 i (by omega) hi)] at e
    rw [e]
    refine DD_int _ _ fun v hv q => ?_
    obtain ⟨w, hw, rfl⟩ := List.mem_map.1 hv
    obtain ⟨t, _, rfl⟩ := List.mem_map.1 hw
    exact h.itg t _
  obtain ⟨z, hz⟩ := hI
  rw [← hpe] at hz
  have a1 := h.ce j i (by omega) h2 (by omega) h4
  have a2 := h.ce j k (by omega) h2 (Nat.le_refl _) hk
  have a3 := h.ce k i (Nat.le_refl _) hk (by omega) h4
  have hx : ((c j i * c k k - c j k * c k i : Int) : Rat) = (p : Rat) * (z : Rat) := by
    rw [Rat.intCast_sub, Rat.intCast_mul, Rat.intCast_mul, ← hz, a1, a2, a3, hG, g1 j (by omega)]
    show _ = (p : Rat) * ((p : Rat) * G k k * (G j i + -(G j k / G k k) * G k i))
    have : G j k / G k k * G k k = G j k := by grind
    grind
  have hx2 : c j i * c k k - c j k * c k i = p * z := by
    rw [← Rat.intCast_mul] at hx
    exact Rat.intCast_inj.1 hx
  rw [hc' j i (by omega) h2 (by omega) h4, hx2, Int.mul_fdiv_cancel_left _ h.p0, ← hz]

def swx (k l t : Nat) : Nat := if t = k then l else if t = l then k else t
theorem range_two {k l N : Nat} (h1 : k < l) (h2 : l < N) : List.range N = List.range k ++ k :: (List.range' (k + 1) (l - k - 1) ++ l :: List.range' (l + 1) (N - l - 1)) := by
  rw [List.range_eq_range', List.range_eq_range']
  have e1 : k :: (List.range' (k + 1) (l - k - 1) ++ l :: List.range' (l + 1) (N - l - 1)) = List.range' k (N - k) := by
    have a1 : l :: List.range' (l + 1) (N - l - 1) = List.range' l (N - l) := by
      obtain ⟨m, hm⟩ : ∃ m, N - l = m + 1 := ⟨N - l - 1, by omega⟩
      rw [hm, List.range'_succ, Nat.add_sub_cancel]
    have a2 : List.range' (k + 1) (l - k - 1) ++ List.range' l (N - l) = List.range' (k + 1) (N - k - 1) := by
      have := List.range'_append_1 (s := k + 1) (m := l - k - 1) (n := N - l)
      rw [show k + 1 + (l - k - 1) = l by omega] at this
      rw [this]
      congr 1
      omega
    rw [a1, a2]
    obtain ⟨m, hm⟩ : ∃ m, N - k = m + 1 := ⟨N - k - 1, by omega⟩
    rw [hm, List.range'_succ, Nat.add_sub_cancel]
  rw [e1]
  have := List.range'_append_1 (s := 0) (m := k) (n := N - k)
  rw [Nat.zero_add] at this
  rw [this]
  congr 1
  omega
theorem EI.swap {N : Nat} {det : Rat} {k l : Nat} {c : Nat → Nat → Int} {p s : Int} {r G : Nat → Nat → Rat} (h : EI N det k c p s r G) (hkl : k < l) (hl : l < N) (c' : Nat → Nat → Int) (hc' : ∀ j i, k ≤ j → j < N → k ≤ i → i < N → c' j i = c (swx k l j) i) : EI N det k c' p (-s) (fun j => r (swx k l j)) (fun j => G (swx k l j)) := by
  have sw : ∀ j, k ≤ j → j < N → k ≤ swx k l j ∧ swx k l j < N := fun j h1 h2 => by
    unfold swx
    split
    · omega
    · split <;> omega
  have sl : ∀ j, j < k → swx k l j = j := fun j hj => by
    unfold swx
    rw [if_neg (by omega), if_neg (by omega)]
  have mp : ∀ (f : Nat → Nat → Rat) (J : List Nat), (List.range k ++ J).map (fun j => f (swx k l j)) = (List.range k ++ J.map (swx k l)).map f := fun f J => by
    rw [List.map_append, List.map_append, List.map_map]
    congr 1
    exact List.map_congr_left fun j hj => by rw [sl j (List.mem_range.1 hj)]
  refine ⟨fun j i => h.itg _ i, by have := h.sg; omega, ?_, fun J hJ t => ?_, fun t ht i h1 h2 => ?_, ?_, h.p0, fun j i h1 h2 h3 h4 => ?_⟩
  · have hd := h.dt
    have e := (DD_alt (R := Rat) N).swp ((List.range k).map r) ((List.range' (k + 1) (l - k - 1)).map r) ((List.range' (l + 1) (N - l - 1)).map r) (r k) (r l) (by
      have := congrArg List.length (range_two hkl hl)
      simp at this ⊢
      omega)
    have e1 : ((List.range k).map r) ++ r k :: (((List.range' (k + 1) (l - k - 1)).map r) ++ r l :: ((List.range' (l + 1) (N - l - 1)).map r)) = (List.range N).map r := by
      rw [range_two hkl hl]; simp
    have e2 : ((List.range k).map r) ++ r l :: (((List.range' (k + 1) (l - k - 1)).map r) ++ r k :: ((List.range' (l + 1) (N - l - 1)).map r)) = (List.range N).map fun j => r (swx k l j) := by
      rw [range_two hkl hl]
      simp only [List.map_append, List.map_cons]
      have q1 : swx k l k = l := by unfold swx; rw [if_pos rfl]
      have q2 : swx k l l = k := by unfold swx; rw [if_neg (by omega), if_pos rfl]
      rw [q1, q2]
      have m1 : (List.range k).map (fun j => r (swx k l j)) = (List.range k).map r := List.map_congr_left fun j hj => by rw [sl j (List.mem_range.1 hj)]
      have m2 : (List.range' (k + 1) (l - k - 1)).map (fun j => r (swx k l j)) = (List.range' (k + 1) (l - k - 1)).map r := List.map_congr_left fun j hj => by
        have := List.mem_range'_1.1 hj
        unfold swx
        rw [if_neg (by omega), if_neg (by omega)]
      have m3 : (List.range' (l + 1) (N - l - 1)).map (fun j => r (swx k l j)) = (List.range' (l + 1) (N - l - 1)).map r := List.map_congr_left fun j hj => by
        have := List.mem_range'_1.1 hj
        unfold swx
        rw [if_neg (by omega), if_neg (by omega)]
      rw [m1, m2, m3]
    rw [e1, e2, hd] at e
    rw [e, Rat.intCast_neg]; grind
  · rw [mp G J, mp r J]
    have := h.eq (J.map (swx k l)) (fun j hj => by
      obtain ⟨i, hi, rfl⟩ := List.mem_map.1 hj
      have := hJ i hi
      exact sw i this.1 this.2) t
    rw [List.length_map] at this
    exact this
  · show G (swx k l t) i = 0
    by_cases hk : t < k
    · rw [sl t hk]; exact h.up t ht i h1 h2
    · have := sw t (by omega) ht
      exact h.up _ this.2 i (by omega) h2
  · rw [h.pe]
    exact Pd_congr k fun t ht => by rw [sl t ht]
  · rw [hc' j i h1 h2 h3 h4]
    have := sw j h1 h2
    exact h.ce _ i this.1 this.2 h3 h4
theorem EI.done {N : Nat} {det : Rat} {c : Nat → Nat → Int} {p s : Int} {r G : Nat → Nat → Rat} (h : EI N det N c p s r G) : det = ((s * p : Int) : Rat) := by
  have e := h.eq [] (by simp) id
  simp only [List.length_nil, Nat.add_zero, List.append_nil] at e
  have ci : ∀ f : Nat → Nat → Rat, ((List.range N).map f).map (cmp id) = (List.range N).map f := fun f => by
    rw [List.map_map]; rfl
  rw [ci, ci, h.dt] at e
  have t := DD_tri (R := Rat) ((List.range N).map G) [] (fun t ht i hi => by
    rw [List.getElem_map]
    simp only [List.getElem_range]
    rw [List.length_map, List.length_range] at ht
    exact h.up t ht i hi (by omega)) (by simp)
  simp only [List.length_map, List.length_range, List.length_nil, Nat.add_zero, List.append_nil, List.map_nil] at t
  rw [t, prD_range, ← h.pe] at e
  have e2 : (p : Rat) * DD 0 [] = (s : Rat) * det := e
  have e3 : DD 0 ([] : List (Nat → Rat)) = 1 := rfl
  rw [e3] at e2
  rw [Rat.intCast_mul]
  rcases h.sg with rfl | rfl
  · have : ((1 : Int) : Rat) = 1 := rfl
    rw [this] at e2 ⊢
    grind
  · have : ((-1 : Int) : Rat) = -1 := rfl
    rw [this] at e2 ⊢
    grind
theorem EI.zero {N : Nat} {det : Rat} {k : Nat} {c : Nat → Nat → Int} {p s : Int} {r G : Nat → Nat → Rat} (h : EI N det k c p s r G) (hk : k < N) (hz : ∀ j, k ≤ j → j < N → c j k = 0) : det = 0 := by
  have hp0 : (p : Rat) ≠ 0 := fun e => h.p0 (Rat.intCast_eq_zero_iff.1 e)
  have hG : ∀ j, k ≤ j → j < N → G j k = 0 := fun j h1 h2 => by
    have := h.ce j k h1 h2 (Nat.le_refl _) hk
    rw [hz j h1 h2] at this
    have z : ((0 : Int) : Rat) = 0 := rfl
    rw [z] at this
    rcases Rat.mul_eq_zero.1 this.symm with e | e
    · exact absurd e hp0
    · exact e
  have e := h.eq (List.range' k (N - k)) (fun j hj => by have := List.mem_range'_1.1 hj; omega) id
  have er : List.range k ++ List.range' k (N - k) = List.range N := by
    rw [List.range_eq_range', List.range_eq_range']
    have := List.range'_append_1 (s := 0) (m := k) (n := N - k)
    rw [Nat.zero_add] at this
    rw [this]
    congr 1
    omega
  have ci : ∀ f : Nat → Nat → Rat, ((List.range N).map f).map (cmp id) = (List.range N).map f := fun f => by
    rw [List.map_map]; rfl
  rw [er, ci, ci, List.length_range', show k + (N - k) = N by omega, h.dt] at e
  have t := DD_tri (R := Rat) ((List.range k).map G) ((List.range' k (N - k)).map G) (fun t ht i hi => by
    rw [List.getElem_map]
    simp only [List.getElem_range]
    rw [List.length_map, List.length_range] at ht
    exact h.up t (by omega) i hi (by omega)) (fun v hv i hi => by
    obtain ⟨j, hj, rfl⟩ := List.mem_map.1 hv
    have := List.mem_range'_1.1 hj
    rw [List.length_map, List.length_range] at hi
    exact h.up j (by omega) i (by omega) hi)
  simp only [List.length_map, List.length_range, List.length_range'] at t
  rw [← List.map_append, er, show k + (N - k) = N by omega] at t
  obtain ⟨m, hm⟩ : ∃ m, N - k = m + 1 := ⟨N - k - 1, by omega⟩
  have z : DD (N - k) (((List.range' k (N - k)).map G).map (shv k)) = 0 := by
    have key : ∀ L : List (Nat → Rat), (∀ v ∈ L, v 0 = 0) → DD (N - k) L = 0 := fun L hL => by rw [hm]; exact DD_zero m L hL
    refine key _ fun v hv => ?_
    obtain ⟨w, hw, rfl⟩ := List.mem_map.1 hv
    obtain ⟨j, hj, rfl⟩ := List.mem_map.1 hw
    have := List.mem_range'_1.1 hj
    show G j (0 + k) = 0
    rw [Nat.zero_add]
    exact hG j (by omega) (by omega)
  rw [z, Rat.mul_zero] at t
  rw [t] at e
  rcases h.sg with rfl | rfl
  · have : ((1 : Int) : Rat) = 1 := rfl
    rw [this] at e
    grind
  · have : ((-1 : Int) : Rat) = -1 := rfl
    rw [this] at e
    grind
end PolA

set_option maxRecDepth 100000
set_option maxHeartbeats 4000000
set_option autoImplicit false
namespace Z
open PySem PySem.Spec PyProof.Rows L2

/-! plain data: what a Python value is, without the heap; loc i is a list that may still change, the i-th cell of the store -/
inductive D where
  | non
  | bl (b : Bool)
  | int (i : Int)
  | str (s : Str)
  | tup (l : List D)
  | lst (l : List D)
  | ro (l : List D)
  | loc (i : Nat)
inductive Cell where
  | lst (l : List D)
  | frz (l : List D)
abbrev Mem := List Cell
abbrev Ev := List (Option D)
inductive Out (α : Type) where
  | ok (a : α) (m : Mem)
  | exc (c : Str) (m : Mem)
inductive SOut where
  | nx (e : Ev) (m : Mem)
  | rt (d : D) (m : Mem)
  | bk (e : Ev) (m : Mem)
  | ct (e : Ev) (m : Mem)
  | exc (c : Str) (e : Ev) (m : Mem)
def bnd {α β : Type} (r : Option (Out α)) (k : α → Mem → Option (Out β)) : Option (Out β) :=
  match r with
  | none => none
  | some (.exc c m) => some (.exc c m)
  | some (.ok a m) => k a m

/-- where the cells lie; which lists never change any more -/
structure Wd where
  ρ : List Addr
  fz : Addr → Prop
  /-- what is being made and is no cell: it stays as it is -/
  pv : Addr → Prop
/-- a list that is only read: locked, or the module's own -/
def SqR (K : PySem.W.Frag) (H : Hp) (a : Addr) (xs : List V) : Prop :=
  (∃ o, H a = some (.frz o (.lst xs))) ∨
    ∃ (o : Obj) (its : Array Value) (n : Nat), K.lookup a = some o ∧ o.cls = .type "list" ∧ o.dict = none ∧ o.data = .seq its n ∧ its.size ≤ sizeLine ∧ Vals xs its.toList
theorem SqR.sq {K : PySem.W.Frag} {H : Hp} {a : Addr} {xs : List V} (h : SqR K H a xs) : SqL K H a xs := by
  rcases h with h | h
  · exact .inl (.inr h)
  · exact .inr h
def RoAt (K : PySem.W.Frag) (w : Wd) (H : Hp) (a : Addr) (xs : List V) : Prop := SqR K H a xs ∨ (w.fz a ∧ H a = some (.lst xs))
theorem RoAt.sq {K : PySem.W.Frag} {w : Wd} {H : Hp} {a : Addr} {xs : List V} (h : RoAt K w H a xs) : SqL K H a xs := by
  rcases h with h | h
  · exact h.sq
  · exact SqL.of h.2

mutual
def Rep (K : PySem.W.Frag) (w : Wd) (H : Hp) : D → V → Prop
  | .non, v => v = .non
  | .bl b, v => v = .bl b
  | .int i, v => v = .int i
  | .str s, v => v = .str s
  | .tup l, v => ∃ a xs, v = .ref a ∧ SqT K H a xs ∧ RepL K w H l xs
  | .lst l, v => ∃ a xs, v = .ref a ∧ w.fz a ∧ H a = some (.lst xs) ∧ RepL K w H l xs
  | .ro l, v => ∃ a xs, v = .ref a ∧ RoAt K w H a xs ∧ RepL K w H l xs
  | .loc i, v => ∃ a, v = .ref a ∧ w.ρ[i]? = some a
def RepL (K : PySem.W.Frag) (w : Wd) (H : Hp) : List D → List V → Prop
  | [], vs => vs = []
  | d :: l, vs => ∃ v r, vs = v :: r ∧ Rep K w H d v ∧ RepL K w H l r
end
def RepC (K : PySem.W.Frag) (w : Wd) (H : Hp) (a : Addr) : Cell → Prop
  | .lst l => ¬ w.fz a ∧ ∃ xs, H a = some (.lst xs) ∧ RepL K w H l xs
  | .frz l => w.fz a ∧ ∃ xs, H a = some (.lst xs) ∧ RepL K w H l xs
structure Good (K : PySem.W.Frag) (w : Wd) (H : Hp) (m : Mem) : Prop where
  len : w.ρ.length = m.length
  nd : w.ρ.Nodup
  at' : ∀ (i : Nat) (c : Cell) (a : Addr), m[i]? = some c → w.ρ[i]? = some a → RepC K w H a c
  fz : ∀ a, w.fz a → ∃ xs, H a = some (.lst xs)
  pv : ∀ a, w.pv a → (∃ o, H a = some o) ∧ a ∉ w.ρ ∧ ¬ w.fz a
structure Ext (K : PySem.W.Frag) (w : Wd) (H : Hp) (w' : Wd) (H' : Hp) : Prop where
  ρ : ∀ (i : Nat) (a : Addr), w.ρ[i]? = some a → w'.ρ[i]? = some a
  fz : ∀ a, w.fz a → w'.fz a
  tup : ∀ a xs, SqT K H a xs → SqT K H' a xs
  lst : ∀ a xs, w.fz a → H a = some (.lst xs) → H' a = some (.lst xs)
  ro : ∀ a xs, SqR K H a xs → SqR K H' a xs
  pv : ∀ a, w.pv a → w'.pv a ∧ H' a = H a
theorem Ext.refl {K : PySem.W.Frag} {w : Wd} {H : Hp} : Ext K w H w H := ⟨fun _ _ h => h, fun _ h => h, fun _ _ h => h, fun _ _ _ h => h, fun _ _ h => h, fun _ h => ⟨h, rfl⟩⟩
theorem Ext.trans {K : PySem.W.Frag} {w w1 w2 : Wd} {H H1 H2 : Hp} (a : Ext K w H w1 H1) (b : Ext K w1 H1 w2 H2) : Ext K w H w2 H2 :=
  ⟨fun i x h => b.ρ i x (a.ρ i x h), fun x h => b.fz x (a.fz x h), fun x xs h => b.tup x xs (a.tup x xs h), fun x xs h h' => b.lst x xs (a.fz x h) (a.lst x xs h h'), fun x xs h => b.ro x xs (a.ro x xs h), fun x h => ⟨(b.pv x (a.pv x h).1).1, ((b.pv x (a.pv x h).1).2).trans (a.pv x h).2⟩⟩
theorem RoAt.mono {K : PySem.W.Frag} {w w' : Wd} {H H' : Hp} {a : Addr} {xs : List V} (e : Ext K w H w' H') (h : RoAt K w H a xs) : RoAt K w' H' a xs := by
  rcases h with h | h
  · exact .inl (e.ro _ _ h)
  · exact .inr ⟨e.fz _ h.1, e.lst _ _ h.1 h.2⟩
mutual
theorem Rep.mono {K : PySem.W.Frag} {w w' : Wd} {H H' : Hp} (e : Ext K w H w' H') : ∀ {d : D} {v : V}, Rep K w H d v → Rep K w' H' d v
  | .non, _, h => h
  | .bl _, _, h => h
  | .int _, _, h => h
  | .str _, _, h => h
  | .tup l, _, h => by
    simp only [Rep] at h ⊢
    obtain ⟨a, xs, r, t, q⟩ := h
    exact ⟨a, xs, r, e.tup a xs t, RepL.mono e q⟩
  | .lst l, _, h => by
    simp only [Rep] at h ⊢
    obtain ⟨a, xs, r, f, t, q⟩ := h
    exact ⟨a, xs, r, e.fz a f, e.lst a xs f t, RepL.mono e q⟩
  | .ro l, _, h => by
    simp only [Rep] at h ⊢
    obtain ⟨a, xs, r, t, q⟩ := h
    exact ⟨a, xs, r, t.mono e, RepL.mono e q⟩
  | .loc i, _, h => by
    simp only [Rep] at h ⊢
    obtain ⟨a, r, q⟩ := h
    exact ⟨a, r, e.ρ i a q⟩
theorem RepL.mono {K : PySem.W.Frag} {w w' : Wd} {H H' : Hp} (e : Ext K w H w' H') : ∀ {l : List D} {vs : List V}, RepL K w H l vs → RepL K w' H' l vs
  | [], _, h => h
  | d :: l, _, h => by
    simp only [RepL] at h ⊢
    obtain ⟨v, r, q, h1, h2⟩ := h
    exact ⟨v, r, q, Rep.mono e h1, RepL.mono e h2⟩
end
section
variable {K : PySem.W.Frag} {w w' : Wd} {H H' : Hp} {m : Mem}
theorem RepL.nil_iff {vs : List V} : RepL K w H [] vs ↔ vs = [] := by simp only [RepL]
theorem RepL.cons_iff {d : D} {l : List D} {vs : List V} : RepL K w H (d :: l) vs ↔ ∃ v r, vs = v :: r ∧ Rep K w H d v ∧ RepL K w H l r := by simp only [RepL]
theorem RepL.nil : RepL K w H [] [] := RepL.nil_iff.mpr rfl
theorem RepL.cons {d : D} {l : List D} {v : V} {r : List V} (h : Rep K w H d v) (q : RepL K w H l r) : RepL K w H (d :: l) (v :: r) := RepL.cons_iff.mpr ⟨v, r, rfl, h, q⟩
theorem RepL.len : ∀ {l : List D} {vs : List V}, RepL K w H l vs → vs.length = l.length
  | [], _, h => by rw [RepL.nil_iff.mp h]; rfl
  | d :: l, _, h => by
    obtain ⟨v, r, rfl, _, q⟩ := RepL.cons_iff.mp h
    rw [List.length_cons, List.length_cons, RepL.len q]
theorem RepL.get : ∀ {l : List D} {vs : List V} {i : Nat} {d : D}, RepL K w H l vs → l[i]? = some d → ∃ v, vs[i]? = some v ∧ Rep K w H d v
  | [], _, _, _, _, e => by simp at e
  | c :: l, _, 0, d, h, e => by
    obtain ⟨v, r, rfl, q, _⟩ := RepL.cons_iff.mp h
    simp at e; subst e
    exact ⟨v, rfl, q⟩
  | c :: l, _, i + 1, d, h, e => by
    obtain ⟨v, r, rfl, _, q⟩ := RepL.cons_iff.mp h
    obtain ⟨u, h1, h2⟩ := RepL.get (i := i) q (by simpa using e)
    exact ⟨u, by simpa using h1, h2⟩
theorem RepL.getV : ∀ {l : List D} {vs : List V} {i : Nat} {v : V}, RepL K w H l vs → vs[i]? = some v → ∃ d, l[i]? = some d ∧ Rep K w H d v
  | [], _, _, _, h, e => by rw [RepL.nil_iff.mp h] at e; simp at e
  | c :: l, _, 0, v, h, e => by
    obtain ⟨u, r, rfl, q, _⟩ := RepL.cons_iff.mp h
    simp at e; subst e
    exact ⟨c, rfl, q⟩
  | c :: l, _, i + 1, d, h, e => by
    obtain ⟨u, r, rfl, _, q⟩ := RepL.cons_iff.mp h
    obtain ⟨u, h1, h2⟩ := RepL.getV (i := i) q (by simpa using e)
    exact ⟨u, by simpa using h1, h2⟩
theorem RepL.append : ∀ {l r : List D} {xs ys : List V}, RepL K w H l xs → RepL K w H r ys → RepL K w H (l ++ r) (xs ++ ys)
  | [], _, _, _, h, q => by rw [RepL.nil_iff.mp h]; exact q
  | d :: l, _, _, _, h, q => by
    obtain ⟨v, r, rfl, h1, h2⟩ := RepL.cons_iff.mp h
    exact RepL.cons h1 (RepL.append h2 q)
theorem RepL.take : ∀ {l : List D} {xs : List V} (n : Nat), RepL K w H l xs → RepL K w H (l.take n) (xs.take n)
  | _, _, 0, _ => by rw [List.take_zero, List.take_zero]; exact RepL.nil
  | [], _, n + 1, h => by rw [RepL.nil_iff.mp h]; exact RepL.nil
  | d :: l, _, n + 1, h => by
    obtain ⟨v, r, rfl, h1, h2⟩ := RepL.cons_iff.mp h
    exact RepL.cons h1 (RepL.take n h2)
theorem RepL.drop : ∀ {l : List D} {xs : List V} (n : Nat), RepL K w H l xs → RepL K w H (l.drop n) (xs.drop n)
  | _, _, 0, h => h
  | [], _, n + 1, h => by rw [RepL.nil_iff.mp h]; exact RepL.nil
  | d :: l, _, n + 1, h => by
    obtain ⟨v, r, rfl, h1, h2⟩ := RepL.cons_iff.mp h
    exact RepL.drop n h2
theorem RepL.set {d : D} {v : V} (hd : Rep K w H d v) : ∀ {l : List D} {xs : List V} (i : Nat), RepL K w H l xs → RepL K w H (l.set i d) (xs.set i v)
  | [], _, _, h => by rw [RepL.nil_iff.mp h]; exact RepL.nil
  | c :: l, _, 0, h => by
    obtain ⟨u, r, rfl, h1, h2⟩ := RepL.cons_iff.mp h
    exact RepL.cons hd h2
  | c :: l, _, i + 1, h => by
    obtain ⟨u, r, rfl, h1, h2⟩ := RepL.cons_iff.mp h
    exact RepL.cons h1 (RepL.set hd i h2)
theorem RepL.ints : ∀ {ns : List Int} {xs : List V}, RepL K w H (ns.map D.int) xs → xs = ns.map V.int
  | [], _, h => RepL.nil_iff.mp h
  | n :: r, _, h => by
    obtain ⟨v, t, rfl, h1, h2⟩ := RepL.cons_iff.mp h
    rw [List.map_cons, ← RepL.ints h2]
    simp only [Rep] at h1
    rw [h1]
theorem RepL.of_ints : ∀ {ns : List Int}, RepL K w H (ns.map D.int) (ns.map V.int)
  | [] => RepL.nil
  | n :: r => RepL.cons (by simp only [Rep]) RepL.of_ints
theorem RepL.reverse {l : List D} {xs : List V} (h : RepL K w H l xs) : RepL K w H l.reverse xs.reverse := by
  induction l generalizing xs with
  | nil => rw [RepL.nil_iff.mp h]; exact RepL.nil
  | cons d l ih =>
    obtain ⟨v, r, rfl, h1, h2⟩ := RepL.cons_iff.mp h
    rw [List.reverse_cons, List.reverse_cons]
    exact (ih h2).append (RepL.cons h1 RepL.nil)
theorem RepL.dropLast {l : List D} {xs : List V} (h : RepL K w H l xs) : RepL K w H l.dropLast xs.dropLast := by
  rw [List.dropLast_eq_take, List.dropLast_eq_take, h.len]
  exact h.take _

/-! new objects -/
theorem sqT_upd {p : Addr} {o : HO} (hp : H p = none) {a : Addr} {xs : List V} (h : SqT K H a xs) : SqT K (upd H p o) a xs := by
  rcases h with (h | ⟨ob, h⟩) | h
  · exact .inl (.inl (by rw [upd_ne (ne_of_none h hp)]; exact h))
  · exact .inl (.inr ⟨ob, by rw [upd_ne (ne_of_none h hp)]; exact h⟩)
  · exact .inr h
theorem sqR_upd {p : Addr} {o : HO} (hp : ∀ ob u, H p ≠ some (.frz ob u)) {a : Addr} {xs : List V} (h : SqR K H a xs) : SqR K (upd H p o) a xs := by
  rcases h with ⟨ob, h⟩ | h
  · exact .inl ⟨ob, by rw [upd_ne fun z => hp _ _ (z ▸ h)]; exact h⟩
  · exact .inr h
theorem Ext.new {p : Addr} {o : HO} (g : Good K w H m) (hp : H p = none) : Ext K w H w (upd H p o) :=
  ⟨fun _ _ h => h, fun _ h => h, fun _ _ h => sqT_upd hp h, fun a xs _ h => by rw [upd_ne (ne_of_none h hp)]; exact h, fun _ _ h => sqR_upd (fun _ _ z => by rw [hp] at z; cases z) h, fun a h => ⟨h, by
    obtain ⟨⟨u, q⟩, _⟩ := g.pv a h
    rw [upd_ne (ne_of_none q hp)]⟩⟩
theorem RepC.mono {a : Addr} {c : Cell} (e : Ext K w H w' H') (hf : ¬ w.fz a → ¬ w'.fz a) (hh : ∀ xs, H a = some (.lst xs) → H' a = some (.lst xs)) (h : RepC K w H a c) : RepC K w' H' a c := by
  cases c with
  | lst l =>
    obtain ⟨n, xs, q, r⟩ := h
    exact ⟨hf n, xs, hh xs q, r.mono e⟩
  | frz l =>
    obtain ⟨n, xs, q, r⟩ := h
    exact ⟨e.fz a n, xs, hh xs q, r.mono e⟩
theorem RepC.there {a : Addr} {c : Cell} (h : RepC K w H a c) : ∃ xs, H a = some (.lst xs) := by
  cases c with
  | lst l => obtain ⟨_, xs, q, _⟩ := h; exact ⟨xs, q⟩
  | frz l => obtain ⟨_, xs, q, _⟩ := h; exact ⟨xs, q⟩
theorem Good.cell (g : Good K w H m) {i : Nat} {a : Addr} (h : w.ρ[i]? = some a) : ∃ c, m[i]? = some c := by
  have hi : i < w.ρ.length := (List.getElem?_eq_some_iff.mp h).1
  rw [g.len] at hi
  exact ⟨m[i], List.getElem?_eq_getElem hi⟩
theorem Good.addr (g : Good K w H m) {i : Nat} {c : Cell} (h : m[i]? = some c) : ∃ a, w.ρ[i]? = some a := by
  have hi : i < m.length := (List.getElem?_eq_some_iff.mp h).1
  rw [← g.len] at hi
  exact ⟨w.ρ[i], List.getElem?_eq_getElem hi⟩
theorem Good.there (g : Good K w H m) {i : Nat} {a : Addr} (h : w.ρ[i]? = some a) : ∃ xs, H a = some (.lst xs) := by
  obtain ⟨c, hc⟩ := g.cell h
  exact (g.at' i c a hc h).there
/-- a new object that no cell is -/
theorem Good.new {p : Addr} {o : HO} (g : Good K w H m) (hp : H p = none) : Good K w (upd H p o) m := by
  refine ⟨g.len, g.nd, fun i c a hc ha => ?_, fun a ha => ?_, fun a ha => ?_⟩
  · exact (g.at' i c a hc ha).mono (Ext.new g hp) (fun h => h) fun xs q => by rw [upd_ne (ne_of_none q hp)]; exact q
  · obtain ⟨xs, q⟩ := g.fz a ha
    exact ⟨xs, by rw [upd_ne (ne_of_none q hp)]; exact q⟩
  · obtain ⟨⟨u, q⟩, h2, h3⟩ := g.pv a ha
    exact ⟨⟨u, by rw [upd_ne (ne_of_none q hp)]; exact q⟩, h2, h3⟩
/-- a new list that never changes -/
def Wd.fzn (w : Wd) (p : Addr) : Wd := { w with fz := fun a => a = p ∨ w.fz a }
theorem Ext.fzn {p : Addr} : Ext K w H (w.fzn p) H := ⟨fun _ _ h => h, fun _ h => .inr h, fun _ _ h => h, fun _ _ _ h => h, fun _ _ h => h, fun _ h => ⟨h, rfl⟩⟩
theorem Good.newF {p : Addr} {xs : List V} (g : Good K w H m) (hp : H p = none) : Good K (w.fzn p) (upd H p (.lst xs)) m := by
  refine ⟨g.len, g.nd, fun i c a hc ha => ?_, fun a ha => ?_, fun a ha => ?_⟩
  · have q := g.at' i c a hc ha
    obtain ⟨ys, hy⟩ := q.there
    exact q.mono ((Ext.new g hp).trans Ext.fzn) (fun h z => z.elim (fun e => ne_of_none hy hp e) h) fun xs q => by rw [upd_ne (ne_of_none q hp)]; exact q
  · rcases ha with rfl | ha
    · exact ⟨xs, upd_same⟩
    · obtain ⟨ys, q⟩ := g.fz a ha
      exact ⟨ys, by rw [upd_ne (ne_of_none q hp)]; exact q⟩
  · obtain ⟨⟨u, q⟩, h2, h3⟩ := g.pv a ha
    exact ⟨⟨u, by rw [upd_ne (ne_of_none q hp)]; exact q⟩, h2, fun z => z.elim (fun e => ne_of_none q hp e) h3⟩
/-- a new cell -/
def Wd.push (w : Wd) (p : Addr) : Wd := { w with ρ := w.ρ ++ [p] }
theorem Ext.push {p : Addr} : Ext K w H (w.push p) H := ⟨fun i a h => by
  show (w.ρ ++ [p])[i]? = some a
  rw [List.getElem?_append_left (List.getElem?_eq_some_iff.mp h).1]; exact h, fun _ h => h, fun _ _ h => h, fun _ _ _ h => h, fun _ _ h => h, fun _ h => ⟨h, rfl⟩⟩
theorem Good.newL {p : Addr} {l : List D} {xs : List V} (g : Good K w H m) (hp : H p = none) (r : RepL K w H l xs) : Good K (w.push p) (upd H p (.lst xs)) (m ++ [.lst l]) := by
  have e : Ext K w H (w.push p) (upd H p (.lst xs)) := (Ext.new g hp).trans Ext.push
  have np : p ∉ w.ρ := fun z => by
    obtain ⟨i, hi⟩ := List.mem_iff_getElem?.mp z
    obtain ⟨ys, hy⟩ := g.there hi
    rw [hp] at hy; cases hy
  have nf : ¬ w.fz p := fun z => by
    obtain ⟨ys, hy⟩ := g.fz p z
    rw [hp] at hy; cases hy
  refine ⟨?_, ?_, fun i c a hc ha => ?_, fun a ha => ?_, fun a ha => ?_⟩
  · show (w.ρ ++ [p]).length = _
    rw [List.length_append, List.length_append, g.len]; rfl
  · exact List.nodup_append.mpr ⟨g.nd, by simp, fun a ha b hb => by
      have : b = p := by simpa using hb
      subst this
      exact fun z => np (z ▸ ha)⟩
  · have ha : (w.ρ ++ [p])[i]? = some a := ha
    by_cases hi : i < w.ρ.length
    · rw [List.getElem?_append_left hi] at ha
      rw [List.getElem?_append_left (by rw [← g.len]; exact hi)] at hc
      have q := g.at' i c a hc ha
      exact q.mono e (fun h => h) fun xs q => by rw [upd_ne (ne_of_none q hp)]; exact q
    · have hil : i < (w.ρ ++ [p]).length := (List.getElem?_eq_some_iff.mp ha).1
      rw [List.length_append, List.length_singleton] at hil
      have ei : i = w.ρ.length := by omega
      rw [ei, List.getElem?_append_right (Nat.le_refl _), Nat.sub_self] at ha
      rw [ei, g.len, List.getElem?_append_right (Nat.le_refl _), Nat.sub_self] at hc
      simp at ha hc
      subst ha hc
      exact ⟨nf, xs, upd_same, r.mono e⟩
  · obtain ⟨ys, q⟩ := g.fz a ha
    exact ⟨ys, by rw [upd_ne (ne_of_none q hp)]; exact q⟩
  · obtain ⟨⟨u, q⟩, h2, h3⟩ := g.pv a ha
    refine ⟨⟨u, by rw [upd_ne (ne_of_none q hp)]; exact q⟩, fun z => ?_, h3⟩
    have z : a ∈ w.ρ ++ [p] := z
    rcases List.mem_append.mp z with z | z
    · exact h2 z
    · exact ne_of_none q hp (by simpa using z)
/-- a cell is written -/
theorem Ext.write {i : Nat} {a : Addr} {l : List D} {ys : List V} (g : Good K w H m) (hm : m[i]? = some (.lst l)) (ha : w.ρ[i]? = some a) : Ext K w H w (upd H a (.lst ys)) := by
  obtain ⟨nf, xs, hx, _⟩ : ¬ w.fz a ∧ ∃ xs, H a = some (.lst xs) ∧ RepL K w H l xs := g.at' i _ a hm ha
  refine ⟨fun _ _ h => h, fun _ h => h, fun b zs h => ?_, fun b zs hf h => ?_, fun b zs h => sqR_upd (fun ob u z => by rw [hx] at z; cases z) h, fun b h => ⟨h, by
    obtain ⟨_, h2, _⟩ := g.pv b h
    have nb : b ≠ a := fun z => h2 (by rw [z]; exact List.mem_of_getElem? ha)
    rw [upd_ne nb]⟩⟩
  · rcases h with (h | ⟨ob, h⟩) | h
    · exact .inl (.inl (by rw [upd_ne (fun z => by rw [z, hx] at h; cases h)]; exact h))
    · exact .inl (.inr ⟨ob, by rw [upd_ne (fun z => by rw [z, hx] at h; cases h)]; exact h⟩)
    · exact .inr h
  · have nb : b ≠ a := fun z => nf (by rw [← z]; exact hf)
    rw [upd_ne nb]; exact h
theorem nodup_get : ∀ {l : List Addr} {i j : Nat} {a : Addr}, l.Nodup → l[i]? = some a → l[j]? = some a → i = j := fun {l i j a} h h1 h2 => by
  obtain ⟨hi, e1⟩ := List.getElem?_eq_some_iff.mp h1
  obtain ⟨hj, e2⟩ := List.getElem?_eq_some_iff.mp h2
  exact (List.getElem_inj h).mp (e1.trans e2.symm)
theorem Good.write {i : Nat} {a : Addr} {l l' : List D} {ys : List V} (g : Good K w H m) (hm : m[i]? = some (.lst l)) (ha : w.ρ[i]? = some a) (r : RepL K w H l' ys) : Good K w (upd H a (.lst ys)) (m.set i (.lst l')) := by
  have e : Ext K w H w (upd H a (.lst ys)) := Ext.write g hm ha
  obtain ⟨nf, xs, hx, _⟩ : ¬ w.fz a ∧ ∃ xs, H a = some (.lst xs) ∧ RepL K w H l xs := g.at' i _ a hm ha
  refine ⟨by rw [List.length_set]; exact g.len, g.nd, fun j c b hc hb => ?_, fun b hb => ?_, fun b hb => ?_⟩
  · by_cases hj : i = j
    · subst hj
      rw [ha] at hb; cases hb
      rw [List.getElem?_set_self (List.getElem?_eq_some_iff.mp hm).1] at hc
      cases hc
      exact ⟨nf, ys, upd_same, r.mono e⟩
    · rw [List.getElem?_set_ne hj] at hc
      have q := g.at' j c b hc hb
      have nb : b ≠ a := fun z => hj (nodup_get g.nd ha (by rw [← z]; exact hb))
      exact q.mono e (fun h => h) fun xs q => by
        rw [upd_ne nb]; exact q
  · obtain ⟨zs, q⟩ := g.fz b hb
    have nb : b ≠ a := fun z => nf (by rw [← z]; exact hb)
    exact ⟨zs, by rw [upd_ne nb]; exact q⟩
  · obtain ⟨⟨u, q⟩, h2, h3⟩ := g.pv b hb
    have nb : b ≠ a := fun z => h2 (by rw [z]; exact List.mem_of_getElem? ha)
    exact ⟨⟨u, by rw [upd_ne nb]; exact q⟩, h2, h3⟩
/-- a cell changes no more -/
theorem Good.freeze {i : Nat} {a : Addr} {l : List D} (g : Good K w H m) (hm : m[i]? = some (.lst l)) (ha : w.ρ[i]? = some a) : Good K (w.fzn a) H (m.set i (.frz l)) ∧ Rep K (w.fzn a) H (.lst l) (.ref a) := by
  obtain ⟨nf, xs, hx, r⟩ : ¬ w.fz a ∧ ∃ xs, H a = some (.lst xs) ∧ RepL K w H l xs := g.at' i _ a hm ha
  refine ⟨⟨by rw [List.length_set]; exact g.len, g.nd, fun j c b hc hb => ?_, fun b hb => ?_, fun b hb => ?_⟩, ?_⟩
  · by_cases hj : i = j
    · subst hj
      have hb : w.ρ[i]? = some b := hb
      rw [ha] at hb
      have hb : a = b := Option.some.inj hb
      subst hb
      rw [List.getElem?_set_self (List.getElem?_eq_some_iff.mp hm).1] at hc
      cases hc
      exact ⟨.inl rfl, xs, hx, r.mono Ext.fzn⟩
    · rw [List.getElem?_set_ne hj] at hc
      have q := g.at' j c b hc hb
      exact q.mono Ext.fzn (fun h z => z.elim (fun e => hj (nodup_get g.nd ha (e ▸ hb))) h) fun _ q => q
  · rcases hb with rfl | hb
    · exact ⟨xs, hx⟩
    · exact g.fz b hb
  · obtain ⟨h1, h2, h3⟩ := g.pv b hb
    exact ⟨h1, h2, fun z => z.elim (fun e => h2 (by rw [e]; exact List.mem_of_getElem? ha)) h3⟩
  · simp only [Rep]
    exact ⟨a, xs, rfl, .inl rfl, hx, r.mono Ext.fzn⟩
theorem Good.thaw {i : Nat} {a : Addr} {l : List D} (g : Good K w H m) (hm : m[i]? = some (.frz l)) (ha : w.ρ[i]? = some a) : Rep K w H (.lst l) (.ref a) := by
  obtain ⟨f, xs, hx, r⟩ : w.fz a ∧ ∃ xs, H a = some (.lst xs) ∧ RepL K w H l xs := g.at' i _ a hm ha
  simp only [Rep]
  exact ⟨a, xs, rfl, f, hx, r⟩

/-! the frame's names -/
def EvR (K : PySem.W.Frag) (w : Wd) (H : Hp) (e : Ev) (σ : L2.St) : Prop := e.length = σ.length ∧ ∀ (i : Nat) (d : D), e[i]? = some (some d) → ∃ v, σ[i]? = some (some v) ∧ Rep K w H d v
theorem EvR.mono {e : Ev} {σ : L2.St} (x : Ext K w H w' H') (h : EvR K w H e σ) : EvR K w' H' e σ := ⟨h.1, fun i d q => by
  obtain ⟨v, h1, h2⟩ := h.2 i d q
  exact ⟨v, h1, h2.mono x⟩⟩
theorem EvR.set {e : Ev} {σ : L2.St} {i : Nat} {d : D} {v : V} (h : EvR K w H e σ) (r : Rep K w H d v) : EvR K w H (e.set i (some d)) (σ.set i (some v)) := by
  refine ⟨by rw [List.length_set, List.length_set]; exact h.1, fun j c q => ?_⟩
  by_cases hj : i = j
  · subst hj
    have hi : i < e.length := by
      have := (List.getElem?_eq_some_iff.mp q).1
      rwa [List.length_set] at this
    rw [List.getElem?_set_self hi] at q
    cases q
    exact ⟨v, List.getElem?_set_self (by rw [← h.1]; exact hi), r⟩
  · rw [List.getElem?_set_ne hj] at q
    obtain ⟨u, h1, h2⟩ := h.2 j c q
    exact ⟨u, by rw [List.getElem?_set_ne hj]; exact h1, h2⟩
theorem EvR.forget {e : Ev} {σ : L2.St} {i : Nat} (h : EvR K w H e σ) (o : Option V) : EvR K w H (e.set i none) (σ.set i o) := by
  refine ⟨by rw [List.length_set, List.length_set]; exact h.1, fun j c q => ?_⟩
  by_cases hj : i = j
  · subst hj
    have hi : i < e.length := by
      have := (List.getElem?_eq_some_iff.mp q).1
      rwa [List.length_set] at this
    rw [List.getElem?_set_self hi] at q
    cases q
  · rw [List.getElem?_set_ne hj] at q
    obtain ⟨u, h1, h2⟩ := h.2 j c q
    exact ⟨u, by rw [List.getElem?_set_ne hj]; exact h1, h2⟩
def wipeE (e : Ev) : List Nat → Ev
  | [] => e
  | v :: vs => (wipeE e vs).set v none
theorem EvR.wipe {e : Ev} {σ : L2.St} (h : EvR K w H e σ) : ∀ vs : List Nat, EvR K w H (wipeE e vs) (L2.wipe σ vs)
  | [] => h
  | v :: vs => (EvR.wipe h vs).forget none
def startE (n : Nat) (ds : List D) : Ev := ds.map some ++ List.replicate (n - ds.length) none
theorem EvR.start {N : List Str} {ds : List D} {vs : List V} (h : RepL K w H ds vs) : EvR K w H (startE N.length ds) (L2.start N vs) := by
  unfold startE L2.start
  rw [h.len]
  refine ⟨by simp [h.len], fun i d q => ?_⟩
  by_cases hi : i < ds.length
  · rw [List.getElem?_append_left (by simpa using hi), List.getElem?_map] at q
    rw [List.getElem?_append_left (by simpa [h.len] using hi), List.getElem?_map]
    cases e : ds[i]? with
    | none => rw [e] at q; cases q
    | some c =>
      rw [e] at q
      cases q
      obtain ⟨v, h1, h2⟩ := h.get e
      exact ⟨v, by rw [h1]; rfl, h2⟩
  · rw [List.getElem?_append_right (by simpa using hi), List.getElem?_replicate] at q
    split at q <;> cases q
end
end Z

set_option maxRecDepth 100000
set_option maxHeartbeats 4000000
set_option autoImplicit false
namespace Z
open PySem PySem.Spec PyProof.Rows L2

/-! ### judgements over plain data -/
abbrev PEF := Ev → Mem → Option (Out D)
abbrev PTF := Ev → Mem → Option (Out Bool)
abbrev PAF := Ev → Mem → Option (Out (List D))
abbrev PSF := Ev → Mem → Option SOut
/-- what is wanted of an exception: its class's name -/
def ExW (X : Cx) (W : WX) (w : Wd) (H : Hp) (σ : L2.St) (c : Str) (m : Mem) : Prop :=
  ∀ w' H' C, Good X.K w' H' m → Ext X.K w H w' H' → X.mg c = some (.ref C) → W (.ref C) none σ H'
def PostE (X : Cx) (W : WX) (σ : L2.St) (w : Wd) (H : Hp) (Q : VK) : Out D → Prop
  | .ok d m => ∀ w' v H', Good X.K w' H' m → Ext X.K w H w' H' → Rep X.K w' H' d v → Q v H'
  | .exc c m => ExW X W w H σ c m
def PostT (X : Cx) (W : WX) (σ : L2.St) (w : Wd) (H : Hp) (Q : Bool → Hp → Prop) : Out Bool → Prop
  | .ok b m => ∀ w' H', Good X.K w' H' m → Ext X.K w H w' H' → Q b H'
  | .exc c m => ExW X W w H σ c m
def PostA (X : Cx) (W : WX) (σ : L2.St) (w : Wd) (H : Hp) (Q : List V → Hp → Prop) : Out (List D) → Prop
  | .ok ds m => ∀ w' vs H', Good X.K w' H' m → Ext X.K w H w' H' → RepL X.K w' H' ds vs → Q vs H'
  | .exc c m => ExW X W w H σ c m
def tM (X : Cx) (W : WX) (p : PEF) : TE := fun σ H Q => ∃ w m e r, Good X.K w H m ∧ EvR X.K w H e σ ∧ p e m = some r ∧ PostE X W σ w H Q r
def tT (X : Cx) (W : WX) (p : PTF) : TT := fun σ H Q => ∃ w m e r, Good X.K w H m ∧ EvR X.K w H e σ ∧ p e m = some r ∧ PostT X W σ w H Q r
def tA (X : Cx) (W : WX) (p : PAF) : TA := fun σ H Q => ∃ w m e r, Good X.K w H m ∧ EvR X.K w H e σ ∧ p e m = some r ∧ PostA X W σ w H Q r
abbrev ME (X : Cx) (W : WX) (e : Expr) (p : PEF) : Prop := PE X e (tM X W p)
abbrev MT (X : Cx) (W : WX) (e : Expr) (p : PTF) : Prop := PT X e (tT X W p)
abbrev MW (X : Cx) (W : WX) (e : Expr) (p : PTF) : Prop := PW X e (tT X W p)
abbrev MA (X : Cx) (W : WX) (es : List Expr) (p : PAF) : Prop := PA X es (tA X W p)

theorem PE.imp {X : Cx} {e : Expr} {t t' : TE} (h : PE X e t) (i : ∀ σ H Q, t' σ H Q → t σ H Q) : PE X e t' := ⟨fun pins s σ H Q I q => h.run pins s σ H Q I (i _ _ _ q)⟩
theorem PT.imp {X : Cx} {e : Expr} {t t' : TT} (h : PT X e t) (i : ∀ σ H Q, t' σ H Q → t σ H Q) : PT X e t' := ⟨fun pins s σ H Q I q => h.run pins s σ H Q I (i _ _ _ q)⟩
theorem PW.imp {X : Cx} {e : Expr} {t t' : TT} (h : PW X e t) (i : ∀ σ H Q, t' σ H Q → t σ H Q) : PW X e t' := ⟨fun wh pins s σ H Q I q => h.run wh pins s σ H Q I (i _ _ _ q)⟩
theorem PA.imp {X : Cx} {e : List Expr} {t t' : TA} (h : PA X e t) (i : ∀ σ H Q, t' σ H Q → t σ H Q) : PA X e t' := ⟨fun pos pins s σ H Q I q => h.run pos pins s σ H Q I (i _ _ _ q)⟩

theorem ExW.ext {X : Cx} {W : WX} {w w1 : Wd} {H H1 : Hp} {σ : L2.St} {c : Str} {m : Mem} (h : ExW X W w H σ c m) (e : Ext X.K w H w1 H1) : ExW X W w1 H1 σ c m :=
  fun w' H' C g x hc => h w' H' C g (e.trans x) hc
theorem PostE.ext {X : Cx} {W : WX} {w w1 : Wd} {H H1 : Hp} {σ : L2.St} {Q : VK} {r : Out D} (h : PostE X W σ w H Q r) (e : Ext X.K w H w1 H1) : PostE X W σ w1 H1 Q r := by
  cases r with
  | ok d m => exact fun w' v H' g x hr => h w' v H' g (e.trans x) hr
  | exc c m => exact ExW.ext h e
theorem PostT.ext {X : Cx} {W : WX} {w w1 : Wd} {H H1 : Hp} {σ : L2.St} {Q : Bool → Hp → Prop} {r : Out Bool} (h : PostT X W σ w H Q r) (e : Ext X.K w H w1 H1) : PostT X W σ w1 H1 Q r := by
  cases r with
  | ok d m => exact fun w' H' g x => h w' H' g (e.trans x)
  | exc c m => exact ExW.ext h e
theorem PostA.ext {X : Cx} {W : WX} {w w1 : Wd} {H H1 : Hp} {σ : L2.St} {Q : List V → Hp → Prop} {r : Out (List D)} (h : PostA X W σ w H Q r) (e : Ext X.K w H w1 H1) : PostA X W σ w1 H1 Q r := by
  cases r with
  | ok d m => exact fun w' v H' g x hr => h w' v H' g (e.trans x) hr
  | exc c m => exact ExW.ext h e
/-- a value at hand -/
theorem PostE.now {X : Cx} {W : WX} {w : Wd} {H : Hp} {σ : L2.St} {Q : VK} {d : D} {m : Mem} {v : V} (h : PostE X W σ w H Q (.ok d m)) (g : Good X.K w H m) (r : Rep X.K w H d v) : Q v H := h w v H g Ext.refl r

/-! ### sequencing -/
theorem tM_bnd {X : Cx} {W : WX} {p : PEF} {k : D → Mem → Option (Out D)} {σ : L2.St} {H : Hp} {Q : VK} {w : Wd} {m : Mem} {e : Ev} {r : Out D} (g : Good X.K w H m) (ev : EvR X.K w H e σ) (h : bnd (p e m) k = some r) (q : PostE X W σ w H Q r)
    {R : V → Hp → Prop} (hk : ∀ d m1 w1 v H1, k d m1 = some r → Good X.K w1 H1 m1 → Ext X.K w H w1 H1 → Rep X.K w1 H1 d v → EvR X.K w1 H1 e σ → PostE X W σ w1 H1 Q r → R v H1) : tM X W p σ H R := by
  cases hp : p e m with
  | none => rw [hp] at h; cases h
  | some o =>
    rw [hp] at h
    cases o with
    | ok d m1 => exact ⟨w, m, e, _, g, ev, hp, fun w1 v H1 g1 x1 r1 => hk d m1 w1 v H1 h g1 x1 r1 (ev.mono x1) (q.ext x1)⟩
    | exc c m1 =>
      have h : some (Out.exc c m1) = some r := h
      cases h
      exact ⟨w, m, e, _, g, ev, hp, q⟩
theorem tM_bndT {X : Cx} {W : WX} {p : PEF} {k : D → Mem → Option (Out Bool)} {σ : L2.St} {H : Hp} {Q : Bool → Hp → Prop} {w : Wd} {m : Mem} {e : Ev} {r : Out Bool} (g : Good X.K w H m) (ev : EvR X.K w H e σ) (h : bnd (p e m) k = some r) (q : PostT X W σ w H Q r)
    {R : V → Hp → Prop} (hk : ∀ d m1 w1 v H1, k d m1 = some r → Good X.K w1 H1 m1 → Ext X.K w H w1 H1 → Rep X.K w1 H1 d v → EvR X.K w1 H1 e σ → PostT X W σ w1 H1 Q r → R v H1) : tM X W p σ H R := by
  cases hp : p e m with
  | none => rw [hp] at h; cases h
  | some o =>
    rw [hp] at h
    cases o with
    | ok d m1 => exact ⟨w, m, e, _, g, ev, hp, fun w1 v H1 g1 x1 r1 => hk d m1 w1 v H1 h g1 x1 r1 (ev.mono x1) (q.ext x1)⟩
    | exc c m1 =>
      have h : some (Out.exc c m1) = some r := h
      cases h
      exact ⟨w, m, e, _, g, ev, hp, q⟩
theorem tM_bndA {X : Cx} {W : WX} {p : PEF} {k : D → Mem → Option (Out (List D))} {σ : L2.St} {H : Hp} {Q : List V → Hp → Prop} {w : Wd} {m : Mem} {e : Ev} {r : Out (List D)} (g : Good X.K w H m) (ev : EvR X.K w H e σ) (h : bnd (p e m) k = some r) (q : PostA X W σ w H Q r)
    {R : V → Hp → Prop} (hk : ∀ d m1 w1 v H1, k d m1 = some r → Good X.K w1 H1 m1 → Ext X.K w H w1 H1 → Rep X.K w1 H1 d v → EvR X.K w1 H1 e σ → PostA X W σ w1 H1 Q r → R v H1) : tM X W p σ H R := by
  cases hp : p e m with
  | none => rw [hp] at h; cases h
  | some o =>
    rw [hp] at h
    cases o with
    | ok d m1 => exact ⟨w, m, e, _, g, ev, hp, fun w1 v H1 g1 x1 r1 => hk d m1 w1 v H1 h g1 x1 r1 (ev.mono x1) (q.ext x1)⟩
    | exc c m1 =>
      have h : some (Out.exc c m1) = some r := h
      cases h
      exact ⟨w, m, e, _, g, ev, hp, q⟩
theorem tA_bnd {X : Cx} {W : WX} {p : PAF} {k : List D → Mem → Option (Out D)} {σ : L2.St} {H : Hp} {Q : VK} {w : Wd} {m : Mem} {e : Ev} {r : Out D} (g : Good X.K w H m) (ev : EvR X.K w H e σ) (h : bnd (p e m) k = some r) (q : PostE X W σ w H Q r)
    {R : List V → Hp → Prop} (hk : ∀ d m1 w1 v H1, k d m1 = some r → Good X.K w1 H1 m1 → Ext X.K w H w1 H1 → RepL X.K w1 H1 d v → EvR X.K w1 H1 e σ → PostE X W σ w1 H1 Q r → R v H1) : tA X W p σ H R := by
  cases hp : p e m with
  | none => rw [hp] at h; cases h
  | some o =>
    rw [hp] at h
    cases o with
    | ok d m1 => exact ⟨w, m, e, _, g, ev, hp, fun w1 v H1 g1 x1 r1 => hk d m1 w1 v H1 h g1 x1 r1 (ev.mono x1) (q.ext x1)⟩
    | exc c m1 =>
      have h : some (Out.exc c m1) = some r := h
      cases h
      exact ⟨w, m, e, _, g, ev, hp, q⟩
theorem tA_bndA {X : Cx} {W : WX} {p : PAF} {k : List D → Mem → Option (Out (List D))} {σ : L2.St} {H : Hp} {Q : List V → Hp → Prop} {w : Wd} {m : Mem} {e : Ev} {r : Out (List D)} (g : Good X.K w H m) (ev : EvR X.K w H e σ) (h : bnd (p e m) k = some r) (q : PostA X W σ w H Q r)
    {R : List V → Hp → Prop} (hk : ∀ d m1 w1 v H1, k d m1 = some r → Good X.K w1 H1 m1 → Ext X.K w H w1 H1 → RepL X.K w1 H1 d v → EvR X.K w1 H1 e σ → PostA X W σ w1 H1 Q r → R v H1) : tA X W p σ H R := by
  cases hp : p e m with
  | none => rw [hp] at h; cases h
  | some o =>
    rw [hp] at h
    cases o with
    | ok d m1 => exact ⟨w, m, e, _, g, ev, hp, fun w1 v H1 g1 x1 r1 => hk d m1 w1 v H1 h g1 x1 r1 (ev.mono x1) (q.ext x1)⟩
    | exc c m1 =>
      have h : some (Out.exc c m1) = some r := h
      cases h
      exact ⟨w, m, e, _, g, ev, hp, q⟩
theorem tT_bnd {X : Cx} {W : WX} {p : PTF} {k : Bool → Mem → Option (Out D)} {σ : L2.St} {H : Hp} {Q : VK} {w : Wd} {m : Mem} {e : Ev} {r : Out D} (g : Good X.K w H m) (ev : EvR X.K w H e σ) (h : bnd (p e m) k = some r) (q : PostE X W σ w H Q r)
    {R : Bool → Hp → Prop} (hk : ∀ d m1 w1 H1, k d m1 = some r → Good X.K w1 H1 m1 → Ext X.K w H w1 H1 → EvR X.K w1 H1 e σ → PostE X W σ w1 H1 Q r → R d H1) : tT X W p σ H R := by
  cases hp : p e m with
  | none => rw [hp] at h; cases h
  | some o =>
    rw [hp] at h
    cases o with
    | ok d m1 => exact ⟨w, m, e, _, g, ev, hp, fun w1 H1 g1 x1 => hk d m1 w1 H1 h g1 x1 (ev.mono x1) (q.ext x1)⟩
    | exc c m1 =>
      have h : some (Out.exc c m1) = some r := h
      cases h
      exact ⟨w, m, e, _, g, ev, hp, q⟩
theorem tT_bndT {X : Cx} {W : WX} {p : PTF} {k : Bool → Mem → Option (Out Bool)} {σ : L2.St} {H : Hp} {Q : Bool → Hp → Prop} {w : Wd} {m : Mem} {e : Ev} {r : Out Bool} (g : Good X.K w H m) (ev : EvR X.K w H e σ) (h : bnd (p e m) k = some r) (q : PostT X W σ w H Q r)
    {R : Bool → Hp → Prop} (hk : ∀ d m1 w1 H1, k d m1 = some r → Good X.K w1 H1 m1 → Ext X.K w H w1 H1 → EvR X.K w1 H1 e σ → PostT X W σ w1 H1 Q r → R d H1) : tT X W p σ H R := by
  cases hp : p e m with
  | none => rw [hp] at h; cases h
  | some o =>
    rw [hp] at h
    cases o with
    | ok d m1 => exact ⟨w, m, e, _, g, ev, hp, fun w1 H1 g1 x1 => hk d m1 w1 H1 h g1 x1 (ev.mono x1) (q.ext x1)⟩
    | exc c m1 =>
      have h : some (Out.exc c m1) = some r := h
      cases h
      exact ⟨w, m, e, _, g, ev, hp, q⟩

/-! ### names, constants -/
def pVar (i : Nat) : PEF := fun e m => match e[i]? with
  | some (some d) => some (.ok d m)
  | _ => none
def pC (d : D) : PEF := fun _ m => some (.ok d m)
section
variable {X : Cx} {W : WX}
theorem me_var (i : Nat) {x : Str} {pos : Pos} (hN : X.N[i]? = some x := by rfl) (hv : Vis X.env.scope x := by first | exact Or.inl rfl | exact Or.inr (Or.inl rfl) | exact Or.inr (Or.inr rfl)) (hd : (x == ("__debug__" : Str)) = false := by decide)
    (hcd : (x == ("__classdict__" : Str)) = false := by decide) : ME X W (.Name x pos) (pVar i) := by
  refine PE.imp (pe_var hN hv hd hcd) fun σ H Q ⟨w, m, e, r, g, ev, h, q⟩ => ?_
  unfold pVar at h
  split at h
  · rename_i d hd
    cases h
    obtain ⟨v, h1, h2⟩ := ev.2 i d hd
    exact ⟨v, h1, q.now g h2⟩
  · cases h
theorem me_const {e : Expr} {v : V} {d : D} (h : PE X e (tC v)) (hr : ∀ w H, Rep X.K w H d v) : ME X W e (pC d) :=
  PE.imp h fun σ H Q ⟨w, m, ev, r, g, _, h, q⟩ => by
    cases h
    exact q.now g (hr w H)
theorem me_int {i : Int} {j} {pos : Pos} : ME X W (.Constant (.int i) j pos) (pC (.int i)) := me_const pe_int fun _ _ => by simp only [Rep]
theorem me_bl {b : Bool} {j} {pos : Pos} : ME X W (.Constant (.bool b) j pos) (pC (.bl b)) := me_const pe_bl fun _ _ => by simp only [Rep]
theorem me_non {j} {pos : Pos} : ME X W (.Constant .none j pos) (pC .non) := me_const pe_non fun _ _ => by simp only [Rep]
theorem me_str {x : Str} {j} {pos : Pos} : ME X W (.Constant (.str x) j pos) (pC (.str x)) := me_const pe_str fun _ _ => by simp only [Rep]
/-- a module's constant -/
theorem me_glob {x : Str} {v : V} {u : Value} {d : D} {pos : Pos} (hg : Gl X x) (hm : X.mg x = some u) (r : RelV v u) (hr : ∀ w H, Rep X.K w H d v) (hd : (x == ("__debug__" : Str)) = false := by decide) : ME X W (.Name x pos) (pC d) := me_const (pe_glob hg hm r hd) hr
end

/-! ### operators on values -/
def SL : Nat := 16777216
theorem SL_eq : SL = sizeLine := by rw [sizeLine_eq]; rfl
/-- the items of a list -/
def asL (m : Mem) : D → Option (List D)
  | .lst l => some l
  | .ro l => some l
  | .loc i => match m[i]? with
    | some (.lst l) => some l
    | some (.frz l) => some l
    | none => none
  | _ => none
/-- .. of one that is no locked one -/
def asH (m : Mem) : D → Option (List D)
  | .lst l => some l
  | .loc i => match m[i]? with
    | some (.lst l) => some l
    | some (.frz l) => some l
    | none => none
  | _ => none
def asT : D → Option (List D)
  | .tup l => some l
  | _ => none
section
variable {K : PySem.W.Frag} {w : Wd} {H : Hp} {m : Mem} {d : D} {v : V} {l : List D}
theorem asH_rep (g : Good K w H m) (r : Rep K w H d v) (h : asH m d = some l) : ∃ a xs, v = .ref a ∧ H a = some (.lst xs) ∧ RepL K w H l xs := by
  cases d with
  | lst l' =>
    cases h
    simp only [Rep] at r
    obtain ⟨a, xs, r1, _, r2, r3⟩ := r
    exact ⟨a, xs, r1, r2, r3⟩
  | loc i =>
    simp only [Rep] at r
    obtain ⟨a, r1, r2⟩ := r
    obtain ⟨c, hc⟩ := g.cell r2
    have q := g.at' i c a hc r2
    simp only [asH, hc] at h
    cases c with
    | lst l' =>
      cases h
      obtain ⟨_, xs, q1, q2⟩ := q
      exact ⟨a, xs, r1, q1, q2⟩
    | frz l' =>
      cases h
      obtain ⟨_, xs, q1, q2⟩ := q
      exact ⟨a, xs, r1, q1, q2⟩
  | _ => cases h
theorem asL_rep (g : Good K w H m) (r : Rep K w H d v) (h : asL m d = some l) : ∃ a xs, v = .ref a ∧ SqL K H a xs ∧ RepL K w H l xs := by
  cases d with
  | ro l' =>
    cases h
    simp only [Rep] at r
    obtain ⟨a, xs, r1, r2, r3⟩ := r
    exact ⟨a, xs, r1, r2.sq, r3⟩
  | lst l' =>
    obtain ⟨a, xs, r1, r2, r3⟩ := asH_rep g r (l := l) (by cases h; rfl)
    exact ⟨a, xs, r1, SqL.of r2, r3⟩
  | loc i =>
    obtain ⟨a, xs, r1, r2, r3⟩ := asH_rep g r (l := l) h
    exact ⟨a, xs, r1, SqL.of r2, r3⟩
  | _ => cases h
theorem asT_rep (r : Rep K w H d v) (h : asT d = some l) : ∃ a xs, v = .ref a ∧ SqT K H a xs ∧ RepL K w H l xs := by
  cases d with
  | tup l' => cases h; simp only [Rep] at r; exact r
  | _ => cases h
theorem rep_int {i : Int} (r : Rep K w H (.int i) v) : v = .int i := by simpa only [Rep] using r
theorem rep_bl {i : Bool} (r : Rep K w H (.bl i) v) : v = .bl i := by simpa only [Rep] using r
theorem rep_str {i : Str} (r : Rep K w H (.str i) v) : v = .str i := by simpa only [Rep] using r
theorem rep_non (r : Rep K w H .non v) : v = .non := by simpa only [Rep] using r
theorem rep_tup {a : Addr} {xs : List V} (t : SqT K H a xs) (r : RepL K w H l xs) : Rep K w H (.tup l) (.ref a) := by
  simp only [Rep]
  exact ⟨a, xs, rfl, t, r⟩
/-- a new tuple -/
theorem new_tup {p : Addr} {xs : List V} (g : Good K w H m) (hp : H p = none) (r : RepL K w H l xs) : Rep K w (upd H p (.tup xs)) (.tup l) (.ref p) := rep_tup (SqT.of upd_same) (r.mono (Ext.new g hp))
theorem new_lst {p : Addr} {xs : List V} (g : Good K w H m) (hp : H p = none) (r : RepL K w H l xs) : Rep K (w.fzn p) (upd H p (.lst xs)) (.lst l) (.ref p) := by
  simp only [Rep]
  exact ⟨p, xs, rfl, .inl rfl, upd_same, r.mono ((Ext.new g hp).trans Ext.fzn)⟩
end

abbrev VK2 := D → D → Mem → Option D
/-- a two-place operator by plain data -/
def r2of (X : Cx) (o : VK2) : R2 := fun x y H Q => ∃ w m d e r, Good X.K w H m ∧ Rep X.K w H d x ∧ Rep X.K w H e y ∧ o d e m = some r ∧ ∀ w' v H', Good X.K w' H' m → Ext X.K w H w' H' → Rep X.K w' H' r v → Q v H'
def lift1 (r : Option D) (m : Mem) : Option (Out D) := match r with
  | some d => some (.ok d m)
  | none => none
def pBin (o : VK2) (p q : PEF) : PEF := fun e m => bnd (p e m) fun a m1 => bnd (q e m1) fun b m2 => lift1 (o a b m2) m2
theorem lift1_some {r : Option D} {m : Mem} {o : Out D} (h : lift1 r m = some o) : ∃ d, r = some d ∧ o = .ok d m := by
  cases r with
  | none => cases h
  | some d => cases h; exact ⟨d, rfl, rfl⟩
section
variable {X : Cx} {W : WX} {a b c : Expr} {p q p' : PEF} {pos : Pos}
theorem tOp_of {o : VK2} {σ : L2.St} {H : Hp} {Q : VK} (h : tM X W (pBin o p q) σ H Q) : tOp (r2of X o) (tM X W p) (tM X W q) σ H Q := by
  obtain ⟨w, m, e, r, g, ev, h, qq⟩ := h
  refine tM_bnd g ev h qq fun d1 m1 w1 v1 H1 h1 g1 x1 r1 ev1 q1 => ?_
  refine tM_bnd g1 ev1 h1 q1 fun d2 m2 w2 v2 H2 h2 g2 x2 r2 ev2 q2 => ?_
  obtain ⟨d, hd, rfl⟩ := lift1_some h2
  exact ⟨w2, m2, d1, d2, d, g2, r1.mono x2, r2, hd, q2⟩
theorem me_bin {op : Operator} {o : VK2} (ho : OpR X (binaryOp op) (r2of X o)) (ha : ME X W a p) (hb : ME X W b q) : ME X W (.BinOp a op b pos) (pBin o p q) :=
  PE.imp (pe_op ho ha hb) fun _ _ _ h => tOp_of h
theorem me_cmp {op : CmpOp} {o : VK2} (ho : OpR X (compareOp op) (r2of X o)) (ha : ME X W a p) (hb : ME X W b q) (hm : behindInMarks op b = false) : ME X W (.Compare a [op] [b] pos) (pBin o p q) :=
  PE.imp (pe_cmpR ho ha hb hm) fun _ _ _ h => tOp_of h
end

def oAdd : VK2 := fun a b m => match a, b with
  | .int i, .int j => some (.int (i + j))
  | .int i, .bl k => some (.int (i + b2i k))
  | .str x, .str y => if x.length + y.length ≤ SL then some (.str (x ++ y)) else none
  | .tup l, .tup r => if l.length + r.length ≤ SL then some (.tup (l ++ r)) else none
  | a, b => match asH m a, asH m b with
    | some l, some r => if l.length + r.length ≤ SL then some (.lst (l ++ r)) else none
    | _, _ => none
section
variable {X : Cx}
theorem add_tup {pins : List (Addr × Obj)} {s : Shared} {σ : L2.St} {H : Hp} {x y : V} {v u : Value} {Q : VK} {w : Wd} {m : Mem} {l r : List D} (I : Inv X pins σ H s) (rx : RelV x v) (ry : RelV y u)
    (g : Good X.K w H m) (hx : Rep X.K w H (.tup l) x) (hy : Rep X.K w H (.tup r) y) (hz : l.length + r.length ≤ SL) (q : ∀ w' v H', Good X.K w' H' m → Ext X.K w H w' H' → Rep X.K w' H' (.tup (l ++ r)) v → Q v H') :
    wpAny (model X.prog X.w) X.A (binaryOp .Add v u) (EP X pins σ Q) X.xe s := by
  obtain ⟨a, xs, rfl, ha, hl⟩ := asT_rep hx rfl
  obtain ⟨b, ys, rfl, hb, hr⟩ := asT_rep hy rfl
  refine op_catA pins s σ H _ _ v u Q I rx ry ⟨a, b, xs, ys, rfl, rfl, ha, hb, by rw [hl.len, hr.len, ← SL_eq]; exact hz, fun e => ?_, fun _ e => ?_, fun _ _ p hp => ?_⟩
  · subst e
    have : l = [] := by cases l with
      | nil => rfl
      | cons d l => obtain ⟨_, _, e, _⟩ := RepL.cons_iff.mp hl; cases e
    subst this
    exact q w _ H g Ext.refl hy
  · subst e
    have : r = [] := by cases r with
      | nil => rfl
      | cons d l => obtain ⟨_, _, e, _⟩ := RepL.cons_iff.mp hr; cases e
    subst this
    rw [List.append_nil] at q
    exact q w _ H g Ext.refl hx
  · exact q w _ _ (g.new hp) (Ext.new g hp) (new_tup g hp (hl.append hr))
theorem add_lst {pins : List (Addr × Obj)} {s : Shared} {σ : L2.St} {H : Hp} {x y : V} {v u : Value} {Q : VK} {w : Wd} {m : Mem} {d e : D} {l r : List D} (I : Inv X pins σ H s) (rx : RelV x v) (ry : RelV y u)
    (g : Good X.K w H m) (hx : Rep X.K w H d x) (hy : Rep X.K w H e y) (hl : asH m d = some l) (hr : asH m e = some r) (hz : l.length + r.length ≤ SL) (q : ∀ w' v H', Good X.K w' H' m → Ext X.K w H w' H' → Rep X.K w' H' (.lst (l ++ r)) v → Q v H') :
    wpAny (model X.prog X.w) X.A (binaryOp .Add v u) (EP X pins σ Q) X.xe s := by
  obtain ⟨a, xs, rfl, ha, hl⟩ := asH_rep g hx hl
  obtain ⟨b, ys, rfl, hb, hr⟩ := asH_rep g hy hr
  refine op_cat pins s σ H _ _ v u Q I rx ry ⟨a, b, xs, ys, rfl, rfl, ha, hb, by rw [hl.len, hr.len, ← SL_eq]; exact hz, fun p hp => ?_⟩
  exact q (w.fzn p) _ _ (g.newF hp) ((Ext.new g hp).trans Ext.fzn) (new_lst g hp (hl.append hr))
theorem op_oAdd : OpR X (binaryOp .Add) (r2of X oAdd) := by
  intro pins s σ H x y v u Q I rx ry h
  obtain ⟨w, m, d, e, r, g, hx, hy, h, q⟩ := h
  unfold oAdd at h
  split at h
  · obtain rfl := rep_int hx
    obtain rfl := rep_int hy
    cases h
    exact op_add pins s σ H _ _ v u Q I rx ry ⟨_, _, rfl, rfl, q w _ H g Ext.refl (by simp only [Rep])⟩
  · obtain rfl := rep_int hx
    obtain rfl := rep_bl hy
    cases h
    exact op_add_ib pins s σ H _ _ v u Q I rx ry ⟨_, _, rfl, rfl, q w _ H g Ext.refl (by simp only [Rep])⟩
  · obtain rfl := rep_str hx
    obtain rfl := rep_str hy
    split at h
    · rename_i hz
      cases h
      exact op_add_str pins s σ H _ _ v u Q I rx ry ⟨_, _, rfl, rfl, by rw [← SL_eq]; exact hz, q w _ H g Ext.refl (by simp only [Rep])⟩
    · cases h
  · split at h
    · rename_i hz
      cases h
      exact add_tup I rx ry g hx hy hz q
    · cases h
  · split at h
    · rename_i l r hl hr
      split at h
      · rename_i hz
        cases h
        exact add_lst I rx ry g hx hy hl hr hz q
      · cases h
    · cases h
end

def oSub : VK2 := fun a b _ => match a, b with
  | .int i, .int j => some (.int (i - j))
  | _, _ => none
section
variable {X : Cx}
theorem op_oSub : OpR X (binaryOp .Sub) (r2of X oSub) := by
  intro pins s σ H x y v u Q I rx ry h
  obtain ⟨w, m, d, e, r, g, hx, hy, h, q⟩ := h
  unfold oSub at h
  split at h
  · obtain rfl := rep_int hx
    obtain rfl := rep_int hy
    cases h
    exact op_sub pins s σ H _ _ v u Q I rx ry ⟨_, _, rfl, rfl, q w _ H g Ext.refl (by simp only [Rep])⟩
  · cases h
end
end Z

set_option maxRecDepth 100000
set_option maxHeartbeats 4000000
set_option autoImplicit false
namespace Z
open PySem PySem.Spec PyProof.Rows L2

/-! ### more operators -/
def oSub2 : VK2 := fun a b _ => match a, b with
  | .int i, .int j => some (.int (i - j))
  | .bl i, .bl j => some (.int (b2i i - b2i j))
  | _, _ => none
def mulFits (i j : Int) : Bool := decide (i.natAbs < 18446744073709551616) || decide (j.natAbs < 18446744073709551616) || decide (i.natAbs.log2 + j.natAbs.log2 < 1000000)
theorem mulFits.ok {i j : Int} (h : mulFits i j = true) : IntMulOk i j := by
  unfold mulFits at h
  rw [Bool.or_eq_true, Bool.or_eq_true] at h
  rcases h with (h | h) | h
  · have h := of_decide_eq_true h
    exact CMul.ok (.inl (by omega))
  · have h := of_decide_eq_true h
    exact CMul.ok (.inr (by omega))
  · have h := of_decide_eq_true h
    exact CMulW.ok h
def divFits (j : Int) : Bool := decide (j ≠ 0) && decide (j.natAbs.log2 < 9000)
def oRepT (l : List D) (k : Int) : Option D := if k ≤ 1000 ∧ l.length ≤ 1000 then some (.tup (List.replicate k.toNat l).flatten) else none
def oMul : VK2 := fun a b m => match a, b with
  | .int i, .int j => if mulFits i j then some (.int (i * j)) else none
  | .tup l, .int k => if -(2 ^ 63) ≤ k ∧ k ≤ 1000 ∧ l.length ≤ 1000 then some (.tup (List.replicate k.toNat l).flatten) else none
  | .str x, .int k => if 0 ≤ k ∧ k ≤ 100000 ∧ x.length ≤ 100 then some (.str (Txt.mul x k)) else none
  | a, .int k => match asH m a with
    | some l => if -(2 ^ 63) ≤ k ∧ k < 2 ^ 63 ∧ l.length * k.toNat ≤ SL then some (.lst (List.replicate k.toNat l).flatten) else none
    | none => none
  | _, _ => none
def oDiv : VK2 := fun a b _ => match a, b with
  | .int i, .int j => if divFits j then some (.int (i.fdiv j)) else none
  | _, _ => none
def oMod : VK2 := fun a b _ => match a, b with
  | .int i, .int j => if j ≠ 0 then some (.int (i.fmod j)) else none
  | _, _ => none
def oPow : VK2 := fun a b _ => match a, b with
  | .int i, .int j => if 0 ≤ j ∧ j ≤ 1000000 ∧ i.natAbs < 2 ^ 64 then some (.int (i ^ j.toNat)) else none
  | _, _ => none
section
variable {X : Cx}
theorem rel_int {i : Int} {v : Value} (r : RelV (.int i) v) : ∃ t, v = .int i t := r
theorem op_oSub2 : OpR X (binaryOp .Sub) (r2of X oSub2) := by
  intro pins s σ H x y v u Q I rx ry h
  obtain ⟨w, m, d, e, r, g, hx, hy, h, q⟩ := h
  unfold oSub2 at h
  split at h
  · obtain rfl := rep_int hx
    obtain rfl := rep_int hy
    cases h
    exact op_sub pins s σ H _ _ v u Q I rx ry ⟨_, _, rfl, rfl, q w _ H g Ext.refl (by simp only [Rep])⟩
  · obtain rfl := rep_bl hx
    obtain rfl := rep_bl hy
    cases h
    cases rx
    cases ry
    exact PyProof.Rows.sub_bool ⟨.int _, H, I.tok _, ⟨_, rfl⟩, q w _ H g Ext.refl (by simp only [Rep])⟩
  · cases h
theorem rel_of_int2 {pins : List (Addr × Obj)} {s : Shared} {σ : L2.St} {H : Hp} {Q : VK} {i : Int} {w : Wd} {m : Mem} (I : Inv X pins σ H s) (g : Good X.K w H m) (q : ∀ w' v H', Good X.K w' H' m → Ext X.K w H w' H' → Rep X.K w' H' (.int i) v → Q v H') :
    EP X pins σ Q (.int i s.toks) { s with toks := s.toks + 1 } := ⟨.int i, H, I.tok _, ⟨_, rfl⟩, q w _ H g Ext.refl (by simp only [Rep])⟩
theorem rep_flat {K : PySem.W.Frag} {w : Wd} {H : Hp} {l : List D} {xs : List V} (h : RepL K w H l xs) : ∀ k : Nat, RepL K w H (List.replicate k l).flatten (List.replicate k xs).flatten
  | 0 => RepL.nil
  | k + 1 => by
    rw [List.replicate_succ, List.replicate_succ, List.flatten_cons, List.flatten_cons]
    exact h.append (rep_flat h k)
/-- t * 0, t * 1, () * k -/
theorem tuple_mul1 (l : Addr) (items : Array Value) (n : Nat) (dd : Option Addr) (sl : Array (Option Value)) (x : Int) (u : Tok) (c0 : (decide (x < -(2 ^ 63)) || decide (x ≥ 2 ^ 63)) = false) (c1 : (items.isEmpty || x == 1) = true) :
    Meets (Builtin.«tuple.__mul__» ⟨[.ref l, .int x u], []⟩) (fun _ R s => s.heap.get? l = some { cls := .type "tuple", dict := dd, data := .seq items n, slots := sl } ∧ R (.ok (.ret (Value.ref l))) s) :=
  .of_wp fun prog w A R s h => by
    obtain ⟨hp, g, d, tk, os⟩ := s
    obtain ⟨hl, h⟩ := h
    have f1 := AutoSeq1.idx_int
    wp_walk using wpAny_loadPart' hl
    repeat (first
      | (refine wpAny_ite_false (decide_eq_false (by rw [c0]; exact Bool.false_ne_true)) ?_; wp_walk using wpAny_loadPart' hl)
      | (refine wpAny_ite_true (decide_eq_true (by rw [c1])) ?_; wp_walk using wpAny_loadPart' hl))
    exact ⟨_, rfl, h⟩
theorem tuple_mul0 (l : Addr) (items : Array Value) (n : Nat) (dd : Option Addr) (sl : Array (Option Value)) (x : Int) (u : Tok) (c0 : (decide (x < -(2 ^ 63)) || decide (x ≥ 2 ^ 63)) = false) (c1 : (items.isEmpty || x == 1) = false) (c2 : (decide (x ≤ 0) || items.isEmpty) = true) :
    Meets (Builtin.«tuple.__mul__» ⟨[.ref l, .int x u], []⟩) (fun _ R s => s.heap.get? l = some { cls := .type "tuple", dict := dd, data := .seq items n, slots := sl } ∧
      R (.ok (.ret (Value.ref s.heap.objs.size))) { s with heap := s.heap.push { cls := Value.type "tuple", data := Data.seq #[] }, toks := s.toks }) :=
  .of_wp fun prog w A R s h => by
    obtain ⟨hp, g, d, tk, os⟩ := s
    obtain ⟨hl, h⟩ := h
    have f1 := AutoSeq1.idx_int
    wp_walk using wpAny_loadPart' hl
    repeat (first
      | (refine wpAny_ite_false (decide_eq_false (by rw [c0]; exact Bool.false_ne_true)) ?_; wp_walk using wpAny_loadPart' hl)
      | (refine wpAny_ite_false (decide_eq_false (by rw [c1]; exact Bool.false_ne_true)) ?_; wp_walk using wpAny_loadPart' hl)
      | (refine wpAny_ite_true (decide_eq_true (by rw [c2])) ?_; wp_walk using wpAny_loadPart' hl))
    exact ⟨_, rfl, h⟩
theorem mul_tup {pins : List (Addr × Obj)} {s : Shared} {σ : L2.St} {H : Hp} {x : V} {v u : Value} {Q : VK} {w : Wd} {m : Mem} {l : List D} {k : Int} (I : Inv X pins σ H s) (rx : RelV x v) (ry : RelV (.int k) u)
    (g : Good X.K w H m) (hx : Rep X.K w H (.tup l) x) (hk : -(2 ^ 63) ≤ k ∧ k ≤ 1000 ∧ l.length ≤ 1000) (q : ∀ w' v H', Good X.K w' H' m → Ext X.K w H w' H' → Rep X.K w' H' (.tup (List.replicate k.toNat l).flatten) v → Q v H') :
    wpAny (model X.prog X.w) X.A (binaryOp .Mult v u) (EP X pins σ Q) X.xe s := by
  obtain ⟨h0, h1, h2⟩ := hk
  obtain ⟨a, xs, rfl, ha, hl⟩ := asT_rep hx rfl
  have hlen := hl.len
  by_cases big : 2 ≤ k ∧ xs ≠ []
  · exact op_repT pins s σ H _ _ v u Q I rx ry ⟨a, k, xs, rfl, rfl, ha, big.2, big.1, h1, by omega, fun p hp => q w _ _ (g.new hp) (Ext.new g hp) (new_tup g hp (rep_flat hl _))⟩
  · cases rx
    obtain ⟨t, rfl⟩ := ry
    obtain ⟨its, r, ⟨⟨cls, dd, data, sl⟩, ho, hc, n, hd⟩, hs⟩ := I.tuple ha
    simp only at hc hd
    subst hc hd
    have hle : its.length = xs.length := r.length.symm
    have c0 : (decide (k < -(2 ^ 63)) || decide (k ≥ 2 ^ 63)) = false := by
      rw [decide_eq_false (by omega), decide_eq_false (by omega)] <;> rfl
    by_cases same : (its.toArray.isEmpty || k == 1) = true
    · refine wpAny_binaryOp_repeat_ref (T := "tuple") (U := "int") (by decide) ⟨_, ho, rfl⟩ (fun s' => typeIs_int s' k t) noFill_tuple_mul F.fills_int_mul F.slot_int_rmul repeat_tuple F.slot_int_index.lookup
        (call_meets F.slot_int_rmul (typeIs_int s k t) F.entry_int_rmul (F.args_int_rmul_2 _ _) (int_rmul_tuple k t a its.toArray n dd sl)
          ⟨ho, rfl, ⟨_, ho, rfl⟩, call_meets F.slot_tuple_mul ⟨_, ho, rfl⟩ F.entry_tuple_mul (F.args_tuple_mul_2 _ _) (tuple_mul1 a its.toArray n dd sl k t c0 same) ⟨ho, ?_⟩⟩)
      have e : (List.replicate k.toNat l).flatten = l := by
        rw [Bool.or_eq_true] at same
        rcases same with e | e
        · have : its = [] := by simpa using e
          rw [this] at hle
          have : l = [] := List.eq_nil_of_length_eq_zero (by rw [← hlen, ← hle]; rfl)
          subst this
          clear h0 h1 h2 q
          induction k.toNat with
          | zero => rfl
          | succ n ih => rw [List.replicate_succ, List.flatten_cons, ih]; rfl
        · have : k = 1 := by simpa using e
          subst this
          show (List.replicate 1 l).flatten = l
          rw [List.replicate_one, List.flatten_singleton]
      rw [e] at q
      exact ⟨.ref a, H, I, rfl, q w _ H g Ext.refl hx⟩
    · have same : (its.toArray.isEmpty || k == 1) = false := by simpa using same
      have hne : its.toArray.isEmpty = false := (Bool.or_eq_false_iff.mp same).1
      have hk1 : k ≠ 1 := by simpa using (Bool.or_eq_false_iff.mp same).2
      have hxs : xs ≠ [] := fun z => by
        subst z
        have : its = [] := List.eq_nil_of_length_eq_zero hle
        rw [this] at hne
        cases hne
      have hk0 : k ≤ 0 := by
        have : ¬ 2 ≤ k := fun z => big ⟨z, hxs⟩
        omega
      refine wpAny_binaryOp_repeat_ref (T := "tuple") (U := "int") (by decide) ⟨_, ho, rfl⟩ (fun s' => typeIs_int s' k t) noFill_tuple_mul F.fills_int_mul F.slot_int_rmul repeat_tuple F.slot_int_index.lookup
        (call_meets F.slot_int_rmul (typeIs_int s k t) F.entry_int_rmul (F.args_int_rmul_2 _ _) (int_rmul_tuple k t a its.toArray n dd sl)
          ⟨ho, rfl, ⟨_, ho, rfl⟩, call_meets F.slot_tuple_mul ⟨_, ho, rfl⟩ F.entry_tuple_mul (F.args_tuple_mul_2 _ _) (tuple_mul0 a its.toArray n dd sl k t c0 same (by rw [decide_eq_true hk0]; rfl)) ⟨ho, ?_⟩⟩)
      have e : k.toNat = 0 := by omega
      rw [e] at q
      have hp : H s.heap.objs.size = none := I.hok.fresh (Nat.le_refl _)
      refine ⟨.ref s.heap.objs.size, _, I.laid (t' := s.toks) (o := .tup []) (fun b ob q => Heap.get?_push_of_some _ q) (Nat.le_refl _) ?_, rfl, q w _ _ (g.new hp) (Ext.new g hp) (new_tup g hp RepL.nil)⟩
      exact ⟨Nat.zero_le _, [], .nil, IsTup.new _ _⟩
theorem op_oMul : OpR X (binaryOp .Mult) (r2of X oMul) := by
  intro pins s σ H x y v u Q I rx ry h
  obtain ⟨w, m, d, e, r, g, hx, hy, h, q⟩ := h
  unfold oMul at h
  split at h
  · obtain rfl := rep_int hx
    obtain rfl := rep_int hy
    split at h
    · rename_i hf
      cases h
      obtain ⟨t, rfl⟩ := rel_int rx
      obtain ⟨t', rfl⟩ := rel_int ry
      exact mul_int (rel_of_int2 I g q) (mulFits.ok hf)
    · cases h
  · obtain rfl := rep_int hy
    split at h
    · rename_i hf
      cases h
      exact mul_tup I rx ry g hx hf q
    · cases h
  · obtain rfl := rep_str hx
    obtain rfl := rep_int hy
    split at h
    · rename_i z k hf
      cases h
      obtain ⟨t, rfl⟩ := rx
      obtain ⟨t', rfl⟩ := ry
      obtain ⟨f0, f1, f2⟩ := hf
      have hm : z.length * k.toNat ≤ 100 * 100000 := Nat.mul_le_mul f2 (by omega)
      refine SB.mul ⟨by rw [decide_eq_false (by omega), decide_eq_false (by omega)] <;> rfl, fun h1 _ => ?_, fun h1 _ => ?_⟩ fun t' k' => ⟨.str _, H, I.tok _, ⟨_, rfl⟩, q w _ H g Ext.refl (by simp only [Rep])⟩
      · have : (100 : Int) ≤ (2 ^ 63 - 1) / k := by
          apply Int.le_ediv_of_mul_le (by omega)
          omega
        omega
      · exact decide_eq_false (by rw [sizeLine_eq]; omega)
    · cases h
  · obtain rfl := rep_int hy
    split at h
    · rename_i l hl
      split at h
      · rename_i hf
        cases h
        obtain ⟨a, xs, rfl, ha, hr⟩ := asH_rep g hx hl
        refine op_rep pins s σ H _ _ v u Q I rx ry ⟨a, _, xs, rfl, rfl, ha, hf.1, hf.2.1, by rw [hr.len, ← SL_eq]; exact hf.2.2, fun p hp => ?_⟩
        exact q (w.fzn p) _ _ (g.newF hp) ((Ext.new g hp).trans Ext.fzn) (new_lst g hp (rep_flat hr _))
      · cases h
    · cases h
  · cases h
theorem op_oDiv : OpR X (binaryOp .FloorDiv) (r2of X oDiv) := by
  intro pins s σ H x y v u Q I rx ry h
  obtain ⟨w, m, d, e, r, g, hx, hy, h, q⟩ := h
  unfold oDiv at h
  split at h
  · obtain rfl := rep_int hx
    obtain rfl := rep_int hy
    split at h
    · rename_i hf
      cases h
      obtain ⟨t, rfl⟩ := rel_int rx
      obtain ⟨t', rfl⟩ := rel_int ry
      unfold divFits at hf
      rw [Bool.and_eq_true] at hf
      exact floordiv_int (of_decide_eq_true hf.1) (rel_of_int2 I g q) (.inl (PyProof.noPylong_of_log2 (of_decide_eq_true hf.2)))
    · cases h
  · cases h
theorem op_oMod : OpR X (binaryOp .Mod) (r2of X oMod) := by
  intro pins s σ H x y v u Q I rx ry h
  obtain ⟨w, m, d, e, r, g, hx, hy, h, q⟩ := h
  unfold oMod at h
  split at h
  · obtain rfl := rep_int hx
    obtain rfl := rep_int hy
    split at h
    · rename_i hf
      cases h
      obtain ⟨t, rfl⟩ := rel_int rx
      obtain ⟨t', rfl⟩ := rel_int ry
      exact mod_int' hf (rel_of_int2 I g q)
    · cases h
  · cases h
theorem op_oPow : OpR X (binaryOp .Pow) (r2of X oPow) := by
  intro pins s σ H x y v u Q I rx ry h
  obtain ⟨w, m, d, e, r, g, hx, hy, h, q⟩ := h
  unfold oPow at h
  split at h
  · obtain rfl := rep_int hx
    obtain rfl := rep_int hy
    split at h
    · rename_i hf
      cases h
      exact op_pow pins s σ H _ _ v u Q I rx ry ⟨_, _, rfl, rfl, hf, q w _ H g Ext.refl (by simp only [Rep])⟩
    · cases h
  · cases h
/-! in place: ints alone -/
def oIAdd : VK2 := fun a b _ => match a, b with
  | .int i, .int j => some (.int (i + j))
  | .str x, .str y => if x.length + y.length ≤ SL then some (.str (x ++ y)) else none
  | _, _ => none
def oIMul : VK2 := fun a b _ => match a, b with
  | .int i, .int j => if mulFits i j then some (.int (i * j)) else none
  | _, _ => none
theorem op_oIAdd : OpR X (inplaceOp .Add) (r2of X oIAdd) := by
  intro pins s σ H x y v u Q I rx ry h
  obtain ⟨w, m, d, e, r, g, hx, hy, h, q⟩ := h
  unfold oIAdd at h
  split at h
  · obtain rfl := rep_int hx
    obtain rfl := rep_int hy
    cases h
    obtain ⟨t, rfl⟩ := rel_int rx
    obtain ⟨t', rfl⟩ := rel_int ry
    exact iadd_int (rel_of_int2 I g q)
  · obtain rfl := rep_str hx
    obtain rfl := rep_str hy
    split at h
    · rename_i hz
      cases h
      exact iop_add_str pins s σ H _ _ v u Q I rx ry ⟨_, _, rfl, rfl, by rw [← SL_eq]; exact hz, q w _ H g Ext.refl (by simp only [Rep])⟩
    · cases h
  · cases h
theorem op_oISub : OpR X (inplaceOp .Sub) (r2of X oSub) := by
  intro pins s σ H x y v u Q I rx ry h
  obtain ⟨w, m, d, e, r, g, hx, hy, h, q⟩ := h
  unfold oSub at h
  split at h
  · obtain rfl := rep_int hx
    obtain rfl := rep_int hy
    cases h
    obtain ⟨t, rfl⟩ := rel_int rx
    obtain ⟨t', rfl⟩ := rel_int ry
    exact isub_int (rel_of_int2 I g q)
  · cases h
theorem op_oIMul : OpR X (inplaceOp .Mult) (r2of X oIMul) := by
  intro pins s σ H x y v u Q I rx ry h
  obtain ⟨w, m, d, e, r, g, hx, hy, h, q⟩ := h
  unfold oIMul at h
  split at h
  · obtain rfl := rep_int hx
    obtain rfl := rep_int hy
    split at h
    · rename_i hf
      cases h
      obtain ⟨t, rfl⟩ := rel_int rx
      obtain ⟨t', rfl⟩ := rel_int ry
      exact PyProof.Rows.imul_int (rel_of_int2 I g q) (mulFits.ok hf)
    · cases h
  · cases h
theorem op_oIDiv : OpR X (inplaceOp .FloorDiv) (r2of X oDiv) := by
  intro pins s σ H x y v u Q I rx ry h
  obtain ⟨w, m, d, e, r, g, hx, hy, h, q⟩ := h
  unfold oDiv at h
  split at h
  · obtain rfl := rep_int hx
    obtain rfl := rep_int hy
    split at h
    · rename_i hf
      cases h
      obtain ⟨t, rfl⟩ := rel_int rx
      obtain ⟨t', rfl⟩ := rel_int ry
      unfold divFits at hf
      rw [Bool.and_eq_true] at hf
      exact ifloordiv_int (of_decide_eq_true hf.1) (rel_of_int2 I g q) (.inl (PyProof.noPylong_of_log2 (of_decide_eq_true hf.2)))
    · cases h
  · cases h
theorem op_oIMod : OpR X (inplaceOp .Mod) (r2of X oMod) := by
  intro pins s σ H x y v u Q I rx ry h
  obtain ⟨w, m, d, e, r, g, hx, hy, h, q⟩ := h
  unfold oMod at h
  split at h
  · obtain rfl := rep_int hx
    obtain rfl := rep_int hy
    split at h
    · rename_i hf
      cases h
      obtain ⟨t, rfl⟩ := rel_int rx
      obtain ⟨t', rfl⟩ := rel_int ry
      exact imod_int hf (rel_of_int2 I g q)
    · cases h
  · cases h
end
end Z

set_option maxRecDepth 100000
set_option maxHeartbeats 4000000
set_option autoImplicit false
namespace Z
open PySem PySem.Spec PyProof.Rows L2

/-! ### comparisons -/
mutual
def toPy : D → Option PyData
  | .non => some .none
  | .bl b => some (.bool b)
  | .int i => some (.int i)
  | .str s => some (.str s)
  | .tup l => match toPyL l with
    | some l => some (.tuple l)
    | none => none
  | .lst l => match toPyL l with
    | some l => some (.list l)
    | none => none
  | .ro l => match toPyL l with
    | some l => some (.list l)
    | none => none
  | .loc _ => none
def toPyL : List D → Option (List PyData)
  | [] => some []
  | d :: l => match toPy d, toPyL l with
    | some d, some l => some (d :: l)
    | _, _ => none
end
mutual
theorem toPy_dp {K : PySem.W.Frag} {w : Wd} {H : Hp} : ∀ {d : D} {v : V} {p : PyData}, Rep K w H d v → toPy d = some p → Dp K H v p
  | .non, _, _, r, h => by simp only [Rep] at r; subst r; simp only [toPy] at h; cases h; exact .non
  | .bl b, _, _, r, h => by simp only [Rep] at r; subst r; simp only [toPy] at h; cases h; exact .bl b
  | .int b, _, _, r, h => by simp only [Rep] at r; subst r; simp only [toPy] at h; cases h; exact .int b
  | .str b, _, _, r, h => by simp only [Rep] at r; subst r; simp only [toPy] at h; cases h; exact .str b
  | .tup l, _, _, r, h => by
    simp only [Rep] at r
    obtain ⟨a, xs, rfl, t, q⟩ := r
    simp only [toPy] at h
    split at h
    · rename_i l' hl
      cases h
      exact .tup t (toPy_dpL q hl)
    · cases h
  | .lst l, _, _, r, h => by
    simp only [Rep] at r
    obtain ⟨a, xs, rfl, _, t, q⟩ := r
    simp only [toPy] at h
    split at h
    · rename_i l' hl
      cases h
      exact .lst (SqL.of t) (toPy_dpL q hl)
    · cases h
  | .ro l, _, _, r, h => by
    simp only [Rep] at r
    obtain ⟨a, xs, rfl, t, q⟩ := r
    simp only [toPy] at h
    split at h
    · rename_i l' hl
      cases h
      exact .lst t.sq (toPy_dpL q hl)
    · cases h
  | .loc _, _, _, _, h => by simp only [toPy] at h; cases h
theorem toPy_dpL {K : PySem.W.Frag} {w : Wd} {H : Hp} : ∀ {l : List D} {vs : List V} {ps : List PyData}, RepL K w H l vs → toPyL l = some ps → DpAll K H vs ps
  | [], _, _, r, h => by simp only [RepL] at r; subst r; simp only [toPyL] at h; cases h; exact .nil
  | d :: l, _, _, r, h => by
    simp only [RepL] at r
    obtain ⟨v, vs, rfl, r1, r2⟩ := r
    simp only [toPyL] at h
    split at h
    · rename_i p ps h1 h2
      cases h
      exact .cons (toPy_dp r1 h1) (toPy_dpL r2 h2)
    · cases h
end
/-- a cell read as data -/
def deref (m : Mem) : D → D
  | .loc i => match m[i]? with
    | some (.lst l) => .lst l
    | some (.frz l) => .lst l
    | none => .loc i
  | d => d
theorem deref_dp {K : PySem.W.Frag} {w : Wd} {H : Hp} {m : Mem} {d : D} {v : V} {p : PyData} (g : Good K w H m) (r : Rep K w H d v) (h : toPy (deref m d) = some p) : Dp K H v p := by
  cases d with
  | loc i =>
    have hr := r
    simp only [Rep] at r
    obtain ⟨a, r1, r2⟩ := r
    obtain ⟨c, hc⟩ := g.cell r2
    have key : ∀ l, asH m (.loc i) = some l → deref m (.loc i) = .lst l → Dp K H v p := fun l h1 h2 => by
      obtain ⟨a, xs, rfl, e1, e2⟩ := asH_rep g hr h1
      rw [h2] at h
      simp only [toPy] at h
      split at h
      · rename_i l' hl
        cases h
        exact .lst (SqL.of e1) (toPy_dpL e2 hl)
      · cases h
    cases c with
    | lst l => exact key l (by simp only [asH, hc]) (by simp only [deref, hc])
    | frz l => exact key l (by simp only [asH, hc]) (by simp only [deref, hc])
  | _ => exact toPy_dp r h
def oEqD (m : Mem) (a b : D) : Option Bool := match toPy (deref m a), toPy (deref m b) with
  | some p, some q => if SeqAt.shaped p && SeqAt.shaped q then some (PyData.eqv p q) else none
  | _, _ => none
def oEqB (a b : D) (m : Mem) : Option Bool := match a, b with
  | .int i, .int j => some (decide (i = j))
  | .str i, .str j => some (decide (i = j))
  | .bl i, .bl j => some (decide (i = j))
  | .non, .non => some true
  | .non, .int _ => some false
  | .int _, .non => some false
  | .str _, .non => some false
  | .non, .str _ => some false
  | .int _, .str _ => some false
  | .str _, .int _ => some false
  | a, b => oEqD m a b
def toBl (r : Option Bool) : Option D := match r with
  | some b => some (.bl b)
  | none => none
def toNbl (r : Option Bool) : Option D := match r with
  | some b => some (.bl (!b))
  | none => none
def oEq : VK2 := fun a b m => toBl (oEqB a b m)
def oNe : VK2 := fun a b m => toNbl (oEqB a b m)
theorem toBl_some {r : Option Bool} {d : D} (h : toBl r = some d) : ∃ b, r = some b ∧ d = .bl b := by
  cases r with
  | none => cases h
  | some b => cases h; exact ⟨b, rfl, rfl⟩
theorem toNbl_some {r : Option Bool} {d : D} (h : toNbl r = some d) : ∃ b, r = some b ∧ d = .bl (!b) := by
  cases r with
  | none => cases h
  | some b => cases h; exact ⟨b, rfl, rfl⟩
section
variable {X : Cx}
theorem eq_run {neg : Bool} {op : CmpOp} (h1 : OpR X (compareOp op) (fun x y H Q => scal x y = true ∧ Q (.bl (if neg then !decide (x = y) else decide (x = y))) H))
    (h2 : OpR X (compareOp op) (fun x y H Q => ∃ d e, Dp X.K H x d ∧ Dp X.K H y e ∧ SeqAt.shaped d = true ∧ SeqAt.shaped e = true ∧ Q (.bl (if neg then !PyData.eqv d e else PyData.eqv d e)) H))
    {pins : List (Addr × Obj)} {s : Shared} {σ : L2.St} {H : Hp} {x y : V} {v u : Value} {Q : VK} {w : Wd} {m : Mem} {d e : D} {b : Bool} (I : Inv X pins σ H s) (rx : RelV x v) (ry : RelV y u)
    (g : Good X.K w H m) (hx : Rep X.K w H d x) (hy : Rep X.K w H e y) (h : oEqB d e m = some b) (q : Q (.bl (if neg then !b else b)) H) :
    wpAny (model X.prog X.w) X.A (compareOp op v u) (EP X pins σ Q) X.xe s := by
  unfold oEqB at h
  split at h
  · obtain rfl := rep_int hx
    obtain rfl := rep_int hy
    cases h
    exact h1 pins s σ H _ _ v u Q I rx ry ⟨rfl, by simpa using q⟩
  · obtain rfl := rep_str hx
    obtain rfl := rep_str hy
    cases h
    exact h1 pins s σ H _ _ v u Q I rx ry ⟨rfl, by simpa using q⟩
  · obtain rfl := rep_bl hx
    obtain rfl := rep_bl hy
    cases h
    exact h1 pins s σ H _ _ v u Q I rx ry ⟨rfl, by simpa using q⟩
  · obtain rfl := rep_non hx
    obtain rfl := rep_non hy
    cases h
    exact h1 pins s σ H _ _ v u Q I rx ry ⟨rfl, by simpa using q⟩
  · obtain rfl := rep_non hx
    obtain rfl := rep_int hy
    cases h
    exact h1 pins s σ H _ _ v u Q I rx ry ⟨rfl, by simpa using q⟩
  · obtain rfl := rep_int hx
    obtain rfl := rep_non hy
    cases h
    exact h1 pins s σ H _ _ v u Q I rx ry ⟨rfl, by simpa using q⟩
  · obtain rfl := rep_str hx
    obtain rfl := rep_non hy
    cases h
    exact h1 pins s σ H _ _ v u Q I rx ry ⟨rfl, by simpa using q⟩
  · obtain rfl := rep_non hx
    obtain rfl := rep_str hy
    cases h
    exact h1 pins s σ H _ _ v u Q I rx ry ⟨rfl, by simpa using q⟩
  · obtain rfl := rep_int hx
    obtain rfl := rep_str hy
    cases h
    exact h1 pins s σ H _ _ v u Q I rx ry ⟨rfl, by simpa using q⟩
  · obtain rfl := rep_str hx
    obtain rfl := rep_int hy
    cases h
    exact h1 pins s σ H _ _ v u Q I rx ry ⟨rfl, by simpa using q⟩
  · unfold oEqD at h
    split at h
    · rename_i p p' e1 e2
      split at h
      · rename_i hs
        cases h
        rw [Bool.and_eq_true] at hs
        exact h2 pins s σ H _ _ v u Q I rx ry ⟨_, _, deref_dp g hx e1, deref_dp g hy e2, hs.1, hs.2, q⟩
      · cases h
    · cases h
theorem op_oEq (hu : X.A.units + 64 < cLine) : OpR X (compareOp .Eq) (r2of X oEq) := by
  intro pins s σ H x y v u Q I rx ry h
  obtain ⟨w, m, d, e, r, g, hx, hy, h, q⟩ := h
  obtain ⟨b, hb, rfl⟩ := toBl_some h
  exact eq_run (neg := false) op_eq (op_eqD hu) I rx ry g hx hy hb (q w _ H g Ext.refl (by simp only [Rep]; rfl))
theorem op_oNe (hu : X.A.units + 64 < cLine) : OpR X (compareOp .NotEq) (r2of X oNe) := by
  intro pins s σ H x y v u Q I rx ry h
  obtain ⟨w, m, d, e, r, g, hx, hy, h, q⟩ := h
  obtain ⟨b, hb, rfl⟩ := toNbl_some h
  exact eq_run (neg := true) op_ne (op_neD hu) I rx ry g hx hy hb (q w _ H g Ext.refl (by simp only [Rep]; rfl))
end

def intsOf : List D → Option (List Int)
  | [] => some []
  | .int i :: l => match intsOf l with
    | some r => some (i :: r)
    | none => none
  | _ => none
theorem intsOf_eq : ∀ {l : List D} {ns : List Int}, intsOf l = some ns → l = ns.map D.int
  | [], _, h => by simp only [intsOf] at h; cases h; rfl
  | d :: l, ns, h => by
    cases d with
    | int i =>
      simp only [intsOf] at h
      split at h
      · rename_i r hr
        cases h
        rw [List.map_cons, ← intsOf_eq hr]
      · cases h
    | _ => simp only [intsOf] at h; cases h
theorem intsOf_map : ∀ ns : List Int, intsOf (ns.map D.int) = some ns
  | [] => rfl
  | n :: r => by simp only [List.map_cons, intsOf, intsOf_map r]
def leD (ns ms : List Int) : Bool := Ob.lexAt (fun j => decide (ns.getD j 0 = ms.getD j 0)) (fun j => decide (ns.getD j 0 ≤ ms.getD j 0)) (decide (ns.length ≤ ms.length)) 0 (min ns.length ms.length)
def oLt : VK2 := fun a b _ => match a, b with
  | .int i, .int j => some (.bl (decide (i < j)))
  | .str i, .str j => some (.bl (decide (i.cps.toList < j.cps.toList)))
  | .tup l, .tup r => match intsOf l, intsOf r with
    | some ns, some ms => some (.bl (HT.lexLt ns ms))
    | _, _ => none
  | _, _ => none
def oLe : VK2 := fun a b _ => match a, b with
  | .int i, .int j => some (.bl (decide (i ≤ j)))
  | .str i, .str j => some (.bl (!decide (j.cps.toList < i.cps.toList)))
  | _, _ => none
def oGt : VK2 := fun a b _ => match a, b with
  | .int i, .int j => some (.bl (decide (j < i)))
  | .str i, .str j => some (.bl (decide (j.cps.toList < i.cps.toList)))
  | _, _ => none
def oGe : VK2 := fun a b _ => match a, b with
  | .int i, .int j => some (.bl (decide (j ≤ i)))
  | _, _ => none
section
variable {X : Cx}
theorem op_oLt (hu : X.A.units < cLine) : OpR X (compareOp .Lt) (r2of X oLt) := by
  intro pins s σ H x y v u Q I rx ry h
  obtain ⟨w, m, d, e, r, g, hx, hy, h, q⟩ := h
  unfold oLt at h
  split at h
  · obtain rfl := rep_int hx
    obtain rfl := rep_int hy
    cases h
    exact op_lt pins s σ H _ _ v u Q I rx ry ⟨_, _, rfl, rfl, q w _ H g Ext.refl (by simp only [Rep])⟩
  · obtain rfl := rep_str hx
    obtain rfl := rep_str hy
    cases h
    exact op_lt_str pins s σ H _ _ v u Q I rx ry ⟨_, _, rfl, rfl, q w _ H g Ext.refl (by simp only [Rep])⟩
  · split at h
    · rename_i ns ms h1 h2
      cases h
      obtain ⟨a, xs, rfl, ha, hl⟩ := asT_rep hx rfl
      obtain ⟨b, ys, rfl, hb, hr⟩ := asT_rep hy rfl
      rw [intsOf_eq h1] at hl
      rw [intsOf_eq h2] at hr
      rw [hl.ints] at ha
      rw [hr.ints] at hb
      exact op_ltT hu pins s σ H _ _ v u Q I rx ry ⟨_, _, _, _, rfl, rfl, ha, hb, q w _ H g Ext.refl (by simp only [Rep])⟩
    · cases h
  · cases h
theorem op_oLe : OpR X (compareOp .LtE) (r2of X oLe) := by
  intro pins s σ H x y v u Q I rx ry h
  obtain ⟨w, m, d, e, r, g, hx, hy, h, q⟩ := h
  unfold oLe at h
  split at h
  · obtain rfl := rep_int hx
    obtain rfl := rep_int hy
    cases h
    exact op_le pins s σ H _ _ v u Q I rx ry ⟨_, _, rfl, rfl, q w _ H g Ext.refl (by simp only [Rep])⟩
  · obtain rfl := rep_str hx
    obtain rfl := rep_str hy
    cases h
    exact op_le_str pins s σ H _ _ v u Q I rx ry ⟨_, _, rfl, rfl, q w _ H g Ext.refl (by simp only [Rep])⟩
  · cases h
theorem op_oGt : OpR X (compareOp .Gt) (r2of X oGt) := by
  intro pins s σ H x y v u Q I rx ry h
  obtain ⟨w, m, d, e, r, g, hx, hy, h, q⟩ := h
  unfold oGt at h
  split at h
  · obtain rfl := rep_int hx
    obtain rfl := rep_int hy
    cases h
    exact op_gt pins s σ H _ _ v u Q I rx ry ⟨_, _, rfl, rfl, q w _ H g Ext.refl (by simp only [Rep])⟩
  · obtain rfl := rep_str hx
    obtain rfl := rep_str hy
    cases h
    exact op_gt_str pins s σ H _ _ v u Q I rx ry ⟨_, _, rfl, rfl, q w _ H g Ext.refl (by simp only [Rep])⟩
  · cases h
theorem op_oGe : OpR X (compareOp .GtE) (r2of X oGe) := by
  intro pins s σ H x y v u Q I rx ry h
  obtain ⟨w, m, d, e, r, g, hx, hy, h, q⟩ := h
  unfold oGe at h
  split at h
  · obtain rfl := rep_int hx
    obtain rfl := rep_int hy
    cases h
    exact op_ge pins s σ H _ _ v u Q I rx ry ⟨_, _, rfl, rfl, q w _ H g Ext.refl (by simp only [Rep])⟩
  · cases h
end
/-! is -/
def oIs : VK2 := fun a b _ => match a, b with
  | .bl i, .bl j => some (.bl (decide (i = j)))
  | .non, .non => some (.bl true)
  | .bl _, .non => some (.bl false)
  | .int _, .non => some (.bl false)
  | .str _, .non => some (.bl false)
  | .tup _, .non => some (.bl false)
  | .lst _, .non => some (.bl false)
  | .ro _, .non => some (.bl false)
  | .loc _, .non => some (.bl false)
  | _, _ => none
def notD (r : Option D) : Option D := match r with
  | some (.bl b) => some (.bl (!b))
  | _ => none
def oIsNot : VK2 := fun a b m => notD (oIs a b m)
theorem notD_some {r : Option D} {d : D} (h : notD r = some d) : ∃ b, r = some (.bl b) ∧ d = .bl (!b) := by
  unfold notD at h
  split at h
  · cases h; exact ⟨_, rfl, rfl⟩
  · cases h
section
variable {X : Cx}
theorem rep_ref {K : PySem.W.Frag} {w : Wd} {H : Hp} {d : D} {x : V} (r : Rep K w H d x) (h : (match d with | .tup _ => true | .lst _ => true | .ro _ => true | .loc _ => true | _ => false) = true) : ∃ a, x = .ref a := by
  cases d with
  | tup l => simp only [Rep] at r; obtain ⟨a, _, r, _⟩ := r; exact ⟨a, r⟩
  | lst l => simp only [Rep] at r; obtain ⟨a, _, r, _⟩ := r; exact ⟨a, r⟩
  | ro l => simp only [Rep] at r; obtain ⟨a, _, r, _⟩ := r; exact ⟨a, r⟩
  | loc l => simp only [Rep] at r; obtain ⟨a, r, _⟩ := r; exact ⟨a, r⟩
  | _ => cases h
theorem is_run {neg : Bool} {op : CmpOp} (h1 : OpR X (compareOp op) (fun x y H Q => ∃ a b, x = .bl a ∧ y = .bl b ∧ Q (.bl (if neg then !decide (a = b) else decide (a = b))) H))
    (h2 : OpR X (compareOp op) (fun x y H Q => y = .non ∧ Q (.bl (if neg then !decide (x = .non) else decide (x = .non))) H))
    {pins : List (Addr × Obj)} {s : Shared} {σ : L2.St} {H : Hp} {x y : V} {v u : Value} {Q : VK} {w : Wd} {m : Mem} {d e : D} {b : Bool} (I : Inv X pins σ H s) (rx : RelV x v) (ry : RelV y u)
    (g : Good X.K w H m) (hx : Rep X.K w H d x) (hy : Rep X.K w H e y) (h : oIs d e m = some (.bl b)) (q : Q (.bl (if neg then !b else b)) H) :
    wpAny (model X.prog X.w) X.A (compareOp op v u) (EP X pins σ Q) X.xe s := by
  unfold oIs at h
  split at h
  · obtain rfl := rep_bl hx
    obtain rfl := rep_bl hy
    cases h
    exact h1 pins s σ H _ _ v u Q I rx ry ⟨_, _, rfl, rfl, q⟩
  · obtain rfl := rep_non hx
    obtain rfl := rep_non hy
    cases h
    exact h2 pins s σ H _ _ v u Q I rx ry ⟨rfl, by simpa using q⟩
  · obtain rfl := rep_bl hx
    obtain rfl := rep_non hy
    cases h
    exact h2 pins s σ H _ _ v u Q I rx ry ⟨rfl, by simpa using q⟩
  · obtain rfl := rep_int hx
    obtain rfl := rep_non hy
    cases h
    exact h2 pins s σ H _ _ v u Q I rx ry ⟨rfl, by simpa using q⟩
  · obtain rfl := rep_str hx
    obtain rfl := rep_non hy
    cases h
    exact h2 pins s σ H _ _ v u Q I rx ry ⟨rfl, by simpa using q⟩
  all_goals first
    | (obtain ⟨a, rfl⟩ := rep_ref hx rfl
       obtain rfl := rep_non hy
       cases h
       exact h2 pins s σ H _ _ v u Q I rx ry ⟨rfl, by simpa using q⟩)
    | cases h
theorem oIs_bl {d e r : D} {m : Mem} (h : oIs d e m = some r) : ∃ b, r = .bl b := by
  unfold oIs at h
  split at h <;> cases h <;> exact ⟨_, rfl⟩
theorem op_oIs : OpR X (compareOp .Is) (r2of X oIs) := by
  intro pins s σ H x y v u Q I rx ry h
  obtain ⟨w, m, d, e, r, g, hx, hy, h, q⟩ := h
  obtain ⟨b, rfl⟩ := oIs_bl h
  exact is_run (neg := false) op_is_bl op_isN I rx ry g hx hy h (q w _ H g Ext.refl (by simp only [Rep]; rfl))
theorem op_oIsNot : OpR X (compareOp .IsNot) (r2of X oIsNot) := by
  intro pins s σ H x y v u Q I rx ry h
  obtain ⟨w, m, d, e, r, g, hx, hy, h, q⟩ := h
  obtain ⟨b, h2, rfl⟩ := notD_some h
  exact is_run (neg := true) op_isnot_bl op_notN I rx ry g hx hy h2 (q w _ H g Ext.refl (by simp only [Rep]; rfl))
end

/-! in -/
def inL (p : PyData) (ps : List PyData) : Option Bool := if PyData.canLayAll0 ps && (p.canLay0 && decide (PyData.depth p ≤ 64)) then some (ps.any fun y => PyData.eqv y p) else none
def oInB (a b : D) (m : Mem) : Option Bool := match a, b with
  | .str x, .str z => if x.cps.size = 1 then some (decide (x.cps.getD 0 0 ∈ z.cps.toList)) else some (!(Builtin.Str.occurrences z x 0 z.length 1).isEmpty)
  | a, .tup l => match toPy (deref m a), toPyL l with
    | some p, some ps => inL p ps
    | _, _ => none
  | a, b => match toPy (deref m a), toPy (deref m b) with
    | some p, some (.list ps) => inL p ps
    | _, _ => none
def oIn : VK2 := fun a b m => toBl (oInB a b m)
def oNotIn : VK2 := fun a b m => toNbl (oInB a b m)
section
variable {X : Cx}
theorem in_run {neg : Bool} {op : CmpOp} (hu : X.A.units + 65 < cLine)
    (h1 : OpR X (compareOp op) (fun x y H Q => ∃ (c : Nat) (z : Str), x = .str ⟨#[c]⟩ ∧ y = .str z ∧ Q (.bl (if neg then !decide (c ∈ z.cps.toList) else decide (c ∈ z.cps.toList))) H))
    (h2 : OpR X (compareOp op) (fun x y H Q => ∃ i j, x = .str i ∧ y = .str j ∧ Q (.bl (if neg then !(!(Builtin.Str.occurrences j i 0 j.length 1).isEmpty) else !(Builtin.Str.occurrences j i 0 j.length 1).isEmpty)) H))
    (h3 : ∀ {prog : Program} {w : World} {A : Around} {E : Value → Shared → Prop} {s : Shared} {c x : Value} {xs : List PyData} {d : PyData} {as bs : List Addr} {Q : Value → Shared → Prop} (rc : Reads s.heap c (.list xs) as) (rx : Reads s.heap x d bs) (hxs : PyData.canLayAll0 xs = true) (hd : d.canLay0 = true)
      (hu : A.units + 1 + min (PyData.depthAll xs) d.depth < cLine) (h : Q (.bool (if neg then !(xs.any fun y => PyData.eqv y d) else (xs.any fun y => PyData.eqv y d))) s), wpAny (model prog w) A (compareOp op x c) Q E s)
    (h4 : ∀ {prog : Program} {w : World} {A : Around} {E : Value → Shared → Prop} {s : Shared} {c x : Value} {xs : List PyData} {d : PyData} {as bs : List Addr} {Q : Value → Shared → Prop} (rc : Reads s.heap c (.tuple xs) as) (rx : Reads s.heap x d bs) (hxs : PyData.canLayAll0 xs = true) (hd : d.canLay0 = true)
      (hu : A.units + 1 + min (PyData.depthAll xs) d.depth < cLine) (h : Q (.bool (if neg then !(xs.any fun y => PyData.eqv y d) else (xs.any fun y => PyData.eqv y d))) s), wpAny (model prog w) A (compareOp op x c) Q E s)
    {pins : List (Addr × Obj)} {s : Shared} {σ : L2.St} {H : Hp} {x y : V} {v u : Value} {Q : VK} {w : Wd} {m : Mem} {d e : D} {b : Bool} (I : Inv X pins σ H s) (rx : RelV x v) (ry : RelV y u)
    (g : Good X.K w H m) (hx : Rep X.K w H d x) (hy : Rep X.K w H e y) (h : oInB d e m = some b) (q : Q (.bl (if neg then !b else b)) H) :
    wpAny (model X.prog X.w) X.A (compareOp op v u) (EP X pins σ Q) X.xe s := by
  have dep : ∀ {p : PyData} {ps : List PyData}, inL p ps = some b → PyData.canLayAll0 ps = true ∧ p.canLay0 = true ∧ X.A.units + 1 + min (PyData.depthAll ps) p.depth < cLine ∧ b = (ps.any fun y => PyData.eqv y p) := fun {p ps} h => by
    unfold inL at h
    split at h
    · rename_i hs
      cases h
      rw [Bool.and_eq_true, Bool.and_eq_true] at hs
      have h1 := of_decide_eq_true hs.2.2
      have h2 : min (PyData.depthAll ps) p.depth ≤ p.depth := Nat.min_le_right _ _
      exact ⟨hs.1, hs.2.1, by omega, rfl⟩
    · cases h
  unfold oInB at h
  split at h
  · obtain rfl := rep_str hx
    obtain rfl := rep_str hy
    split at h
    · rename_i i z hs
      cases h
      refine h1 pins s σ H _ _ v u Q I rx ry ⟨i.cps.getD 0 0, z, ?_, rfl, q⟩
      obtain ⟨⟨l⟩⟩ := i
      cases l with
      | nil => cases hs
      | cons a l =>
        cases l with
        | nil => rfl
        | cons _ _ => simp at hs
    · cases h
      exact h2 pins s σ H _ _ v u Q I rx ry ⟨_, _, rfl, rfl, q⟩
  · split at h
    · rename_i l _ p ps e1 e2
      obtain ⟨c1, c2, c3, c4⟩ := dep h
      have dx := deref_dp g hx e1
      obtain ⟨as, rd⟩ := Dp.reads I p x v dx rx
      have dy : Dp X.K H y (.tuple ps) := toPy_dp hy (by simp only [toPy, e2])
      obtain ⟨bs, rd2⟩ := Dp.reads I _ y u dy ry
      exact h4 rd2 rd c1 c2 c3 ⟨.bl _, H, I, rfl, by rw [← c4]; exact q⟩
    · cases h
  · split at h
    · rename_i p ps e1 e2
      obtain ⟨c1, c2, c3, c4⟩ := dep h
      have dx := deref_dp g hx e1
      obtain ⟨as, rd⟩ := Dp.reads I p x v dx rx
      have dy : Dp X.K H y (.list ps) := deref_dp g hy e2
      obtain ⟨bs, rd2⟩ := Dp.reads I _ y u dy ry
      exact h3 rd2 rd c1 c2 c3 ⟨.bl _, H, I, rfl, by rw [← c4]; exact q⟩
    · cases h
theorem op_oIn (hu : X.A.units + 65 < cLine) : OpR X (compareOp .In) (r2of X oIn) := by
  intro pins s σ H x y v u Q I rx ry h
  obtain ⟨w, m, d, e, r, g, hx, hy, h, q⟩ := h
  obtain ⟨b, hb, rfl⟩ := toBl_some h
  exact in_run (neg := false) hu op_in_sign op_in_str (fun a b c d e f => SeqAt.in_list_reads a b c d e f) (fun a b c d e f => SeqAt.in_tuple_reads a b c d e f) I rx ry g hx hy hb (q w _ H g Ext.refl (by simp only [Rep]; rfl))
theorem op_oNotIn (hu : X.A.units + 65 < cLine) : OpR X (compareOp .NotIn) (r2of X oNotIn) := by
  intro pins s σ H x y v u Q I rx ry h
  obtain ⟨w, m, d, e, r, g, hx, hy, h, q⟩ := h
  obtain ⟨b, hb, rfl⟩ := toNbl_some h
  exact in_run (neg := true) hu op_notIn_sign op_notin_str (fun a b c d e f => SeqAt.notIn_list_reads a b c d e f) (fun a b c d e f => SeqAt.notIn_tuple_reads a b c d e f) I rx ry g hx hy hb (q w _ H g Ext.refl (by simp only [Rep]; rfl))
end
end Z

set_option maxRecDepth 100000
set_option maxHeartbeats 4000000
set_option autoImplicit false
namespace Z
open PySem PySem.Spec PyProof.Rows L2

/-! ### indices, slices -/
def oIx : VK2 := fun a b m => match a, b with
  | .tup l, .int i => atI l i
  | .str z, .int i => if z.length ≤ SL then (match atI z.cps.toList i with
    | some c => some (.str ⟨#[c]⟩)
    | none => none) else none
  | a, .int i => match asL m a with
    | some l => atI l i
    | none => none
  | _, _ => none
section
variable {X : Cx} {W : WX} {a b c : Expr} {p q : PEF} {pos p2 : Pos}
theorem atI_rep {K : PySem.W.Frag} {w : Wd} {H : Hp} {l : List D} {xs : List V} {i : Int} {d : D} (r : RepL K w H l xs) (h : atI l i = some d) : ∃ v, atI xs i = some v ∧ Rep K w H d v := by
  unfold atI at h ⊢
  rw [r.len]
  cases e : ixN l.length i with
  | none => rw [e] at h; cases h
  | some j =>
    rw [e] at h
    exact r.get h
theorem ix_oIx : IxR X (r2of X oIx) := by
  intro value slice pins s σ H x y v u Q I rx ry h hs
  obtain ⟨w, m, d, e, r, g, hx, hy, h, q⟩ := h
  unfold oIx at h
  split at h
  · obtain ⟨a, xs, rfl, ha, hl⟩ := asT_rep hx rfl
    obtain rfl := rep_int hy
    obtain ⟨z, h1, h2⟩ := atI_rep hl h
    exact ix_tup value slice pins s σ H _ _ v u Q I rx ry ⟨a, xs, _, z, rfl, rfl, ha, h1, q w _ H g Ext.refl h2⟩ hs
  · obtain rfl := rep_str hx
    obtain rfl := rep_int hy
    split at h
    · rename_i hz
      split at h
      · rename_i c hc
        cases h
        exact ix_str value slice pins s σ H _ _ v u Q I rx ry ⟨_, _, c, rfl, rfl, by rw [← SL_eq]; exact hz, hc, q w _ H g Ext.refl (by simp only [Rep])⟩ hs
      · cases h
    · cases h
  · obtain rfl := rep_int hy
    split at h
    · rename_i l hl
      obtain ⟨a, xs, rfl, ha, hr⟩ := asL_rep g hx hl
      obtain ⟨z, h1, h2⟩ := atI_rep hr h
      exact ix_list value slice pins s σ H _ _ v u Q I rx ry ⟨a, xs, _, z, rfl, rfl, ha, h1, q w _ H g Ext.refl h2⟩ hs
    · cases h
  · cases h
theorem me_ix (ha : ME X W a p) (hb : ME X W b q) (hs : PlainIx b := by exact fun _ _ => rfl) : ME X W (.Subscript a b pos) (pBin oIx p q) :=
  PE.imp (pe_ix ix_oIx ha hb hs) fun _ _ _ h => tOp_of h

/-! parts of slices -/
abbrev POF := Ev → Mem → Option (Out (Option Int))
def PostO (X : Cx) (W : WX) (σ : L2.St) (w : Wd) (H : Hp) (Q : Option Int → Hp → Prop) : Out (Option Int) → Prop
  | .ok b m => ∀ w' H', Good X.K w' H' m → Ext X.K w H w' H' → Q b H'
  | .exc c m => ExW X W w H σ c m
def tO (X : Cx) (W : WX) (p : POF) : TO := fun σ H Q => ∃ w m e r, Good X.K w H m ∧ EvR X.K w H e σ ∧ p e m = some r ∧ PostO X W σ w H Q r
abbrev MO (X : Cx) (W : WX) (e : Option Expr) (p : POF) : Prop := PO X e (tO X W p)
theorem PO.imp {e : Option Expr} {t t' : TO} (h : PO X e t) (i : ∀ σ H Q, t' σ H Q → t σ H Q) : PO X e t' := by
  obtain ⟨h⟩ := h
  exact ⟨fun pins s σ H Q I q => h pins s σ H Q I (i _ _ _ q)⟩
def pNoPart : POF := fun _ m => some (.ok none m)
def pPart (p : PEF) : POF := fun e m => bnd (p e m) fun d m1 => match d with
  | .int i => some (.ok (some i) m1)
  | _ => none
theorem mo_none : MO X W none pNoPart := PO.imp po_none fun σ H Q ⟨w, m, e, r, g, ev, h, q⟩ => by
  cases h
  exact q w H g Ext.refl
theorem mo_some (h : ME X W a p) : MO X W (some a) (pPart p) := PO.imp (po_some h) fun σ H Q ⟨w, m, e, r, g, ev, h, q⟩ => by
  show tM X W p σ H fun x H1 => ∃ i, x = .int i ∧ Q (some i) H1
  unfold pPart at h
  cases hp : p e m with
  | none => rw [hp] at h; cases h
  | some o =>
    rw [hp] at h
    cases o with
    | ok d m1 =>
      refine ⟨w, m, e, _, g, ev, hp, fun w1 v H1 g1 x1 r1 => ?_⟩
      simp only [bnd] at h
      split at h
      · cases h
        obtain rfl := rep_int r1
        exact ⟨_, rfl, q w1 H1 g1 x1⟩
      · cases h
    | exc c m1 =>
      cases h
      exact ⟨w, m, e, _, g, ev, hp, q⟩
def cutD (l : List D) (lo hi : Option Int) : List D := (l.drop (HT.sIx l.length 0 lo)).take (HT.sIx l.length l.length hi - HT.sIx l.length 0 lo)
def oSl (a : D) (lo hi : Option Int) (m : Mem) : Option D := match a with
  | .tup l => some (.tup (cutD l lo hi))
  | .str z => if z.length ≤ SL then some (.str (cutS z lo hi)) else none
  | a => match asL m a with
    | some l => some (.lst (cutD l lo hi))
    | none => none
theorem cut_rep {K : PySem.W.Frag} {w : Wd} {H : Hp} {l : List D} {xs : List V} (r : RepL K w H l xs) (lo hi : Option Int) : RepL K w H (cutD l lo hi) (cutV xs lo hi) := by
  unfold cutD cutV
  rw [r.len]
  exact (r.drop _).take _
theorem cutD_whole {l : List D} {lo hi : Option Int} (h : HT.sIx l.length 0 lo = 0 ∧ HT.sIx l.length l.length hi = l.length) : cutD l lo hi = l := by
  unfold cutD
  rw [h.1, h.2, List.drop_zero, Nat.sub_zero, List.take_length]
def pSl (p : PEF) (pl ph : POF) : PEF := fun e m => bnd (p e m) fun d m1 => bnd (pl e m1) fun lo m2 => bnd (ph e m2) fun hi m3 => lift1 (oSl d lo hi m3) m3
def rSlD (X : Cx) : V → Option Int → Option Int → Hp → VK → Prop := fun x lo hi H Q => ∃ w m d r, Good X.K w H m ∧ Rep X.K w H d x ∧ oSl d lo hi m = some r ∧ ∀ w' v H', Good X.K w' H' m → Ext X.K w H w' H' → Rep X.K w' H' r v → Q v H'
theorem sl_oSl : SlR X (rSlD X) := by
  intro pins s σ H x v vl vu lo hi sl Q I rx hs pl pu h
  obtain ⟨w, m, d, r, g, hx, h, q⟩ := h
  unfold oSl at h
  split at h
  · cases h
    obtain ⟨a, xs, rfl, ha, hl⟩ := asT_rep hx rfl
    refine sl_tupA pins s σ H _ v vl vu lo hi sl Q I rx hs pl pu ⟨a, xs, rfl, ha, fun e => ?_, fun _ p hp => ?_⟩
    · rw [hl.len] at e
      rw [cutD_whole e] at q
      exact q w _ H g Ext.refl hx
    · exact q w _ _ (g.new hp) (Ext.new g hp) (new_tup g hp (cut_rep hl lo hi))
  · split at h
    · rename_i hz
      cases h
      obtain rfl := rep_str hx
      exact sl_str pins s σ H _ v vl vu lo hi sl Q I rx hs pl pu ⟨_, rfl, by rw [← SL_eq]; exact hz, q w _ H g Ext.refl (by simp only [Rep])⟩
    · cases h
  · split at h
    · rename_i l hl
      cases h
      obtain ⟨a, xs, rfl, ha, hr⟩ := asL_rep g hx hl
      exact sl_list pins s σ H _ v vl vu lo hi sl Q I rx hs pl pu ⟨a, xs, rfl, ha, fun p hp => q (w.fzn p) _ _ (g.newF hp) ((Ext.new g hp).trans Ext.fzn) (new_lst g hp (cut_rep hr lo hi))⟩
    · cases h
theorem me_sl {lo hi : Option Expr} {pl ph : POF} (ha : ME X W a p) (hl : MO X W lo pl) (hh : MO X W hi ph) : ME X W (.Subscript a (.Slice lo hi none p2) pos) (pSl p pl ph) := by
  refine PE.imp (pe_slice sl_oSl ha hl hh) fun σ H Q ⟨w, m, e, r, g, ev, h, q⟩ => ?_
  refine tM_bnd g ev h q fun d1 m1 w1 v1 H1 h1 g1 x1 r1 ev1 q1 => ?_
  cases hp : pl e m1 with
  | none => rw [hp] at h1; cases h1
  | some o =>
    rw [hp] at h1
    cases o with
    | exc c m2 => cases h1; exact ⟨w1, m1, e, _, g1, ev1, hp, q1⟩
    | ok lo' m2 =>
      refine ⟨w1, m1, e, _, g1, ev1, hp, fun w2 H2 g2 x2 => ?_⟩
      have h1 : bnd (ph e m2) (fun hi m3 => lift1 (oSl d1 lo' hi m3) m3) = some r := h1
      cases hp2 : ph e m2 with
      | none => rw [hp2] at h1; cases h1
      | some o2 =>
        rw [hp2] at h1
        cases o2 with
        | exc c m3 => cases h1; exact ⟨w2, m2, e, _, g2, ev1.mono x2, hp2, PostE.ext (r := .exc c m3) q1 x2⟩
        | ok hi' m3 =>
          refine ⟨w2, m2, e, _, g2, ev1.mono x2, hp2, fun w3 H3 g3 x3 => ?_⟩
          obtain ⟨d, hd, rfl⟩ := lift1_some h1
          exact ⟨w3, m3, d1, d, g3, (r1.mono x2).mono x3, hd, PostE.ext (PostE.ext q1 x2) x3⟩
end

/-! ### xs[::-1] -/
def oRev (a : D) (m : Mem) : Option D := match a with
  | .tup l => some (.tup l.reverse)
  | a => match asL m a with
    | some l => some (.lst l.reverse)
    | none => none
def pUn (o : D → Mem → Option D) (p : PEF) : PEF := fun e m => bnd (p e m) fun d m1 => lift1 (o d m1) m1
theorem rev_pick (l : List Value) (items : Array Value) (hi : items.toList = l) : ((List.range items.size).filterMap fun (k : Nat) => items[(((items.size : Int) - 1) + (k : Int) * (-1)).toNat]?).toArray = l.reverse.toArray := by
  congr 1
  have hs : items.size = l.length := by rw [← hi, Array.length_toList]
  have e : ∀ k ∈ List.range items.size, (fun (k : Nat) => items[(((items.size : Int) - 1) + (k : Int) * (-1)).toNat]?) k = some (l.reverse.getD k .none) := fun k hk => by
    have hk : k < items.size := List.mem_range.mp hk
    have e1 : (((items.size : Int) - 1) + (k : Int) * (-1)).toNat = items.size - 1 - k := by omega
    show items[(((items.size : Int) - 1) + (k : Int) * (-1)).toNat]? = _
    rw [e1, ← Array.getElem?_toList, hi, hs]
    rw [List.getD_eq_getElem?_getD, List.getElem?_reverse (by omega)]
    rw [List.getElem?_eq_getElem (by omega)]
    rfl
  have fm : ∀ {f : Nat → Option Value} {g : Nat → Value} (ks : List Nat), (∀ k ∈ ks, f k = some (g k)) → ks.filterMap f = ks.map g := fun {f g} ks => by
    induction ks with
    | nil => intro _; rfl
    | cons k ks ih =>
      intro h
      rw [List.filterMap_cons, h k List.mem_cons_self, List.map_cons, ih fun j hj => h j (List.mem_cons_of_mem _ hj)]
  rw [fm _ e]
  apply List.ext_getElem
  · simp [hs]
  · intro i h1 h2
    rw [List.getElem_map, List.getElem_range, List.getD_eq_getElem?_getD, List.getElem?_eq_getElem h2]
    rfl
theorem tupRev_get {A : Around} {E : Value → Shared → Prop} {s : Shared} {t sl : Addr} {items : Array Value} {vl vu vs : Value} {Q : Value → Shared → Prop} {prog : Program} {w : World} (ht : IsTup s.heap t items) (hs : s.heap.IsSliceOf sl vl vu vs) (pl : IsPart vl none) (pu : IsPart vu none) (ps : IsPart vs (some (-1)))
    (h : Q (.ref s.heap.objs.size) { s with heap := s.heap.push { cls := .type "tuple", data := .seq items.toList.reverse.toArray } })
    (hsz : items.size ≤ sizeLine) : wpAny (model prog w) A (getItem (.ref t) (.ref sl)) Q E s := by
  have htake : sizeOk (.seq items.toList.reverse.toArray) := by
    show items.toList.reverse.toArray.size ≤ sizeLine
    rw [List.size_toArray, List.length_reverse, Array.length_toList]
    exact hsz
  obtain ⟨os, hos, hcs, hds⟩ := id hs
  have hTs : s.TypeIs (.ref sl) "slice" := ⟨os, hos, hcs⟩
  unfold getItem
  try with_reducible refine wpAny_holding ?_
  first | refine wpAny_bind (wpAny_pure ?_) | skip
  refine wpAny_bind (wpAny_sequenceKey ht.typeIs (by decide) ?_)
  refine wpAny_bind (wpAny_callSpecial?_slot (name := Str.ofString "__getitem__") ht.typeIs PyProof.Rows.slot_tuple_getitem
    (wpAny_call_entry PyProof.Rows.slot_tuple_getitem ht.typeIs entry_tuple_getitem ?_ (args_tuple_getitem _ _)))
  show wpAny _ _ (Builtin.Tuple.tupleItemsOf (.ref t) >>= _) _ _ s
  refine wpAny_bind (tupleItemsOf_ ht ?_)
  refine wpAny_bind (wpAny_typeOf hTs ?_)
  rw [if_pos (by decide)]
  have adj : Builtin.Slice.sliceAdjust none none (-1) (items.size : Int) = ((items.size : Int) - 1, -1) := rfl
  have pcs : Builtin.Slice.slicePlaces ((items.size : Int) - 1) (-1) (-1) = items.size := by
    unfold Builtin.Slice.slicePlaces
    rw [if_neg (by omega)]
    by_cases h0 : (items.size : Int) - 1 > -1
    · rw [if_pos h0]
      have : ((items.size : Int) - 1 - -1 - 1) / (- -1) + 1 = items.size := by
        rw [Int.neg_neg, Int.ediv_one]; omega
      rw [this]; rfl
    · rw [if_neg h0]
      have : items.size = 0 := by omega
      rw [this]; rfl
  have sa : ∀ {A : Around} {E : Value → Shared → Prop} {Q : Int × Int × Nat → Shared → Prop}, Q ((items.size : Int) - 1, -1, items.size) s → wpAny (model prog w) A (Builtin.Slice.sliceApplied (.ref sl) (pure (items.size : Int))) Q E s := fun {A E Q} hq => by
    unfold Builtin.Slice.sliceApplied Builtin.Slice.sliceFields
    refine wpAny_bind (wpAny_bind (wpAny_field hos hds (x := vl) rfl (wpAny_bind (wpAny_field hos hds (x := vu) rfl (wpAny_bind (wpAny_field hos hds (x := vs) rfl (wpAny_pure ?_)))))))
    refine wpAny_bind (HT.slicePart_ ps ?_)
    show wpAny _ _ (if ((-1 : Int) == 0) = true then _ else _) _ _ s
    rw [if_neg (by decide)]
    refine wpAny_bind (HT.slicePart_ pl (wpAny_bind (HT.slicePart_ pu (wpAny_bind (wpAny_pure ?_)))))
    show wpAny _ _ (match Builtin.Slice.sliceAdjust none none (-1) (items.size : Int) with | (lo, hi) => pure (lo, (-1 : Int), Builtin.Slice.slicePlaces lo hi (-1))) _ _ s
    rw [adj]
    show wpAny _ _ (pure ((items.size : Int) - 1, (-1 : Int), Builtin.Slice.slicePlaces ((items.size : Int) - 1) (-1) (-1))) _ _ s
    rw [pcs]
    exact wpAny_pure hq
  refine wpAny_bind (sa ?_)
  have hno : ¬ ((((items.size : Int) - 1) == 0 && (-1 : Int) == 1 && items.size == items.size) = true) := by
    intro q
    rw [Bool.and_eq_true, Bool.and_eq_true] at q
    exact absurd q.1.2 (by decide)
  show wpAny _ _ (if (((items.size : Int) - 1) == 0 && (-1 : Int) == 1 && items.size == items.size) = true then _ else _) _ _ s
  rw [if_neg hno, rev_pick items.toList items rfl]
  first
    | exact wpAny_bind (m := Builtin.Tuple.tupleExact _) (wpAny_newObj_type (wpAny_pure ⟨_, rfl, wpAny_pure h⟩) htake)
    | exact wpAny_bind (m := Builtin.Tuple.tupleExact _) (wpAny_newObj_type (wpAny_bind (wpAny_pure (wpAny_pure ⟨_, rfl, wpAny_pure h⟩))) htake)
    | exact wpAny_bind (wpAny_bind (m := Builtin.Tuple.tupleExact _) (wpAny_newObj_type (wpAny_pure (wpAny_pure ⟨_, rfl, wpAny_pure h⟩)) htake))
    | exact wpAny_bind (wpAny_bind (m := Builtin.Tuple.tupleExact _) (wpAny_newObj_type (wpAny_pure ⟨_, rfl, wpAny_pure h⟩) htake))
section
variable {X : Cx} {W : WX} {e : Expr} {p : PEF}
theorem me_rev {k : Nat} {p1 p2 p3 pos : Pos} (he : ME X W e p) : ME X W (.Subscript e (.Slice none none (some (.UnaryOp .USub (.Constant (.int 1) k p1) p2)) p3) pos) (pUn oRev p) := by
  refine ⟨fun pins s σ H Q I ⟨w, m, ev, r, g, er, h, q⟩ => ?_⟩
  have hh : tM X W p σ H (fun x H1 => ∃ w1 m1 d1 d, Good X.K w1 H1 m1 ∧ Rep X.K w1 H1 d1 x ∧ oRev d1 m1 = some d ∧ PostE X W σ w1 H1 Q (.ok d m1)) := tM_bnd g er h q fun d1 m1 w1 v1 H1 h1 g1 x1 r1 ev1 q1 => by
    obtain ⟨d, hd, rfl⟩ := lift1_some h1
    exact ⟨w1, m1, d1, d, g1, r1, hd, q1⟩
  refine Subscript_ (thn (he.run pins s σ H _ I hh) fun v s1 ⟨x, H1, I1, r1, w1, m1, d1, d, g1, rd, hd, q1⟩ => ?_)
  have hst : PO X (some (.UnaryOp .USub (.Constant (.int 1) k p1) p2)) (tPart (tUn (rU fun i => .int (-i)) (tC (.int 1)))) := po_some (pe_un un_neg pe_int)
  refine wpAny_Slice (thn (po_none.run pins s1 σ H1 (fun o H2 => o = none ∧ H2 = H1) I1 ⟨rfl, rfl⟩) fun vl s2 ⟨l, H2, I2, pl, el, e2⟩ => ?_)
  subst el e2
  refine thn (po_none.run pins s2 σ H2 (fun o H3 => o = none ∧ H3 = H2) I2 ⟨rfl, rfl⟩) fun vu s3 ⟨u, H3, I3, pu, eu, e3⟩ => ?_
  subst eu e3
  refine thn (hst.run pins s3 σ H3 (fun o H4 => o = some (-1) ∧ H4 = H3) I3 ⟨1, rfl, -1, rfl, rfl, rfl⟩) fun vs s4 ⟨o, H4, I4, ps, eo, e4⟩ => ?_
  subst eo e4
  have I5 : Inv X pins σ H4 { s4 with heap := s4.heap.push { cls := .type "slice", data := .fields #[vl, vu, vs] } } := I4.kept (t' := s4.toks) fun b ob q => Heap.get?_push_of_some _ q
  unfold oRev at hd
  split at hd
  · cases hd
    obtain ⟨a, xs, rfl, ha, hl⟩ := asT_rep rd rfl
    cases r1
    obtain ⟨its, r, ht, hz⟩ := I5.tuple ha
    have hlen := r.length
    show wpAny (model X.prog X.w) X.A (subscriptTail e (.Slice none none (some (.UnaryOp .USub (.Constant (.int 1) k p1) p2)) p3) (.ref a) (.ref s4.heap.objs.size)) (EP X pins σ Q) X.xe { s4 with heap := s4.heap.push { cls := .type "slice", data := .fields #[vl, vu, vs] } }
    refine tail_any (ops := [.ref a, .ref s4.heap.objs.size]) ht.typeIs (PyProof.Rows.slot_tuple_getitem.lookup) ?_ (by with_unfolding_all rfl)
    refine tupRev_get ht (Heap.IsSliceOf.new _ vl vu vs) pl pu ps ?_ (by rw [List.size_toArray]; omega)
    have hp := I5.hok.fresh (Nat.le_refl _)
    refine ⟨.ref _, _, I5.laid (t' := s4.toks) (o := .tup xs.reverse) (fun b ob q => Heap.get?_push_of_some _ q) (Nat.le_refl _) ?_, rfl, q1 w1 _ _ (g1.new hp) (Ext.new g1 hp) (new_tup g1 hp hl.reverse)⟩
    exact ⟨by rw [List.length_reverse]; exact hz, _, r.reverse, IsTup.new _ _⟩
  · split at hd
    · rename_i l hl
      cases hd
      obtain ⟨a, xs, rfl, hx, hr⟩ := asL_rep g1 rd hl
      cases r1
      obtain ⟨its, r, ht, hz⟩ := I5.list hx
      have hlen := r.length
      show wpAny (model X.prog X.w) X.A (subscriptTail e (.Slice none none (some (.UnaryOp .USub (.Constant (.int 1) k p1) p2)) p3) (.ref a) (.ref s4.heap.objs.size)) (EP X pins σ Q) X.xe { s4 with heap := s4.heap.push { cls := .type "slice", data := .fields #[vl, vu, vs] } }
      refine tail_any (ops := [.ref a, .ref s4.heap.objs.size]) ht.isList.typeIs (PySem.slot_list_getitem.lookup) ?_ (by with_unfolding_all rfl)
      refine wpAny_getItem_list_slice ht.isList (Heap.IsSliceOf.new _ vl vu vs) pl pu ps (by decide) ?_ (by rw [List.size_toArray]; omega)
      rw [PySem.W.krv_pick]
      have hp := I5.hok.fresh (Nat.le_refl _)
      refine ⟨.ref _, _, I5.laid (t' := s4.toks) (o := .lst xs.reverse) (fun b ob q => Heap.get?_push_of_some _ q) (Nat.le_refl _) ?_, rfl, q1 (w1.fzn _) _ _ (g1.newF hp) ((Ext.new g1 hp).trans Ext.fzn) (new_lst g1 hp hr.reverse)⟩
      exact ⟨by rw [List.length_reverse]; exact hz, _, 0, r.reverse, Heap.get?_push_size _ rfl⟩
    · cases hd
end
end Z

set_option maxRecDepth 100000
set_option maxHeartbeats 4000000
set_option autoImplicit false
namespace Z
open PySem PySem.Spec PyProof.Rows L2

/-! ### unary, truth -/
def un2of (X : Cx) (o : D → Mem → Option D) : V → Hp → VK → Prop := fun x H Q => ∃ w m d r, Good X.K w H m ∧ Rep X.K w H d x ∧ o d m = some r ∧ ∀ w' v H', Good X.K w' H' m → Ext X.K w H w' H' → Rep X.K w' H' r v → Q v H'
def oNeg (a : D) (_ : Mem) : Option D := match a with
  | .int i => some (.int (-i))
  | _ => none
def oTru (a : D) (m : Mem) : Option Bool := match a with
  | .non => some false
  | .bl b => some b
  | .int i => some (i != 0)
  | .str z => if z.length ≤ SL then some ((z.length : Int) != 0) else none
  | .tup l => some (!l.isEmpty)
  | a => match asL m a with
    | some l => some (!l.isEmpty)
    | none => none
def pNotV (p : PEF) : PEF := pUn (fun d m => toNbl (oTru d m)) p
def toOk (r : Option Bool) (m : Mem) : Option (Out Bool) := match r with
  | some b => some (.ok b m)
  | none => none
theorem toOk_some {r : Option Bool} {m : Mem} {o : Out Bool} (h : toOk r m = some o) : ∃ b, r = some b ∧ o = .ok b m := by
  cases r with
  | none => cases h
  | some d => cases h; exact ⟨d, rfl, rfl⟩
/-- a value as a test -/
def pTru (p : PEF) : PTF := fun e m => bnd (p e m) fun d m1 => toOk (oTru d m1) m1
def asB (d : D) : Option Bool := match d with
  | .bl b => some b
  | _ => none
/-- a comparison as a test -/
def pTst (p : PEF) : PTF := fun e m => bnd (p e m) fun d m1 => toOk (asB d) m1
def pAndT (p q : PTF) : PTF := fun e m => bnd (p e m) fun b m1 => if b = true then q e m1 else some (.ok false m1)
def pOrT (p q : PTF) : PTF := fun e m => bnd (p e m) fun b m1 => if b = true then some (.ok true m1) else q e m1
def pNotT (p : PTF) : PTF := fun e m => bnd (p e m) fun b m1 => some (.ok (!b) m1)
/-- .. as values -/
def pAndV (p q : PEF) : PEF := fun e m => bnd (p e m) fun d m1 => match oTru d m1 with
  | some true => q e m1
  | some false => some (.ok d m1)
  | none => none
def pOrV (p q : PEF) : PEF := fun e m => bnd (p e m) fun d m1 => match oTru d m1 with
  | some true => some (.ok d m1)
  | some false => q e m1
  | none => none
def pIf (c : PTF) (p q : PEF) : PEF := fun e m => bnd (c e m) fun b m1 => if b = true then p e m1 else q e m1
def pChain (o o' : VK2) (p q r : PEF) : PEF := fun e m => bnd (p e m) fun a m1 => bnd (q e m1) fun b m2 => match o a b m2 with
  | some (.bl true) => bnd (r e m2) fun c m3 => lift1 (o' b c m3) m3
  | some (.bl false) => some (.ok (.bl false) m2)
  | _ => none
section
variable {X : Cx} {W : WX} {a b c : Expr} {p q r' : PEF} {pt qt : PTF} {pos : Pos} {rest : List Expr}
theorem tru_rep {K : PySem.W.Frag} {w : Wd} {H : Hp} {m : Mem} {d : D} {v : V} {k : Bool} (g : Good K w H m) (r : Rep K w H d v) (h : oTru d m = some k) : TruV K v H k := by
  unfold oTru at h
  split at h
  · obtain rfl := rep_non r; cases h; rfl
  · obtain rfl := rep_bl r; cases h; rfl
  · obtain rfl := rep_int r; cases h; rfl
  · obtain rfl := rep_str r
    split at h
    · rename_i hz
      cases h
      exact ⟨by rw [← SL_eq]; exact hz, rfl⟩
    · cases h
  · cases h
    obtain ⟨a, xs, rfl, ha, hl⟩ := asT_rep r rfl
    refine .inr (.inl ⟨xs, ha, ?_⟩)
    have := hl.len
    rename_i l
    cases l <;> cases xs <;> simp_all
  · split at h
    · rename_i l hl
      cases h
      obtain ⟨a, xs, rfl, ha, hr⟩ := asL_rep g r hl
      refine .inl ⟨xs, ha, ?_⟩
      have := hr.len
      cases l <;> cases xs <;> simp_all
    · cases h
theorem un_oNeg : UnR X (unaryOp .USub) (un2of X oNeg) := by
  intro pins s σ H x v Q I rx h
  obtain ⟨w, m, d, r, g, hx, h, q⟩ := h
  unfold oNeg at h
  split at h
  · obtain rfl := rep_int hx
    cases h
    exact un_neg pins s σ H _ v Q I rx ⟨_, rfl, q w _ H g Ext.refl (by simp only [Rep])⟩
  · cases h
theorem tUn_of {o : D → Mem → Option D} {σ : L2.St} {H : Hp} {Q : VK} (h : tM X W (pUn o p) σ H Q) : tUn (un2of X o) (tM X W p) σ H Q := by
  obtain ⟨w, m, e, r, g, ev, h, qq⟩ := h
  refine tM_bnd g ev h qq fun d1 m1 w1 v1 H1 h1 g1 x1 r1 ev1 q1 => ?_
  obtain ⟨d, hd, rfl⟩ := lift1_some h1
  exact ⟨w1, m1, d1, d, g1, r1, hd, q1⟩
theorem me_neg (ha : ME X W a p) : ME X W (.UnaryOp .USub a pos) (pUn oNeg p) := PE.imp (pe_un un_oNeg ha) fun _ _ _ h => tUn_of h
theorem me_not (ha : ME X W a p) : ME X W (.UnaryOp .Not a pos) (pNotV p) := PE.imp (pe_notT ha) fun σ H Q ⟨w, m, e, r, g, ev, h, q⟩ => by
  refine tM_bnd g ev h q fun d1 m1 w1 v1 H1 h1 g1 x1 r1 ev1 q1 => ?_
  obtain ⟨d, hd, rfl⟩ := lift1_some h1
  obtain ⟨k, hk, rfl⟩ := toNbl_some hd
  exact ⟨k, tru_rep g1 r1 hk, q1.now g1 (by simp only [Rep])⟩
theorem mt_tru (ha : ME X W a p) (he : ∀ whole, isTrue a X.env whole = (do let v ← whole; standAt a.pos; holding [v] (truthy v)) := by intro _; rfl) : MT X W a (pTru p) :=
  PT.imp (pt_truth ha he) fun σ H Q ⟨w, m, e, r, g, ev, h, q⟩ => by
    refine tM_bndT g ev h q fun d1 m1 w1 v1 H1 h1 g1 x1 r1 ev1 q1 => ?_
    obtain ⟨k, hk, rfl⟩ := toOk_some h1
    exact ⟨k, tru_rep g1 r1 hk, q1 w1 H1 g1 Ext.refl⟩
theorem mt_cmp {op : CmpOp} {o : VK2} (ho : OpR X (compareOp op) (r2of X o)) (ha : ME X W a p) (hb : ME X W b q) (hm : behindInMarks op b = false) : MT X W (.Compare a [op] [b] pos) (pTst (pBin o p q)) :=
  PT.imp (pt_cmpR ho ha hb hm) fun σ H Q ⟨w, m, e, r, g, ev, h, qq⟩ => by
    refine tOp_of (o := o) ⟨w, m, e, ?_⟩
    unfold pTst at h
    cases hp : pBin o p q e m with
    | none => rw [hp] at h; cases h
    | some u =>
      rw [hp] at h
      cases u with
      | exc c m1 => cases h; exact ⟨.exc c m1, g, ev, rfl, qq⟩
      | ok d m1 =>
        refine ⟨.ok d m1, g, ev, rfl, fun w1 v1 H1 g1 x1 r1 => ?_⟩
        have h : toOk (asB d) m1 = some r := h
        obtain ⟨k, hk, rfl⟩ := toOk_some h
        cases d with
        | bl kb => cases hk; exact ⟨_, rep_bl r1, qq w1 H1 g1 x1⟩
        | _ => cases hk
theorem mw_and1 (ha : MT X W a pt) : MW X W (.BoolOp .And [a] pos) pt := pw_and1 ha
theorem mw_or1 (ha : MT X W a pt) : MW X W (.BoolOp .Or [a] pos) pt := pw_or1 ha
theorem mw_and (ha : MT X W a pt) (hb : MW X W (.BoolOp .And (b :: rest) pos) qt) : MW X W (.BoolOp .And (a :: b :: rest) pos) (pAndT pt qt) := PW.imp (pw_and ha hb) fun σ H Q ⟨w, m, e, r, g, ev, h, q⟩ => by
  refine tT_bndT g ev h q fun k m1 w1 H1 h1 g1 x1 ev1 q1 => ?_
  split at h1
  · rename_i hk
    rw [if_pos hk]
    exact ⟨w1, m1, e, r, g1, ev1, h1, q1⟩
  · rename_i hk
    rw [if_neg hk]
    cases h1
    exact q1 w1 H1 g1 Ext.refl
theorem mw_or (ha : MT X W a pt) (hb : MW X W (.BoolOp .Or (b :: rest) pos) qt) : MW X W (.BoolOp .Or (a :: b :: rest) pos) (pOrT pt qt) := PW.imp (pw_or ha hb) fun σ H Q ⟨w, m, e, r, g, ev, h, q⟩ => by
  refine tT_bndT g ev h q fun k m1 w1 H1 h1 g1 x1 ev1 q1 => ?_
  split at h1
  · rename_i hk
    rw [if_pos hk]
    cases h1
    exact q1 w1 H1 g1 Ext.refl
  · rename_i hk
    rw [if_neg hk]
    exact ⟨w1, m1, e, r, g1, ev1, h1, q1⟩
theorem mt_bool (h : MW X W a pt) : MT X W a pt := PW.pt h
theorem mt_not (ha : MT X W a pt) : MT X W (.UnaryOp .Not a pos) (pNotT pt) := PT.imp (pt_not ha) fun σ H Q ⟨w, m, e, r, g, ev, h, q⟩ => by
  refine tT_bndT g ev h q fun k m1 w1 H1 h1 g1 x1 ev1 q1 => ?_
  cases h1
  exact q1 w1 H1 g1 Ext.refl
theorem me_one {op} (h : ME X W a p) : ME X W (.BoolOp op [a] pos) p := pe_one h
theorem me_and (ha : ME X W a p) (hb : ME X W (.BoolOp .And (b :: rest) pos) q) : ME X W (.BoolOp .And (a :: b :: rest) pos) (pAndV p q) := PE.imp (pe_andT ha hb) fun σ H Q ⟨w, m, e, r, g, ev, h, qq⟩ => by
  refine tM_bnd g ev h qq fun d1 m1 w1 v1 H1 h1 g1 x1 r1 ev1 q1 => ?_
  split at h1
  · rename_i hk
    exact ⟨true, tru_rep g1 r1 hk, by rw [if_pos rfl]; exact ⟨w1, m1, e, r, g1, ev1, h1, q1⟩⟩
  · rename_i hk
    cases h1
    exact ⟨false, tru_rep g1 r1 hk, by rw [if_neg Bool.false_ne_true]; exact q1.now g1 r1⟩
  · cases h1
theorem me_or (ha : ME X W a p) (hb : ME X W (.BoolOp .Or (b :: rest) pos) q) : ME X W (.BoolOp .Or (a :: b :: rest) pos) (pOrV p q) := PE.imp (pe_orT ha hb) fun σ H Q ⟨w, m, e, r, g, ev, h, qq⟩ => by
  refine tM_bnd g ev h qq fun d1 m1 w1 v1 H1 h1 g1 x1 r1 ev1 q1 => ?_
  split at h1
  · rename_i hk
    cases h1
    exact ⟨true, tru_rep g1 r1 hk, by rw [if_pos rfl]; exact q1.now g1 r1⟩
  · rename_i hk
    exact ⟨false, tru_rep g1 r1 hk, by rw [if_neg Bool.false_ne_true]; exact ⟨w1, m1, e, r, g1, ev1, h1, q1⟩⟩
  · cases h1
theorem me_if (hc : MT X W c pt) (ha : ME X W a p) (hb : ME X W b q) : ME X W (.IfExp c a b pos) (pIf pt p q) := PE.imp (pe_ifExp hc ha hb) fun σ H Q ⟨w, m, e, r, g, ev, h, qq⟩ => by
  refine tT_bnd g ev h qq fun k m1 w1 H1 h1 g1 x1 ev1 q1 => ?_
  split at h1
  · rename_i hk
    rw [if_pos hk]
    exact ⟨w1, m1, e, r, g1, ev1, h1, q1⟩
  · rename_i hk
    rw [if_neg hk]
    exact ⟨w1, m1, e, r, g1, ev1, h1, q1⟩
theorem chain_of {o o' : VK2} {σ : L2.St} {H : Hp} {Q : VK} (hbl : ∀ a b m d, o a b m = some d → ∃ k, d = .bl k) (h : tM X W (pChain o o' p q r') σ H Q) : tChain (r2of X o) (r2of X o') (tM X W p) (tM X W q) (tM X W r') σ H Q := by
  obtain ⟨w, m, e, r, g, ev, h, qq⟩ := h
  refine tM_bnd g ev h qq fun d1 m1 w1 v1 H1 h1 g1 x1 r1 ev1 q1 => ?_
  refine tM_bnd g1 ev1 h1 q1 fun d2 m2 w2 v2 H2 h2 g2 x2 r2 ev2 q2 => ?_
  split at h2
  · rename_i hk
    refine ⟨w2, m2, d1, d2, _, g2, r1.mono x2, r2, hk, fun w3 v3 H3 g3 x3 r3 => ?_⟩
    obtain rfl := rep_bl r3
    refine ⟨true, rfl, ?_⟩
    rw [if_pos rfl]
    refine tM_bnd g3 (ev2.mono x3) h2 (PostE.ext q2 x3) fun d3 m3 w4 v4 H4 h3 g4 x4 r4 ev4 q4 => ?_
    obtain ⟨d, hd, rfl⟩ := lift1_some h3
    exact ⟨w4, m3, d2, d3, d, g4, (r2.mono x3).mono x4, r4, hd, q4⟩
  · rename_i hk
    refine ⟨w2, m2, d1, d2, _, g2, r1.mono x2, r2, hk, fun w3 v3 H3 g3 x3 r3 => ?_⟩
    obtain rfl := rep_bl r3
    refine ⟨false, rfl, ?_⟩
    rw [if_neg Bool.false_ne_true]
    cases h2
    exact q2 w3 _ H3 g3 x3 r3
  · cases h2
theorem me_chain {op op' : CmpOp} {o o' : VK2} (hbl : ∀ a b m d, o a b m = some d → ∃ k, d = .bl k) (ho : OpR X (compareOp op) (r2of X o)) (ho' : OpR X (compareOp op') (r2of X o')) (ha : ME X W a p) (hb : ME X W b q) (hc : ME X W c r')
    (hm : lastMarks [op, op'] [b, c] = false := by with_unfolding_all rfl) : ME X W (.Compare a [op, op'] [b, c] pos) (pChain o o' p q r') := PE.imp (pe_chain ho ho' ha hb hc hm) fun _ _ _ h => chain_of hbl h
theorem mt_chain {op op' : CmpOp} {o o' : VK2} (hbl : ∀ a b m d, o a b m = some d → ∃ k, d = .bl k) (ho : OpR X (compareOp op) (r2of X o)) (ho' : OpR X (compareOp op') (r2of X o')) (ha : ME X W a p) (hb : ME X W b q) (hc : ME X W c r')
    (hm : lastMarks [op, op'] [b, c] = false := by with_unfolding_all rfl) : MT X W (.Compare a [op, op'] [b, c] pos) (pTst (pChain o o' p q r')) := PT.imp (pt_chain ho ho' ha hb hc hm) fun σ H Q ⟨w, m, e, r, g, ev, h, qq⟩ => by
  refine chain_of (o := o) (o' := o') hbl ⟨w, m, e, ?_⟩
  unfold pTst at h
  cases hp : pChain o o' p q r' e m with
  | none => rw [hp] at h; cases h
  | some u =>
    rw [hp] at h
    cases u with
    | exc c m1 => cases h; exact ⟨.exc c m1, g, ev, rfl, qq⟩
    | ok d m1 =>
      refine ⟨.ok d m1, g, ev, rfl, fun w1 v1 H1 g1 x1 r1 => ?_⟩
      have h : toOk (asB d) m1 = some r := h
      obtain ⟨k, hk, rfl⟩ := toOk_some h
      cases d with
      | bl kb => cases hk; exact ⟨_, rep_bl r1, qq w1 H1 g1 x1⟩
      | _ => cases hk
theorem bl_oLt (a b : D) (m : Mem) (d : D) (h : oLt a b m = some d) : ∃ k, d = .bl k := by
  unfold oLt at h
  split at h
  · cases h; exact ⟨_, rfl⟩
  · cases h; exact ⟨_, rfl⟩
  · split at h <;> cases h
    exact ⟨_, rfl⟩
  · cases h
theorem bl_oLe (a b : D) (m : Mem) (d : D) (h : oLe a b m = some d) : ∃ k, d = .bl k := by
  unfold oLe at h
  split at h <;> cases h <;> exact ⟨_, rfl⟩
theorem bl_oEq (a b : D) (m : Mem) (d : D) (h : oEq a b m = some d) : ∃ k, d = .bl k := by
  obtain ⟨k, _, h⟩ := toBl_some h
  exact ⟨k, h⟩
end

/-! ### argument lists, displays -/
def pNil : PAF := fun _ m => some (.ok [] m)
def pCons (p : PEF) (q : PAF) : PAF := fun e m => bnd (p e m) fun d m1 => bnd (q e m1) fun ds m2 => some (.ok (d :: ds) m2)
def pTup (p : PAF) : PEF := fun e m => bnd (p e m) fun ds m1 => if ds.length ≤ SL then some (.ok (.tup ds) m1) else none
def pLst (p : PAF) : PEF := fun e m => bnd (p e m) fun ds m1 => if ds.length ≤ SL then some (.ok (.lst ds) m1) else none
/-- a list that will change -/
def pLstM (p : PAF) : PEF := fun e m => bnd (p e m) fun ds m1 => if ds.length ≤ SL then some (.ok (.loc m1.length) (m1 ++ [.lst ds])) else none
/-- a list that will change no more -/
def frzD (d : D) (m : Mem) : Out D := match d with
  | .loc i => match m[i]? with
    | some (.lst l) => .ok (.lst l) (m.set i (.frz l))
    | some (.frz l) => .ok (.lst l) m
    | none => .ok d m
  | d => .ok d m
def pFrz (p : PEF) : PEF := fun e m => bnd (p e m) fun d m1 => some (frzD d m1)
section
variable {X : Cx} {W : WX} {e : Expr} {es : List Expr} {p : PEF} {q : PAF} {pos : Pos}
theorem ma_nil : MA X W [] pNil := PA.imp pa_nil fun σ H Q ⟨w, m, e, r, g, ev, h, q⟩ => by
  cases h
  exact q w [] H g Ext.refl RepL.nil
theorem ma_cons (ha : ME X W e p) (hr : MA X W es q) (hs : starEach (e :: es) X.env = (false, eval e X.env) :: starEach es X.env := by rfl) : MA X W (e :: es) (pCons p q) := PA.imp (pa_cons ha hr hs) fun σ H Q ⟨w, m, e, r, g, ev, h, q⟩ => by
  refine tM_bndA g ev h q fun d1 m1 w1 v1 H1 h1 g1 x1 r1 ev1 q1 => ?_
  refine tA_bndA g1 ev1 h1 q1 fun d2 m2 w2 v2 H2 h2 g2 x2 r2 ev2 q2 => ?_
  cases h2
  exact q2 w2 _ H2 g2 Ext.refl (RepL.cons (r1.mono x2) r2)
theorem me_tup {x1} (h : MA X W es q) : ME X W (.Tuple es x1 pos) (pTup q) := PE.imp (pe_tup h) fun σ H Q ⟨w, m, e, r, g, ev, h, q⟩ => by
  refine tA_bnd g ev h q fun d1 m1 w1 v1 H1 h1 g1 x1 r1 ev1 q1 => ?_
  split at h1
  · rename_i hz
    cases h1
    exact ⟨by rw [r1.len, ← SL_eq]; exact hz, fun p hp => q1 w1 _ _ (g1.new hp) (Ext.new g1 hp) (new_tup g1 hp r1)⟩
  · cases h1
theorem me_lst (h : MA X W es q) : ME X W (.List es pos) (pLst q) := PE.imp (pe_lst h) fun σ H Q ⟨w, m, e, r, g, ev, h, q⟩ => by
  refine tA_bnd g ev h q fun d1 m1 w1 v1 H1 h1 g1 x1 r1 ev1 q1 => ?_
  split at h1
  · rename_i hz
    cases h1
    exact ⟨by rw [r1.len, ← SL_eq]; exact hz, fun p hp => q1 (w1.fzn p) _ _ (g1.newF hp) ((Ext.new g1 hp).trans Ext.fzn) (new_lst g1 hp r1)⟩
  · cases h1
theorem new_loc {K : PySem.W.Frag} {w : Wd} {H : Hp} {m : Mem} {p : Addr} (g : Good K w H m) : Rep K (w.push p) H (.loc m.length) (.ref p) := by
  simp only [Rep]
  refine ⟨p, rfl, ?_⟩
  show (w.ρ ++ [p])[m.length]? = some p
  rw [← g.len, List.getElem?_append_right (Nat.le_refl _), Nat.sub_self]
  rfl
theorem rep_push {K : PySem.W.Frag} {w : Wd} {H H' : Hp} {m : Mem} {p : Addr} (g : Good K w H m) : Rep K (w.push p) H' (.loc m.length) (.ref p) := by
  have := new_loc (p := p) g
  simp only [Rep] at this ⊢
  exact this
theorem me_lstM (h : MA X W es q) : ME X W (.List es pos) (pLstM q) := PE.imp (pe_lst h) fun σ H Q ⟨w, m, e, r, g, ev, h, q⟩ => by
  refine tA_bnd g ev h q fun d1 m1 w1 v1 H1 h1 g1 x1 r1 ev1 q1 => ?_
  split at h1
  · rename_i hz
    cases h1
    exact ⟨by rw [r1.len, ← SL_eq]; exact hz, fun p hp => q1 (w1.push p) _ _ (g1.newL hp r1) ((Ext.new g1 hp).trans Ext.push) (rep_push g1)⟩
  · cases h1
theorem frz_rep {K : PySem.W.Frag} {w : Wd} {H : Hp} {m : Mem} {d : D} {v : V} (g : Good K w H m) (r : Rep K w H d v) : ∃ w' d' m', frzD d m = .ok d' m' ∧ Good K w' H m' ∧ Ext K w H w' H ∧ Rep K w' H d' v := by
  cases d with
  | loc i =>
    have hr := r
    simp only [Rep] at r
    obtain ⟨a, rfl, r2⟩ := r
    obtain ⟨c, hc⟩ := g.cell r2
    cases c with
    | lst l =>
      obtain ⟨h1, h2⟩ := g.freeze hc r2
      exact ⟨w.fzn a, .lst l, m.set i (.frz l), by simp only [frzD, hc], h1, Ext.fzn, h2⟩
    | frz l => exact ⟨w, .lst l, m, by simp only [frzD, hc], g, Ext.refl, g.thaw hc r2⟩
  | _ => exact ⟨w, _, m, rfl, g, Ext.refl, r⟩
theorem me_frz (h : ME X W e p) : ME X W e (pFrz p) := PE.imp h fun σ H Q ⟨w, m, e, r, g, ev, h, q⟩ => by
  refine tM_bnd g ev h q fun d1 m1 w1 v1 H1 h1 g1 x1 r1 ev1 q1 => ?_
  cases h1
  obtain ⟨w', d', m', e1, g', x', r'⟩ := frz_rep g1 r1
  rw [e1] at q1
  exact q1 w' _ H1 g' x' r'
end

/-! ### calls of built-ins -/
def rcOf (X : Cx) (o : List D → Mem → Option D) : List V → Hp → VK → Prop := fun xs H Q => ∃ w m ds r, Good X.K w H m ∧ RepL X.K w H ds xs ∧ o ds m = some r ∧ ∀ w' v H', Good X.K w' H' m → Ext X.K w H w' H' → Rep X.K w' H' r v → Q v H'
def pCall (o : List D → Mem → Option D) (p : PAF) : PEF := fun e m => bnd (p e m) fun ds m1 => lift1 (o ds m1) m1
def oLen (ds : List D) (m : Mem) : Option D := match ds with
  | [.tup l] => some (.int l.length)
  | [.str z] => if z.length ≤ SL then some (.int z.length) else none
  | [a] => match asL m a with
    | some l => some (.int l.length)
    | none => none
  | _ => none
def oAbs (ds : List D) (_ : Mem) : Option D := match ds with
  | [.int i] => some (.int (if i < 0 then -i else i))
  | _ => none
def oMax2 (ds : List D) (_ : Mem) : Option D := match ds with
  | [.int i, .int j] => some (.int (if j > i then j else i))
  | _ => none
def oMin2 (ds : List D) (_ : Mem) : Option D := match ds with
  | [.int i, .int j] => some (.int (if j < i then j else i))
  | _ => none
def oInt (ds : List D) (_ : Mem) : Option D := match ds with
  | [.int i] => some (.int i)
  | [.bl k] => some (.int (if k then 1 else 0))
  | _ => none
def oList (ds : List D) (m : Mem) : Option D := match ds with
  | [.tup l] => some (.lst l)
  | [a] => match asL m a with
    | some l => some (.lst l)
    | none => none
  | _ => none
def oTuple (ds : List D) (m : Mem) : Option D := match ds with
  | [.tup l] => some (.tup l)
  | [a] => match asL m a with
    | some l => some (.tup l)
    | none => none
  | _ => none
def blsOf : List D → Option (List Bool)
  | [] => some []
  | .bl b :: l => match blsOf l with
    | some r => some (b :: r)
    | none => none
  | _ => none
def oAll (ds : List D) (m : Mem) : Option D := match ds with
  | [a] => match asL m a with
    | some l => match blsOf l with
      | some bs => some (.bl (bs.all id))
      | none => none
    | none => none
  | _ => none
def oAny (ds : List D) (m : Mem) : Option D := match ds with
  | [a] => match asL m a with
    | some l => match blsOf l with
      | some bs => some (.bl (bs.any id))
      | none => none
    | none => none
  | _ => none
def oSum (ds : List D) (m : Mem) : Option D := match ds with
  | [a] => match asL m a with
    | some l => match intsOf l with
      | some ns => some (.int ns.sum)
      | none => none
    | none => none
  | _ => none
def oStr (ds : List D) (_ : Mem) : Option D := match ds with
  | [.int i] => if i.natAbs.log2 < 1920 then some (.str (Str.ofString (toString i))) else none
  | _ => none
section
variable {X : Cx} {W : WX} {x : Str} {p pos : Pos} {e : Expr} {es : List Expr} {q : PAF} {id T : String} {o : List D → Mem → Option D}
theorem tCB_of {σ : L2.St} {H : Hp} {Q : VK} (h : tM X W (pCall o q) σ H Q) : tCB (rcOf X o) (tA X W q) σ H Q := by
  obtain ⟨w, m, e, r, g, ev, h, qq⟩ := h
  refine tA_bnd g ev h qq fun d1 m1 w1 v1 H1 h1 g1 x1 r1 ev1 q1 => ?_
  obtain ⟨d, hd, rfl⟩ := lift1_some h1
  exact ⟨w1, m1, d1, d, g1, r1, hd, q1⟩
theorem me_callB (hc : CallR X (.builtin id) (rcOf X o)) (hg : Gl X x) (hm : X.mg x = none) (hv : bootBuiltins x = some (.builtin id)) (ha : MA X W (e :: es) q) (hn : x ≠ "__name__" := by decide) (hdb : (x == ("__debug__" : Str)) = false := by decide)
    (he : starEach (e :: es) X.env = (false, eval e X.env) :: starEach es X.env := by rfl) (hpl : (backTo pos (starEach es X.env)).any (·.1) = false := by rfl) : ME X W (.Call (.Name x p) (e :: es) [] pos) (pCall o q) :=
  PE.imp (pe_callB hc hg hm hv ha hn hdb he hpl) fun _ _ _ h => tCB_of h
theorem me_callTy (hc : CallR X (.type T) (rcOf X o)) (hg : Gl X x) (hm : X.mg x = none) (hv : bootBuiltins x = some (.type T)) (ha : MA X W (e :: es) q) (hn : x ≠ "__name__" := by decide) (hdb : (x == ("__debug__" : Str)) = false := by decide)
    (he : starEach (e :: es) X.env = (false, eval e X.env) :: starEach es X.env := by rfl) (hpl : (backTo pos (starEach es X.env)).any (·.1) = false := by rfl) : ME X W (.Call (.Name x p) (e :: es) [] pos) (pCall o q) :=
  PE.imp (pe_callTy hc hg hm hv ha hn hdb he hpl) fun _ _ _ h => tCB_of h
theorem repL1 {K : PySem.W.Frag} {w : Wd} {H : Hp} {a : D} {xs : List V} (h : RepL K w H [a] xs) : ∃ v, xs = [v] ∧ Rep K w H a v := by
  obtain ⟨v, r, rfl, h1, h2⟩ := RepL.cons_iff.mp h
  rw [RepL.nil_iff.mp h2]
  exact ⟨v, rfl, h1⟩
theorem repL2 {K : PySem.W.Frag} {w : Wd} {H : Hp} {a b : D} {xs : List V} (h : RepL K w H [a, b] xs) : ∃ v u, xs = [v, u] ∧ Rep K w H a v ∧ Rep K w H b u := by
  obtain ⟨v, r, rfl, h1, h2⟩ := RepL.cons_iff.mp h
  obtain ⟨u, rfl, h3⟩ := repL1 h2
  exact ⟨v, u, rfl, h1, h3⟩
theorem cr_oLen : CallR X (.builtin "len") (rcOf X oLen) := by
  intro pins s σ H xs us Q I r h
  obtain ⟨w, m, ds, d, g, hd, h, q⟩ := h
  unfold oLen at h
  split at h
  · cases h
    obtain ⟨v, rfl, rv⟩ := repL1 hd
    obtain ⟨a, ys, rfl, ha, hl⟩ := asT_rep rv rfl
    exact call_len pins s σ H _ us Q I r ⟨_, _, rfl, .inr ⟨ys, ha, rfl⟩, by rw [hl.len]; exact q w _ H g Ext.refl (by simp only [Rep])⟩
  · split at h
    · rename_i hz
      cases h
      obtain ⟨v, rfl, rv⟩ := repL1 hd
      obtain rfl := rep_str rv
      exact call_len pins s σ H _ us Q I r ⟨_, _, rfl, ⟨by rw [← SL_eq]; exact hz, rfl⟩, q w _ H g Ext.refl (by simp only [Rep])⟩
    · cases h
  · split at h
    · rename_i l hl
      cases h
      obtain ⟨v, rfl, rv⟩ := repL1 hd
      obtain ⟨a, ys, rfl, ha, hr⟩ := asL_rep g rv hl
      exact call_len pins s σ H _ us Q I r ⟨_, _, rfl, .inl ⟨ys, ha, rfl⟩, by rw [hr.len]; exact q w _ H g Ext.refl (by simp only [Rep])⟩
    · cases h
  · cases h
theorem cr_oAbs : CallR X (.builtin "abs") (rcOf X oAbs) := by
  intro pins s σ H xs us Q I r h
  obtain ⟨w, m, ds, d, g, hd, h, q⟩ := h
  unfold oAbs at h
  split at h
  · cases h
    obtain ⟨v, rfl, rv⟩ := repL1 hd
    obtain rfl := rep_int rv
    exact call_abs pins s σ H _ us Q I r ⟨_, rfl, q w _ H g Ext.refl (by simp only [Rep])⟩
  · cases h
theorem cr_oMax2 (hc : X.calm = true) : CallR X (.builtin "max") (rcOf X oMax2) := by
  intro pins s σ H xs us Q I r h
  obtain ⟨w, m, ds, d, g, hd, h, q⟩ := h
  unfold oMax2 at h
  split at h
  · cases h
    obtain ⟨v, u, rfl, rv, ru⟩ := repL2 hd
    obtain rfl := rep_int rv
    obtain rfl := rep_int ru
    exact call_max2 hc pins s σ H _ us Q I r ⟨_, _, rfl, q w _ H g Ext.refl (by simp only [Rep])⟩
  · cases h
theorem cr_oMin2 (hc : X.calm = true) : CallR X (.builtin "min") (rcOf X oMin2) := by
  intro pins s σ H xs us Q I r h
  obtain ⟨w, m, ds, d, g, hd, h, q⟩ := h
  unfold oMin2 at h
  split at h
  · cases h
    obtain ⟨v, u, rfl, rv, ru⟩ := repL2 hd
    obtain rfl := rep_int rv
    obtain rfl := rep_int ru
    exact call_min2 hc pins s σ H _ us Q I r ⟨_, _, rfl, q w _ H g Ext.refl (by simp only [Rep])⟩
  · cases h
theorem cr_oInt : CallR X (.type "int") (rcOf X oInt) := by
  intro pins s σ H xs us Q I r h
  obtain ⟨w, m, ds, d, g, hd, h, q⟩ := h
  unfold oInt at h
  split at h
  · cases h
    obtain ⟨v, rfl, rv⟩ := repL1 hd
    obtain rfl := rep_int rv
    exact call_int1 pins s σ H _ us Q I r (.inl ⟨_, rfl, q w _ H g Ext.refl (by simp only [Rep])⟩)
  · cases h
    obtain ⟨v, rfl, rv⟩ := repL1 hd
    obtain rfl := rep_bl rv
    exact call_int1 pins s σ H _ us Q I r (.inr ⟨_, rfl, q w _ H g Ext.refl (by simp only [Rep])⟩)
  · cases h
theorem cr_oStr : CallR X (.type "str") (rcOf X oStr) := by
  intro pins s σ H xs us Q I r h
  obtain ⟨w, m, ds, d, g, hd, h, q⟩ := h
  unfold oStr at h
  split at h
  · split at h
    · rename_i hl
      cases h
      obtain ⟨v, rfl, rv⟩ := repL1 hd
      obtain rfl := rep_int rv
      exact call_str_int pins s σ H _ us Q I r ⟨_, rfl, hl, q w _ H g Ext.refl (by simp only [Rep])⟩
    · cases h
  · cases h
theorem cr_oList : CallR X (.type "list") (rcOf X oList) := by
  intro pins s σ H xs us Q I r h
  obtain ⟨w, m, ds, d, g, hd, h, q⟩ := h
  unfold oList at h
  split at h
  · cases h
    obtain ⟨v, rfl, rv⟩ := repL1 hd
    obtain ⟨a, ys, rfl, ha, hl⟩ := asT_rep rv rfl
    exact call_list_of pins s σ H _ us Q I r ⟨a, ys, rfl, .inr ha, fun p hp => q (w.fzn p) _ _ (g.newF hp) ((Ext.new g hp).trans Ext.fzn) (new_lst g hp hl)⟩
  · split at h
    · rename_i l hl
      cases h
      obtain ⟨v, rfl, rv⟩ := repL1 hd
      obtain ⟨a, ys, rfl, ha, hr⟩ := asL_rep g rv hl
      exact call_list_of pins s σ H _ us Q I r ⟨a, ys, rfl, .inl ha, fun p hp => q (w.fzn p) _ _ (g.newF hp) ((Ext.new g hp).trans Ext.fzn) (new_lst g hp hr)⟩
    · cases h
  · cases h
theorem cr_oTuple : CallR X (.type "tuple") (rcOf X oTuple) := by
  intro pins s σ H xs us Q I r h
  obtain ⟨w, m, ds, d, g, hd, h, q⟩ := h
  unfold oTuple at h
  split at h
  · cases h
    obtain ⟨v, rfl, rv⟩ := repL1 hd
    have rv' := rv
    obtain ⟨a, ys, rfl, ha, hl⟩ := asT_rep rv rfl
    exact call_tuple_of pins s σ H _ us Q I r ⟨a, ys, rfl, .inr ⟨ha, q w _ H g Ext.refl rv'⟩⟩
  · split at h
    · rename_i l hl
      cases h
      obtain ⟨v, rfl, rv⟩ := repL1 hd
      obtain ⟨a, ys, rfl, ha, hr⟩ := asL_rep g rv hl
      exact call_tuple_of pins s σ H _ us Q I r ⟨a, ys, rfl, .inl ⟨ha, fun p hp => q w _ _ (g.new hp) (Ext.new g hp) (new_tup g hp hr)⟩⟩
    · cases h
  · cases h
theorem blsOf_rep {K : PySem.W.Frag} {w : Wd} {H : Hp} : ∀ {l : List D} {bs : List Bool} {xs : List V}, blsOf l = some bs → RepL K w H l xs → xs = bs.map V.bl
  | [], _, _, h, r => by simp only [blsOf] at h; cases h; exact RepL.nil_iff.mp r
  | d :: l, bs, xs, h, r => by
    cases d with
    | bl b =>
      simp only [blsOf] at h
      split at h
      · rename_i r' hr
        cases h
        obtain ⟨v, t, rfl, h1, h2⟩ := RepL.cons_iff.mp r
        rw [List.map_cons, ← blsOf_rep hr h2, rep_bl h1]
      · cases h
    | _ => simp only [blsOf] at h; cases h
theorem cr_oAll (hc : X.calm = true) : CallR X (.builtin "all") (rcOf X oAll) := by
  intro pins s σ H xs us Q I r h
  obtain ⟨w, m, ds, d, g, hd, h, q⟩ := h
  unfold oAll at h
  split at h
  · split at h
    · rename_i l hl
      split at h
      · rename_i bs hb
        cases h
        obtain ⟨v, rfl, rv⟩ := repL1 hd
        obtain ⟨a, ys, rfl, ha, hr⟩ := asL_rep g rv hl
        rw [blsOf_rep hb hr] at ha
        exact cr_all hc pins s σ H _ us Q I r ⟨a, bs, rfl, ha, q w _ H g Ext.refl (by simp only [Rep])⟩
      · cases h
    · cases h
  · cases h
theorem cr_oAny (hc : X.calm = true) : CallR X (.builtin "any") (rcOf X oAny) := by
  intro pins s σ H xs us Q I r h
  obtain ⟨w, m, ds, d, g, hd, h, q⟩ := h
  unfold oAny at h
  split at h
  · split at h
    · rename_i l hl
      split at h
      · rename_i bs hb
        cases h
        obtain ⟨v, rfl, rv⟩ := repL1 hd
        obtain ⟨a, ys, rfl, ha, hr⟩ := asL_rep g rv hl
        rw [blsOf_rep hb hr] at ha
        exact cr_any hc pins s σ H _ us Q I r ⟨a, bs, rfl, ha, q w _ H g Ext.refl (by simp only [Rep])⟩
      · cases h
    · cases h
  · cases h
theorem cr_oSum (hc : X.calm = true) : CallR X (.builtin "sum") (rcOf X oSum) := by
  intro pins s σ H xs us Q I r h
  obtain ⟨w, m, ds, d, g, hd, h, q⟩ := h
  unfold oSum at h
  split at h
  · split at h
    · rename_i l hl
      split at h
      · rename_i bs hb
        cases h
        obtain ⟨v, rfl, rv⟩ := repL1 hd
        obtain ⟨a, ys, rfl, ha, hr⟩ := asL_rep g rv hl
        rw [intsOf_eq hb] at hr
        rw [hr.ints] at ha
        exact cr_sum hc pins s σ H _ us Q I r ⟨a, bs, rfl, ha, q w _ H g Ext.refl (by simp only [Rep])⟩
      · cases h
    · cases h
  · cases h
end
end Z

set_option maxRecDepth 100000
set_option maxHeartbeats 4000000
set_option autoImplicit false
namespace Z
open PySem PySem.Spec PyProof.Rows L2

/-! ### isinstance -/
def kindD : D → Option String
  | .non => some "NoneType"
  | .bl _ => some "bool"
  | .int _ => some "int"
  | .str _ => some "str"
  | .tup _ => some "tuple"
  | .lst _ => some "list"
  | .ro _ => some "list"
  | .loc _ => some "list"
def isKind (k T : String) : Bool := k == T || (k == "bool" && T == "int")
def oIsi (T : String) (a : D) (_ : Mem) : Option D := match kindD a with
  | some k => some (.bl (isKind k T))
  | none => none
section
variable {X : Cx} {W : WX} {a : Expr} {p : PEF}
theorem ty_rep {K : PySem.W.Frag} {w : Wd} {H : Hp} {m : Mem} {d : D} {v : V} {k : String} (g : Good K w H m) (r : Rep K w H d v) (h : kindD d = some k) : TyX K H v (.type k) := by
  cases d with
  | non => cases h; obtain rfl := rep_non r; exact .base .non
  | bl b => cases h; obtain rfl := rep_bl r; exact .base (.bl b)
  | int b => cases h; obtain rfl := rep_int r; exact .base (.int b)
  | str b => cases h; obtain rfl := rep_str r; exact .base (.str b)
  | tup l =>
    cases h
    obtain ⟨a, xs, rfl, ha, hl⟩ := asT_rep r rfl
    rcases ha with (ha | ⟨o, ha⟩) | ⟨o, its, n, h1, h2, _⟩
    · exact .base (.tup ha)
    · exact .fTuple ha
    · exact .kTuple h1 h2
  | lst l =>
    cases h
    obtain ⟨a, xs, rfl, ha, hl⟩ := asH_rep (m := m) (l := l) g r rfl
    exact .base (.lst ha)
  | ro l =>
    cases h
    simp only [Rep] at r
    obtain ⟨a, xs, rfl, ha, hl⟩ := r
    rcases ha with (⟨o, ha⟩ | ⟨o, its, n, h1, h2, _⟩) | ⟨_, ha⟩
    · exact .base (.frz ha)
    · exact .kList h1 h2
    · exact .base (.lst ha)
  | loc i =>
    cases h
    simp only [Rep] at r
    obtain ⟨a, rfl, ha⟩ := r
    obtain ⟨xs, hx⟩ := g.there ha
    exact .base (.lst hx)
theorem kit_all : ∀ k ∈ ["NoneType", "bool", "int", "str", "tuple", "list"], ∀ T ∈ ["bool", "int", "str", "tuple", "list", "dict"], kitB k T = some (isKind k T) := by decide +kernel
theorem kind_mem {d : D} {k : String} (h : kindD d = some k) : k ∈ ["NoneType", "bool", "int", "str", "tuple", "list"] := by
  cases d <;> cases h <;> decide
theorem me_isi {T : String} {t : Str} {p1 p2 pos : Pos} (hT : T ∈ ["bool", "int", "str", "tuple", "list", "dict"]) (hg : Gl X "isinstance") (hm : X.mg "isinstance" = none) (hg2 : Gl X t) (hm2 : X.mg t = none) (hv : bootBuiltins t = some (.type T)) (ha : ME X W a p)
    (hn : t ≠ "__name__" := by decide) (hdb : (t == ("__debug__" : Str)) = false := by decide)
    (he : starEach [a, .Name t p2] X.env = (false, eval a X.env) :: starEach [.Name t p2] X.env := by rfl) (hpl : (backTo pos (starEach [.Name t p2] X.env)).any (·.1) = false := by rfl) : ME X W (.Call (.Name "isinstance" p1) [a, .Name t p2] [] pos) (pUn (oIsi T) p) := by
  refine PE.imp (pe_callB call_isi hg hm PyProof.Rows.boot_isinstance (pa_cons ha (pa_cons (pe_bltn (v := .ty T) hg2 hm2 hv rfl hn hdb) pa_nil) he) (by decide) (by decide) he hpl) fun σ H Q ⟨w, m, e, r, g, ev, h, q⟩ => ?_
  refine tM_bnd g ev h q fun d1 m1 w1 v1 H1 h1 g1 x1 r1 ev1 q1 => ?_
  obtain ⟨d, hd, rfl⟩ := lift1_some h1
  unfold oIsi at hd
  split at hd
  · rename_i k hk
    cases hd
    exact ⟨v1, .ty T, .type k, .type T, _, rfl, .ty T, ty_rep g1 r1 hk, kit_ty (kit_all k (kind_mem hk) T hT), q1.now g1 (by simp only [Rep])⟩
  · cases hd
end

/-! ### methods of lists -/
def pMth (o : Nat → D → Mem → Option (Out D)) (p q : PEF) : PEF := fun e m => bnd (p e m) fun a m1 => match a with
  | .loc i => bnd (q e m1) fun b m2 => o i b m2
  | _ => none
def pMth0 (o : Nat → Mem → Option (Out D)) (p : PEF) : PEF := fun e m => bnd (p e m) fun a m1 => match a with
  | .loc i => o i m1
  | _ => none
/-- x.append(y) -/
def oApp (i : Nat) (b : D) (m : Mem) : Option (Out D) := match m[i]? with
  | some (.lst l) => if l.length < SL then some (.ok .non (m.set i (.lst (l ++ [b])))) else none
  | _ => none
def oExt (i : Nat) (b : D) (m : Mem) : Option (Out D) := match m[i]?, asH m b with
  | some (.lst l), some r => if l.length + r.length ≤ SL then some (.ok .non (m.set i (.lst (l ++ r)))) else none
  | _, _ => none
def oPop (i : Nat) (m : Mem) : Option (Out D) := match m[i]? with
  | some (.lst l) => match l[l.length - 1]? with
    | some d => some (.ok d (m.set i (.lst l.dropLast)))
    | none => none
  | _ => none
section
variable {X : Cx} {W : WX} {a b : Expr} {p q : PEF} {apos pos : Pos}
theorem loc_ty {K : PySem.W.Frag} {w : Wd} {H : Hp} {m : Mem} {i : Nat} {v : V} (g : Good K w H m) (r : Rep K w H (.loc i) v) : tyV K "list" v H := by
  simp only [Rep] at r
  obtain ⟨a, rfl, ha⟩ := r
  obtain ⟨xs, hx⟩ := g.there ha
  exact .inl ⟨rfl, xs, SqL.of hx⟩
theorem loc_at {K : PySem.W.Frag} {w : Wd} {H : Hp} {m : Mem} {i : Nat} {v : V} {l : List D} (g : Good K w H m) (r : Rep K w H (.loc i) v) (h : m[i]? = some (.lst l)) : ∃ a xs, v = .ref a ∧ w.ρ[i]? = some a ∧ H a = some (.lst xs) ∧ RepL K w H l xs := by
  simp only [Rep] at r
  obtain ⟨a, rfl, ha⟩ := r
  obtain ⟨_, xs, h1, h2⟩ : ¬ w.fz a ∧ ∃ xs, H a = some (.lst xs) ∧ RepL K w H l xs := g.at' i _ a h ha
  exact ⟨a, xs, rfl, ha, h1, h2⟩
theorem mth_of {o : Nat → D → Mem → Option (Out D)} {r : V → List V → Hp → VK → Prop}
    (hr : ∀ w H m i d2 v1 v2 u σ Q, Good X.K w H m → Rep X.K w H (.loc i) v1 → Rep X.K w H d2 v2 → o i d2 m = some u → PostE X W σ w H Q u → r v1 [v2] H Q)
    {σ : L2.St} {H : Hp} {Q : VK} (h : tM X W (pMth o p q) σ H Q) : tBM X.K "list" r (tM X W p) (tCons (tM X W q) tNil) σ H Q := by
  obtain ⟨w, m, e, u, g, ev, h, qq⟩ := h
  refine tM_bnd g ev h qq fun d1 m1 w1 v1 H1 h1 g1 x1 r1 ev1 q1 => ?_
  cases d1 with
  | loc i =>
    refine ⟨loc_ty g1 r1, ?_⟩
    refine tM_bnd g1 ev1 h1 q1 fun d2 m2 w2 v2 H2 h2 g2 x2 r2 ev2 q2 => ?_
    exact hr w2 H2 m2 i d2 v1 v2 u σ Q g2 (r1.mono x2) r2 h2 q2
  | _ => cases h1
theorem mth0_of {o : Nat → Mem → Option (Out D)} {r : V → List V → Hp → VK → Prop}
    (hr : ∀ w H m i v1 u σ Q, Good X.K w H m → Rep X.K w H (.loc i) v1 → o i m = some u → PostE X W σ w H Q u → r v1 [] H Q)
    {σ : L2.St} {H : Hp} {Q : VK} (h : tM X W (pMth0 o p) σ H Q) : tBM0 X.K "list" r (tM X W p) σ H Q := by
  obtain ⟨w, m, e, u, g, ev, h, qq⟩ := h
  refine tM_bnd g ev h qq fun d1 m1 w1 v1 H1 h1 g1 x1 r1 ev1 q1 => ?_
  cases d1 with
  | loc i => exact ⟨loc_ty g1 r1, hr w1 H1 m1 i v1 u σ Q g1 r1 h1 q1⟩
  | _ => cases h1
theorem me_append (ha : ME X W a p) (hb : ME X W b q)
    (hbase : attributeBase a "append" X.env (eval a X.env) = eval a X.env := by rfl)
    (hfew : ((backTo pos (starEach [b] X.env)).all (fun x => !x.1) && (backToKw pos (keywordEach [] X.env)).all (fun x => x.1.isSome)
      && decide ([b].length + ([] : List Keyword).length + (if ([] : List Keyword).isEmpty then 0 else 1) < 30)) = true := by rfl)
    (hline : (apos.endLine == pos.line) = true := by rfl) (hs : starEach [b] X.env = (false, eval b X.env) :: starEach [] X.env := by rfl) (hplain : (backTo pos (starEach [] X.env)).any (·.1) = false := by rfl) :
    ME X W (.Call (.Attribute a "append" apos) [b] [] pos) (pMth oApp p q) := by
  refine PE.imp (pe_bm PySem.F.plainAttrs_list PySem.F.slot_list_append PySem.F.type_list_append mt_append ha (pa_cons hb pa_nil hs) hbase hfew hline hs hplain) fun _ _ _ h => mth_of (fun w H m i d2 v1 v2 u σ Q g r1 r2 h q => ?_) h
  unfold oApp at h
  split at h
  · rename_i l hm
    split at h
    · rename_i hz
      cases h
      obtain ⟨a, xs, rfl, ha, hx, hl⟩ := loc_at g r1 hm
      exact ⟨a, xs, v2, rfl, rfl, hx, by rw [hl.len, ← SL_eq]; exact hz, q w .non _ (g.write hm ha (hl.append (RepL.cons r2 RepL.nil))) (Ext.write g hm ha) (by simp only [Rep])⟩
    · cases h
  · cases h
theorem me_extend (ha : ME X W a p) (hb : ME X W b q)
    (hbase : attributeBase a "extend" X.env (eval a X.env) = eval a X.env := by rfl)
    (hfew : ((backTo pos (starEach [b] X.env)).all (fun x => !x.1) && (backToKw pos (keywordEach [] X.env)).all (fun x => x.1.isSome)
      && decide ([b].length + ([] : List Keyword).length + (if ([] : List Keyword).isEmpty then 0 else 1) < 30)) = true := by rfl)
    (hline : (apos.endLine == pos.line) = true := by rfl) (hs : starEach [b] X.env = (false, eval b X.env) :: starEach [] X.env := by rfl) (hplain : (backTo pos (starEach [] X.env)).any (·.1) = false := by rfl) :
    ME X W (.Call (.Attribute a "extend" apos) [b] [] pos) (pMth oExt p q) := by
  refine PE.imp (pe_bm PySem.F.plainAttrs_list PySem.F.slot_list_extend PySem.F.type_list_extend mt_extend ha (pa_cons hb pa_nil hs) hbase hfew hline hs hplain) fun _ _ _ h => mth_of (fun w H m i d2 v1 v2 u σ Q g r1 r2 h q => ?_) h
  unfold oExt at h
  split at h
  · rename_i l r hm hr
    split at h
    · rename_i hz
      cases h
      obtain ⟨a, xs, rfl, ha, hx, hl⟩ := loc_at g r1 hm
      obtain ⟨b, ys, rfl, hy, hr⟩ := asH_rep g r2 hr
      exact ⟨a, b, xs, ys, rfl, rfl, hx, hy, by rw [hl.len, hr.len, ← SL_eq]; exact hz, q w .non _ (g.write hm ha (hl.append hr)) (Ext.write g hm ha) (by simp only [Rep])⟩
    · cases h
  · cases h
theorem me_pop (ha : ME X W a p) (hbase : attributeBase a "pop" X.env (eval a X.env) = eval a X.env := by rfl) (hline : (apos.endLine == pos.line) = true := by rfl) :
    ME X W (.Call (.Attribute a "pop" apos) [] [] pos) (pMth0 oPop p) := by
  refine PE.imp (pe_bm0 PySem.F.plainAttrs_list PySem.F.slot_list_pop PySem.F.type_list_pop mt_pop ha hbase hline) fun _ _ _ h => mth0_of (fun w H m i v1 u σ Q g r1 h q => ?_) h
  unfold oPop at h
  split at h
  · rename_i l hm
    split at h
    · rename_i d hd
      cases h
      obtain ⟨a, xs, rfl, ha, hx, hl⟩ := loc_at g r1 hm
      obtain ⟨y, hy, ry⟩ := hl.get hd
      exact ⟨a, xs, y, rfl, rfl, hx, by rw [hl.len]; exact hy, q w y _ (g.write hm ha hl.dropLast) (Ext.write g hm ha) (ry.mono (Ext.write g hm ha))⟩
    · cases h
  · cases h
end

/-! ### statements -/
def PostS (X : Cx) (W : WX) (D : Ends) (w : Wd) (H : Hp) : SOut → Prop
  | .nx e m => ∀ w' σ' H', Good X.K w' H' m → Ext X.K w H w' H' → EvR X.K w' H' e σ' → D.nx σ' H'
  | .rt d m => ∀ w' v H', Good X.K w' H' m → Ext X.K w H w' H' → Rep X.K w' H' d v → D.rt v H'
  | .bk e m => ∀ w' σ' H', Good X.K w' H' m → Ext X.K w H w' H' → EvR X.K w' H' e σ' → D.bk σ' H'
  | .ct e m => ∀ w' σ' H', Good X.K w' H' m → Ext X.K w H w' H' → EvR X.K w' H' e σ' → D.ct σ' H'
  | .exc c e m => ∀ w' σ' H' C, Good X.K w' H' m → Ext X.K w H w' H' → EvR X.K w' H' e σ' → X.mg c = some (.ref C) → W (.ref C) none σ' H'
def tS (X : Cx) (W : WX) (p : PSF) : TS := fun D σ H => ∃ w m e r, Good X.K w H m ∧ EvR X.K w H e σ ∧ p e m = some r ∧ PostS X W D w H r
abbrev MS (X : Cx) (W : WX) (st : Stmt) (p : PSF) : Prop := PS X st (tS X W p)
abbrev MSs (X : Cx) (W : WX) (st : List Stmt) (p : PSF) : Prop := PSs X st (tS X W p)
theorem PS.imp {X : Cx} {e : Stmt} {t t' : TS} (h : PS X e t) (i : ∀ D σ H, t' D σ H → t D σ H) : PS X e t' := ⟨fun pins s σ H Q I q => h.run pins s σ H Q I (i _ _ _ q)⟩
theorem PSs.imp {X : Cx} {e : List Stmt} {t t' : TS} (h : PSs X e t) (i : ∀ D σ H, t' D σ H → t D σ H) : PSs X e t' := ⟨fun pins s σ H Q I q => h.run pins s σ H Q I (i _ _ _ q)⟩
theorem PostS.ext {X : Cx} {W : WX} {D : Ends} {w w1 : Wd} {H H1 : Hp} {r : SOut} (h : PostS X W D w H r) (e : Ext X.K w H w1 H1) : PostS X W D w1 H1 r := by
  cases r with
  | nx e' m => exact fun w' σ' H' g x hr => h w' σ' H' g (e.trans x) hr
  | rt d m => exact fun w' v H' g x hr => h w' v H' g (e.trans x) hr
  | bk e' m => exact fun w' σ' H' g x hr => h w' σ' H' g (e.trans x) hr
  | ct e' m => exact fun w' σ' H' g x hr => h w' σ' H' g (e.trans x) hr
  | exc c e' m => exact fun w' σ' H' C g x hr => h w' σ' H' C g (e.trans x) hr
def bndS {α : Type} (r : Option (Out α)) (e : Ev) (k : α → Mem → Option SOut) : Option SOut := match r with
  | none => none
  | some (.exc c m) => some (.exc c e m)
  | some (.ok a m) => k a m
section
variable {X : Cx} {W : WX} {D : Ends} {p : PEF} {pt : PTF} {pa : PAF} {σ : L2.St} {H : Hp} {w : Wd} {m : Mem} {e : Ev} {r : SOut}
theorem tM_bndS {k : Z.D → Mem → Option SOut} (g : Good X.K w H m) (ev : EvR X.K w H e σ) (h : bndS (p e m) e k = some r) (q : PostS X W D w H r)
    {R : V → Hp → Prop} (hk : ∀ d m1 w1 v H1, k d m1 = some r → Good X.K w1 H1 m1 → Ext X.K w H w1 H1 → Rep X.K w1 H1 d v → EvR X.K w1 H1 e σ → PostS X W D w1 H1 r → R v H1) : tM X W p σ H R := by
  cases hp : p e m with
  | none => rw [hp] at h; cases h
  | some o =>
    rw [hp] at h
    cases o with
    | ok d m1 => exact ⟨w, m, e, _, g, ev, hp, fun w1 v H1 g1 x1 r1 => hk d m1 w1 v H1 h g1 x1 r1 (ev.mono x1) (q.ext x1)⟩
    | exc c m1 =>
      have h : some (SOut.exc c e m1) = some r := h
      cases h
      exact ⟨w, m, e, _, g, ev, hp, fun w' H' C g' x' hc => q w' σ H' C g' x' (ev.mono x') hc⟩
theorem tT_bndS {k : Bool → Mem → Option SOut} (g : Good X.K w H m) (ev : EvR X.K w H e σ) (h : bndS (pt e m) e k = some r) (q : PostS X W D w H r)
    {R : Bool → Hp → Prop} (hk : ∀ d m1 w1 H1, k d m1 = some r → Good X.K w1 H1 m1 → Ext X.K w H w1 H1 → EvR X.K w1 H1 e σ → PostS X W D w1 H1 r → R d H1) : tT X W pt σ H R := by
  cases hp : pt e m with
  | none => rw [hp] at h; cases h
  | some o =>
    rw [hp] at h
    cases o with
    | ok d m1 => exact ⟨w, m, e, _, g, ev, hp, fun w1 H1 g1 x1 => hk d m1 w1 H1 h g1 x1 (ev.mono x1) (q.ext x1)⟩
    | exc c m1 =>
      have h : some (SOut.exc c e m1) = some r := h
      cases h
      exact ⟨w, m, e, _, g, ev, hp, fun w' H' C g' x' hc => q w' σ H' C g' x' (ev.mono x') hc⟩
theorem tA_bndS {k : List Z.D → Mem → Option SOut} (g : Good X.K w H m) (ev : EvR X.K w H e σ) (h : bndS (pa e m) e k = some r) (q : PostS X W D w H r)
    {R : List V → Hp → Prop} (hk : ∀ d m1 w1 v H1, k d m1 = some r → Good X.K w1 H1 m1 → Ext X.K w H w1 H1 → RepL X.K w1 H1 d v → EvR X.K w1 H1 e σ → PostS X W D w1 H1 r → R v H1) : tA X W pa σ H R := by
  cases hp : pa e m with
  | none => rw [hp] at h; cases h
  | some o =>
    rw [hp] at h
    cases o with
    | ok d m1 => exact ⟨w, m, e, _, g, ev, hp, fun w1 v H1 g1 x1 r1 => hk d m1 w1 v H1 h g1 x1 r1 (ev.mono x1) (q.ext x1)⟩
    | exc c m1 =>
      have h : some (SOut.exc c e m1) = some r := h
      cases h
      exact ⟨w, m, e, _, g, ev, hp, fun w' H' C g' x' hc => q w' σ H' C g' x' (ev.mono x') hc⟩
end

def sNop : PSF := fun e m => some (.nx e m)
def sBrk : PSF := fun e m => some (.bk e m)
def sCnt : PSF := fun e m => some (.ct e m)
def thenS (r : Option SOut) (k : Ev → Mem → Option SOut) : Option SOut := match r with
  | some (.nx e m) => k e m
  | r => r
def sSeq (p q : PSF) : PSF := fun e m => thenS (p e m) q
def sRet (p : PEF) : PSF := fun e m => bndS (p e m) e fun d m1 => some (.rt d m1)
def sExpr (p : PEF) : PSF := fun e m => bndS (p e m) e fun _ m1 => some (.nx e m1)
def sIf (c : PTF) (p q : PSF) : PSF := fun e m => bndS (c e m) e fun b m1 => if b = true then p e m1 else q e m1
def sSet (i : Nat) (p : PEF) : PSF := fun e m => bndS (p e m) e fun d m1 => some (.nx (e.set i (some d)) m1)
def sAug (i : Nat) (o : VK2) (p : PEF) : PSF := fun e m => match e[i]? with
  | some (some d) => bndS (p e m) e fun c m1 => match o d c m1 with
    | some r => some (.nx (e.set i (some r)) m1)
    | none => none
  | _ => none
section
variable {X : Cx} {W : WX} {st : Stmt} {rest a b : List Stmt} {p q : PSF} {pe : PEF} {pt : PTF} {e c : Expr} {pos : Pos}
theorem mss_nil : MSs X W [] sNop := PSs.imp pss_nil fun D σ H ⟨w, m, e, r, g, ev, h, q⟩ => by
  cases h
  exact q w σ H g Ext.refl ev
theorem ms_pass : MS X W (.Pass pos) sNop := PS.imp ps_pass fun D σ H ⟨w, m, e, r, g, ev, h, q⟩ => by
  cases h
  exact q w σ H g Ext.refl ev
theorem ms_break : MS X W (.Break pos) sBrk := PS.imp ps_break fun D σ H ⟨w, m, e, r, g, ev, h, q⟩ => by
  cases h
  exact q w σ H g Ext.refl ev
theorem ms_continue : MS X W (.Continue pos) sCnt := PS.imp ps_continue fun D σ H ⟨w, m, e, r, g, ev, h, q⟩ => by
  cases h
  exact q w σ H g Ext.refl ev
theorem ms_doc {x j} {pos pos' : Pos} : MS X W (.Expr (.Constant (.str x) j pos) pos') sNop := PS.imp ps_doc fun D σ H ⟨w, m, e, r, g, ev, h, q⟩ => by
  cases h
  exact q w σ H g Ext.refl ev
theorem mss_cons (h1 : MS X W st p) (h2 : MSs X W rest q) : MSs X W (st :: rest) (sSeq p q) := PSs.imp (pss_cons h1 h2) fun D σ H ⟨w, m, e, r, g, ev, h, qq⟩ => by
  show tS X W p { D with nx := tS X W q D } σ H
  unfold sSeq at h
  cases hp : p e m with
  | none => rw [hp] at h; cases h
  | some u =>
    rw [hp] at h
    cases u with
    | nx e1 m1 => exact ⟨w, m, e, _, g, ev, hp, fun w1 σ1 H1 g1 x1 ev1 => ⟨w1, m1, e1, r, g1, ev1, h, qq.ext x1⟩⟩
    | rt d m1 => cases h; exact ⟨w, m, e, _, g, ev, hp, qq⟩
    | bk e1 m1 => cases h; exact ⟨w, m, e, _, g, ev, hp, qq⟩
    | ct e1 m1 => cases h; exact ⟨w, m, e, _, g, ev, hp, qq⟩
    | exc c1 e1 m1 => cases h; exact ⟨w, m, e, _, g, ev, hp, qq⟩
theorem mss_one (h1 : MS X W st p) : MSs X W [st] p := pss_one h1
theorem ms_ret (he : ME X W e pe) : MS X W (.Return (some e) pos) (sRet pe) := PS.imp (ps_ret he) fun D σ H ⟨w, m, ev', r, g, ev, h, q⟩ => by
  refine tM_bndS g ev h q fun d1 m1 w1 v1 H1 h1 g1 x1 r1 ev1 q1 => ?_
  cases h1
  exact q1 w1 v1 H1 g1 Ext.refl r1
theorem ms_retN : MS X W (.Return none pos) (sRet (pC .non)) := PS.imp ps_retN fun D σ H ⟨w, m, ev', r, g, ev, h, q⟩ => by
  cases h
  exact q w .non H g Ext.refl (by simp only [Rep])
theorem ms_expr (he : ME X W e pe) (hs : swapsWith e none pos.line X.env = pure false := by rfl) : MS X W (.Expr e pos) (sExpr pe) := PS.imp (ps_expr he hs) fun D σ H ⟨w, m, ev', r, g, ev, h, q⟩ => by
  refine tM_bndS g ev h q fun d1 m1 w1 v1 H1 h1 g1 x1 r1 ev1 q1 => ?_
  cases h1
  exact q1 w1 σ H1 g1 Ext.refl ev1
theorem ms_if (hc : MT X W c pt) (ha : MSs X W a p) (hb : MSs X W b q) : MS X W (.If c a b pos) (sIf pt p q) := PS.imp (ps_if hc ha hb) fun D σ H ⟨w, m, ev', r, g, ev, h, qq⟩ => by
  refine tT_bndS g ev h qq fun k m1 w1 H1 h1 g1 x1 ev1 q1 => ?_
  split at h1
  · rename_i hk
    rw [if_pos hk]
    exact ⟨w1, m1, ev', r, g1, ev1, h1, q1⟩
  · rename_i hk
    rw [if_neg hk]
    exact ⟨w1, m1, ev', r, g1, ev1, h1, q1⟩
theorem ms_set {i : Nat} {x : Str} {pos' : Pos} (hN : X.N.Nodup) (hi : X.N[i]? = some x) (hx : Loc X.env.scope x) (he : ME X W e pe) (hs : swapsWith e (some (.Name x pos')) pos.line X.env = pure false := by rfl) (hf : X.fn x = true ∨ X.env.scope.names.lookup x = some .local := by first | exact .inl rfl | exact .inr rfl) :
    MS X W (.Assign [.Name x pos'] e pos) (sSet i pe) := PS.imp (ps_set hN hi hx he hs hf) fun D σ H ⟨w, m, ev', r, g, ev, h, qq⟩ => by
  refine tM_bndS g ev h qq fun d1 m1 w1 v1 H1 h1 g1 x1 r1 ev1 q1 => ?_
  cases h1
  exact q1 w1 _ H1 g1 Ext.refl (ev1.set r1)
theorem ms_aug {i : Nat} {x : Str} {op : Operator} {o : VK2} {pos' : Pos} (hN : X.N.Nodup) (hi : X.N[i]? = some x) (hx : Loc X.env.scope x) (he : ME X W e pe) (ho : OpR X (inplaceOp op) (r2of X o)) (hf : X.fn x = true ∨ X.env.scope.names.lookup x = some .local := by first | exact .inl rfl | exact .inr rfl) :
    MS X W (.AugAssign (.Name x pos') op e pos) (sAug i o pe) := PS.imp (ps_aug hN hi hx he (ti := fun x y H Q => r2of X o x y H Q) ho hf) fun D σ H ⟨w, m, ev', r, g, ev, h, qq⟩ => by
  unfold sAug at h
  split at h
  · rename_i d hd
    obtain ⟨v, h1, h2⟩ := ev.2 i d hd
    refine ⟨v, h1, tM_bndS g ev h qq fun d1 m1 w1 v1 H1 h1 g1 x1 r1 ev1 q1 => ?_⟩
    split at h1
    · rename_i d' hd'
      cases h1
      exact ⟨w1, m1, d, d1, d', g1, h2.mono x1, r1, hd', fun w2 v2 H2 g2 x2 r2 => q1 w2 _ H2 g2 x2 ((ev1.mono x2).set r2)⟩
    · cases h1
  · cases h
end

/-! ### targets -/
abbrev PGF := D → Ev → Mem → Option (Out Ev)
def PostG (X : Cx) (W : WX) (w : Wd) (H : Hp) (Q : L2.St → Hp → Prop) : Out Ev → Prop
  | .ok e m => ∀ w' σ' H', Good X.K w' H' m → Ext X.K w H w' H' → EvR X.K w' H' e σ' → Q σ' H'
  | .exc _ _ => False
def tG (X : Cx) (W : WX) (p : PGF) : TG := fun v σ H Q => ∃ w m e d r, Good X.K w H m ∧ EvR X.K w H e σ ∧ Rep X.K w H d v ∧ p d e m = some r ∧ PostG X W w H Q r
abbrev MG (X : Cx) (W : WX) (tg : Expr) (p : PGF) : Prop := PG X tg (tG X W p)
theorem PG.imp {X : Cx} {e : Expr} {t t' : TG} (h : PG X e t) (i : ∀ v σ H Q, t' v σ H Q → t v σ H Q) : PG X e t' := ⟨fun pins s σ H v u Q I r q => h.run pins s σ H v u Q I r (i _ _ _ _ q)⟩
end Z

set_option maxRecDepth 100000
set_option maxHeartbeats 4000000
set_option autoImplicit false
namespace Z
open PySem PySem.Spec PyProof.Rows L2

/-! ### targets -/
abbrev PGsF := List D → Ev → Mem → Option (Out Ev)
def tGs (X : Cx) (W : WX) (p : PGsF) : TGs := fun vs σ H Q => ∃ w m e ds r, Good X.K w H m ∧ EvR X.K w H e σ ∧ RepL X.K w H ds vs ∧ p ds e m = some r ∧ PostG X W w H Q r
abbrev MGs (X : Cx) (W : WX) (ts : List Expr) (p : PGsF) : Prop := PGs X ts (tGs X W p)
theorem PGs.imp {X : Cx} {e : List Expr} {t t' : TGs} (h : PGs X e t) (i : ∀ v σ H Q, t' v σ H Q → t v σ H Q) : PGs X e t' := ⟨fun pins s σ H v u Q I r q => h.run pins s σ H v u Q I r (i _ _ _ _ q)⟩
theorem PostG.ext {X : Cx} {W : WX} {w w1 : Wd} {H H1 : Hp} {Q : L2.St → Hp → Prop} {r : Out Ev} (h : PostG X W w H Q r) (e : Ext X.K w H w1 H1) : PostG X W w1 H1 Q r := by
  cases r with
  | ok d m => exact fun w' σ' H' g x hr => h w' σ' H' g (e.trans x) hr
  | exc c m => exact h
def gN (i : Nat) : PGF := fun d e m => some (.ok (e.set i (some d)) m)
def gsNil : PGsF := fun ds e m => match ds with
  | [] => some (.ok e m)
  | _ => none
def gsCons (g : PGF) (r : PGsF) : PGsF := fun ds e m => match ds with
  | d :: ds => match g d e m with
    | some (.ok e1 m1) => r ds e1 m1
    | _ => none
  | [] => none
def gTp (n : Nat) (g : PGsF) : PGF := fun d e m => match d with
  | .tup ds => if ds.length = n then g ds e m else none
  | _ => none
def gLs (n : Nat) (g : PGsF) : PGF := fun d e m => match asL m d with
  | some ds => if ds.length = n then g ds e m else none
  | none => none
section
variable {X : Cx} {W : WX} {pos : Pos}
theorem mg_name {i : Nat} {x : Str} (hN : X.N.Nodup) (hi : X.N[i]? = some x) (hx : Loc X.env.scope x) (hf : X.fn x = true ∨ X.env.scope.names.lookup x = some .local := by first | exact .inl rfl | exact .inr rfl) : MG X W (.Name x pos) (gN i) :=
  PG.imp (pg_name hN hi hx hf) fun v σ H Q ⟨w, m, e, d, r, g, ev, rd, h, q⟩ => by
    cases h
    exact q w _ H g Ext.refl (ev.set rd)
theorem mgs_nil : MGs X W [] gsNil := PGs.imp pgs_nil fun v σ H Q ⟨w, m, e, ds, r, g, ev, rd, h, q⟩ => by
  unfold gsNil at h
  split at h
  · cases h
    exact ⟨RepL.nil_iff.mp rd, q w σ H g Ext.refl ev⟩
  · cases h
theorem mgs_cons {e : Expr} {es : List Expr} {g : PGF} {u : PGsF} (h1 : MG X W e g) (h2 : MGs X W es u) (hs : (assignEach (e :: es) X.env).map (·.2) = assign e X.env :: (assignEach es X.env).map (·.2) := by rfl) : MGs X W (e :: es) (gsCons g u) :=
  PGs.imp (pgs_cons h1 h2 hs) fun vs σ H Q ⟨w, m, e, ds, r, g, ev, rd, h, q⟩ => by
    unfold gsCons at h
    split at h
    · rename_i d ds
      obtain ⟨v, r', rfl, r1, r2⟩ := RepL.cons_iff.mp rd
      split at h
      · rename_i e1 m1 hg
        exact ⟨v, r', rfl, w, m, e, d, _, g, ev, r1, hg, fun w1 σ1 H1 g1 x1 ev1 => ⟨w1, m1, e1, ds, r, g1, ev1, r2.mono x1, h, q.ext x1⟩⟩
      · cases h
    · cases h
theorem mg_tup {es : List Expr} {k : Nat} {t : PGsF} {n : Nat} (hc : X.calm = true) (h : MGs X W es t) (hn : (assignEach es X.env).length = n := by rfl) (hst : (assignEach es X.env).findIdx? (·.1) = none := by rfl) : MG X W (.Tuple es k pos) (gTp n t) :=
  PG.imp (pg_tup hc h hn hst) fun v σ H Q ⟨w, m, e, d, r, g, ev, rd, h, q⟩ => by
    unfold gTp at h
    split at h
    · rename_i ds
      split at h
      · rename_i hl
        obtain ⟨a, xs, rfl, ha, hr⟩ := asT_rep rd rfl
        exact ⟨a, xs, rfl, ha, by rw [hr.len]; exact hl, w, m, e, ds, r, g, ev, hr, h, q⟩
      · cases h
    · cases h
theorem mg_lst {es : List Expr} {k : Nat} {t : PGsF} {n : Nat} (hc : X.calm = true) (h : MGs X W es t) (hn : (assignEach es X.env).length = n := by rfl) (hst : (assignEach es X.env).findIdx? (·.1) = none := by rfl) : MG X W (.Tuple es k pos) (gLs n t) :=
  PG.imp (pg_unl hc h hn hst) fun v σ H Q ⟨w, m, e, d, r, g, ev, rd, h, q⟩ => by
    unfold gLs at h
    split at h
    · rename_i ds hd
      split at h
      · rename_i hl
        obtain ⟨a, xs, rfl, ha, hr⟩ := asL_rep g rd hd
        exact ⟨a, xs, rfl, ha, by rw [hr.len]; exact hl, w, m, e, ds, r, g, ev, hr, h, q⟩
      · cases h
    · cases h
end
/-- target = value -/
def sAsg (g : PGF) (p : PEF) : PSF := fun e m => bndS (p e m) e fun d m1 => match g d e m1 with
  | some (.ok e1 m2) => some (.nx e1 m2)
  | _ => none
/-- a, b = x, y: the pair is not made -/
def setAll : List Nat → List D → Ev → Ev
  | i :: is, d :: ds, e => setAll is ds (e.set i (some d))
  | _, _, e => e
def sPar (is : List Nat) (p : PAF) : PSF := fun e m => bndS (p e m) e fun ds m1 => if ds.length = is.length then some (.nx (setAll is ds e) m1) else none
/-- o[i] = x -/
def putAt (a b d : D) (m : Mem) : Option Mem := match a, b with
  | .loc i, .int k => match m[i]? with
    | some (.lst l) => match ixN l.length k with
      | some j => some (m.set i (.lst (l.set j d)))
      | none => none
    | _ => none
  | _, _ => none
def sPut (po pi p : PEF) : PSF := fun e m => bndS (p e m) e fun d m1 => bndS (po e m1) e fun a m2 => bndS (pi e m2) e fun b m3 => match putAt a b d m3 with
  | some m4 => some (.nx e m4)
  | none => none
/-- o[i] op= x -/
def getAt (a b : D) (m : Mem) : Option D := match a, b with
  | .loc i, .int k => match asH m (.loc i) with
    | some l => atI l k
    | none => none
  | _, _ => none
def sPutAug (o : VK2) (po pi p : PEF) : PSF := fun e m => bndS (po e m) e fun a m1 => bndS (pi e m1) e fun b m2 => match getAt a b m2 with
  | some c => bndS (p e m2) e fun d m3 => match o c d m3 with
    | some r => match putAt a b r m3 with
      | some m4 => some (.nx e m4)
      | none => none
    | none => none
  | none => none
section
variable {X : Cx} {W : WX} {pos pos' : Pos} {tg e o i : Expr} {g : PGF} {p po pi : PEF}
theorem ms_asg (he : ME X W e p) (hg : MG X W tg g) (hs : swapsWithSole [tg] e pos.line X.env = pure false := by rfl) (hw : swappedStores [tg] e X.env = pure none := by rfl)
    (h1 : (assignEach [tg] X.env).map (·.2) = [assign tg X.env] := by rfl) : MS X W (.Assign [tg] e pos) (sAsg g p) := PS.imp (ps_asg he hg hs hw h1) fun D σ H ⟨w, m, ev', r, g, ev, h, qq⟩ => by
  refine tM_bndS g ev h qq fun d1 m1 w1 v1 H1 h1 g1 x1 r1 ev1 q1 => ?_
  split at h1
  · rename_i e1 m2 hg
    cases h1
    exact ⟨w1, m1, ev', d1, _, g1, ev1, r1, hg, fun w2 σ2 H2 g2 x2 ev2 => q1 w2 σ2 H2 g2 x2 ev2⟩
  · cases h1
theorem ms_par2 {i j : Nat} {x y : Str} {a b : Expr} {ta : PAF} {px py pt : Pos} {kt k2 pt2} (hc : X.calm = true) (hN : X.N.Nodup) (hi : X.N[i]? = some x) (hj : X.N[j]? = some y) (hij : i ≠ j)
    (hx : X.env.scope.names.lookup x = some .local) (hy : X.env.scope.names.lookup y = some .local) (ha : MA X W [a, b] ta)
    (hw : swappedStores [.Tuple [.Name x px, .Name y py] kt pt] (.Tuple [a, b] k2 pt2) X.env = pure (some [x, y]))
    (hs : swapsWithSole [.Tuple [.Name x px, .Name y py] kt pt] (.Tuple [a, b] k2 pt2) pos.line X.env = pure false := by rfl) :
    MS X W (.Assign [.Tuple [.Name x px, .Name y py] kt pt] (.Tuple [a, b] k2 pt2) pos) (sPar [i, j] ta) := PS.imp (ps_par hc hN hi hj hij hx hy ha hw hs) fun D σ H ⟨w, m, ev', r, g, ev, h, qq⟩ => by
  refine tA_bndS g ev h qq fun d1 m1 w1 v1 H1 h1 g1 x1 r1 ev1 q1 => ?_
  split at h1
  · rename_i hl
    cases h1
    match d1, hl, r1, q1 with
    | [a, b], _, r1, q1 =>
      obtain ⟨v, u, rfl, ra, rb⟩ := repL2 r1
      exact ⟨v, u, rfl, q1 w1 _ H1 g1 Ext.refl ((ev1.set ra).set rb)⟩
  · cases h1
theorem ms_par3 {i j l : Nat} {x y z : Str} {a b c : Expr} {ta : PAF} {px py pz pt : Pos} {kt k2 pt2} (hc : X.calm = true) (hN : X.N.Nodup) (hi : X.N[i]? = some x) (hj : X.N[j]? = some y) (hl : X.N[l]? = some z) (hij : i ≠ j) (hil : i ≠ l) (hjl : j ≠ l)
    (hx : X.env.scope.names.lookup x = some .local) (hy : X.env.scope.names.lookup y = some .local) (hz : X.env.scope.names.lookup z = some .local) (ha : MA X W [a, b, c] ta)
    (hw : swappedStores [.Tuple [.Name x px, .Name y py, .Name z pz] kt pt] (.Tuple [a, b, c] k2 pt2) X.env = pure (some [x, y, z]))
    (hs : swapsWithSole [.Tuple [.Name x px, .Name y py, .Name z pz] kt pt] (.Tuple [a, b, c] k2 pt2) pos.line X.env = pure false := by rfl) :
    MS X W (.Assign [.Tuple [.Name x px, .Name y py, .Name z pz] kt pt] (.Tuple [a, b, c] k2 pt2) pos) (sPar [i, j, l] ta) := PS.imp (ps_par3 hc hN hi hj hl hij hil hjl hx hy hz ha hw hs) fun D σ H ⟨w, m, ev', r, g, ev, h, qq⟩ => by
  refine tA_bndS g ev h qq fun d1 m1 w1 v1 H1 h1 g1 x1 r1 ev1 q1 => ?_
  split at h1
  · rename_i hl
    cases h1
    match d1, hl, r1, q1 with
    | [a, b, c], _, r1, q1 =>
      obtain ⟨v, r', rfl, ra, r2⟩ := RepL.cons_iff.mp r1
      obtain ⟨u, t, rfl, rb, rc⟩ := repL2 r2
      exact ⟨v, u, t, rfl, q1 w1 _ H1 g1 Ext.refl (((ev1.set ra).set rb).set rc)⟩
  · cases h1
theorem put_rep {K : PySem.W.Frag} {w : Wd} {H : Hp} {m m' : Mem} {a b d : D} {va vb vd : V} (g : Good K w H m) (ra : Rep K w H a va) (rb : Rep K w H b vb) (rd : Rep K w H d vd) (h : putAt a b d m = some m') :
    ∃ p xs k j, va = .ref p ∧ vb = .int k ∧ H p = some (.lst xs) ∧ ixN xs.length k = some j ∧ Good K w (upd H p (.lst (xs.set j vd))) m' ∧ Ext K w H w (upd H p (.lst (xs.set j vd))) := by
  unfold putAt at h
  split at h
  · rename_i i k
    split at h
    · rename_i l hm
      split at h
      · rename_i j hj
        cases h
        obtain ⟨a, xs, rfl, ha, hx, hl⟩ := loc_at g ra hm
        obtain rfl := rep_int rb
        exact ⟨a, xs, k, j, rfl, rfl, hx, by rw [hl.len]; exact hj, g.write hm ha (hl.set rd j), Ext.write g hm ha⟩
      · cases h
    · cases h
  · cases h
theorem ms_put (he : ME X W e p) (ho : ME X W o po) (hi : ME X W i pi)
    (ha : ∀ v, assign (.Subscript o i pos') X.env v = (do
      let ov ← holding [v] (eval o X.env)
      let iv ← holding [v, ov] (eval i X.env)
      standAt pos'
      holding [v, ov, iv] (setItem ov iv v)
      release [v, ov, iv] []) := by intro _; rfl)
    (hs : swapsWithSole [.Subscript o i pos'] e pos.line X.env = pure false := by rfl) (hw : swappedStores [.Subscript o i pos'] e X.env = pure none := by rfl)
    (h1 : (assignEach [.Subscript o i pos'] X.env).map (·.2) = [assign (.Subscript o i pos') X.env] := by rfl) : MS X W (.Assign [.Subscript o i pos'] e pos) (sPut po pi p) := PS.imp (ps_asg he (pg_sub ho hi set_list ha) hs hw h1) fun D σ H ⟨w, m, ev', r, g, ev, h, qq⟩ => by
  refine tM_bndS g ev h qq fun d1 m1 w1 v1 H1 h1 g1 x1 r1 ev1 q1 => ?_
  refine tM_bndS g1 ev1 h1 q1 fun d2 m2 w2 v2 H2 h2 g2 x2 r2 ev2 q2 => ?_
  refine tM_bndS g2 ev2 h2 q2 fun d3 m3 w3 v3 H3 h3 g3 x3 r3 ev3 q3 => ?_
  split at h3
  · rename_i m4 hm
    cases h3
    obtain ⟨p, xs, k, j, e1, e2, e3, e4, g4, x4⟩ := put_rep g3 (r2.mono x3) r3 ((r1.mono x2).mono x3) hm
    exact ⟨p, xs, k, j, e1, e2, e3, e4, q3 w3 σ _ g4 x4 (ev3.mono x4)⟩
  · cases h3
theorem get_list : PGet X (rIxL X.K) := by
  intro pins s σ H x y v u Q I rx ry h
  obtain ⟨p, xs, i, z, rfl, rfl, hq, he, q⟩ := h
  cases rx
  obtain ⟨t, rfl⟩ := ry
  obtain ⟨its, r, pl, hz⟩ := I.list hq
  obtain ⟨j, h1, h2, h3, h4, h5⟩ := atI_get he
  obtain ⟨w, ew, rw'⟩ := r.get h2
  have hl := r.length
  have hn := line63
  have fin : EP X pins σ Q w s := ⟨z, H, I, rw', q⟩
  by_cases h0 : 0 ≤ i
  · have hj : i.toNat = j := by
      rw [seqIndex_of h0 h5] at h1
      exact Option.some.inj h1
    exact wpAny_getItem_list pl.isList h0 (by omega) (by rw [hj]; simpa using ew) fin
  · have hj : (i + (its.toArray.size : Int)).toNat = j := by
      rw [seqIndex_neg (by omega) h4] at h1
      rw [List.size_toArray, ← hl]
      exact Option.some.inj h1
    exact wpAny_getItem_list_neg pl.isList (by omega) (by rw [List.size_toArray] <;> omega) (by omega) (by rw [hj]; simpa using ew) fin
theorem ms_putAug {op : Operator} {oo : VK2} (he : ME X W e p) (ho : ME X W o po) (hi : ME X W i pi) (hop : OpR X (inplaceOp op) (r2of X oo))
    (ha : ∀ ov iv new, augStore i ov iv new = (do holding [new, ov, iv] (setItem ov iv new); release [new, ov, iv] []; pure .next) := by intros; rfl) : MS X W (.AugAssign (.Subscript o i pos') op e pos) (sPutAug oo po pi p) :=
  PS.imp (ps_augS ho hi get_list he (tip := fun x y H Q => r2of X oo x y H Q) hop set_list ha) fun D σ H ⟨w, m, ev', r, g, ev, h, qq⟩ => by
    refine tM_bndS g ev h qq fun d1 m1 w1 v1 H1 h1 g1 x1 r1 ev1 q1 => ?_
    refine tM_bndS g1 ev1 h1 q1 fun d2 m2 w2 v2 H2 h2 g2 x2 r2 ev2 q2 => ?_
    split at h2
    · rename_i c hc
      have hidx : ∃ (pp : Addr) (xs : List V) (i : Int) (z : V), v1 = .ref pp ∧ v2 = .int i ∧ SqL X.K H2 pp xs ∧ atI xs i = some z ∧ Rep X.K w2 H2 c z := by
        unfold getAt at hc
        split at hc
        · split at hc
          · rename_i l hl
            obtain ⟨a, xs, rfl, hx, hr⟩ := asH_rep g2 (r1.mono x2) hl
            obtain rfl := rep_int r2
            obtain ⟨z, h1, h2⟩ := atI_rep hr hc
            exact ⟨a, xs, _, z, rfl, rfl, SqL.of hx, h1, h2⟩
          · cases hc
        · cases hc
      obtain ⟨pp, xs, i, z, rfl, rfl, hq, hz, rz⟩ := hidx
      refine ⟨pp, xs, i, z, rfl, rfl, hq, hz, ?_⟩
      refine tM_bndS g2 ev2 h2 q2 fun d3 m3 w3 v3 H3 h3 g3 x3 r3 ev3 q3 => ?_
      split at h3
      · rename_i r' hr'
        split at h3
        · rename_i m4 hm4
          cases h3
          refine ⟨w3, m3, c, d3, r', g3, rz.mono x3, r3, hr', fun w4 v4 H4 g4 x4 r4 => ?_⟩
          obtain ⟨p', xs', k', j', e1, e2, e3, e4, g5, x5⟩ := put_rep g4 (((r1.mono x2).mono x3).mono x4) ((r2.mono x3).mono x4) r4 hm4
          exact ⟨p', xs', k', j', e1, e2, e3, e4, q3 w4 σ _ g5 (x4.trans x5) ((ev3.mono x4).mono x5)⟩
        · cases h3
      · cases h3
    · cases h2
end
end Z

set_option maxRecDepth 100000
set_option maxHeartbeats 4000000
set_option autoImplicit false
namespace Z
open PySem PySem.Spec PyProof.Rows L2

/-! ### what a for walks -/
structure Yields (K : PySem.W.Frag) (J : It) (w : Wd) (H : Hp) (ds : List D) : Prop where
  go : ∀ (i : Nat) w' H', Ext K w H w' H' → i < ds.length → J.go i H'
  yld : ∀ (i : Nat) x w' H' H'' m', Good K w' H' m' → Ext K w H w' H' → J.yld i H' x H'' → ∀ d, ds[i]? = some d → ∃ w'', Good K w'' H'' m' ∧ Ext K w' H' w'' H'' ∧ Rep K w'' H'' d x
  stop : ∀ w' H', Ext K w H w' H' → J.stop ds.length H'
abbrev PIF := Ev → Mem → Option (Out (List D))
def PostI (X : Cx) (W : WX) (σ : L2.St) (w : Wd) (H : Hp) (R : It → Hp → Prop) : Out (List D) → Prop
  | .ok ds m => ∀ w' H' J, Good X.K w' H' m → Ext X.K w H w' H' → Yields X.K J w' H' ds → R J H'
  | .exc c m => ExW X W w H σ c m
def tI (X : Cx) (W : WX) (p : PIF) : TI := fun σ H R => ∃ w m e r, Good X.K w H m ∧ EvR X.K w H e σ ∧ p e m = some r ∧ PostI X W σ w H R r
abbrev MI (X : Cx) (W : WX) (tg iter : Expr) (p : PIF) : Prop := PI X tg iter (tI X W p)
theorem PI.imp {X : Cx} {tg e : Expr} {t t' : TI} (h : PI X tg e t) (i : ∀ σ H R, t' σ H R → t σ H R) : PI X tg e t' := ⟨fun pins s σ H R I q => h.run pins s σ H R I (i _ _ _ q)⟩
theorem PostI.ext {X : Cx} {W : WX} {w w1 : Wd} {H H1 : Hp} {σ : L2.St} {Q : It → Hp → Prop} {r : Out (List D)} (h : PostI X W σ w H Q r) (e : Ext X.K w H w1 H1) : PostI X W σ w1 H1 Q r := by
  cases r with
  | ok d m => exact fun w' H' J g x hy => h w' H' J g (e.trans x) hy
  | exc c m => exact ExW.ext h e
def itemsOf (d : D) (m : Mem) : Option (Out (List D)) := match d with
  | .tup l => some (.ok l m)
  | .lst l => some (.ok l m)
  | .ro l => some (.ok l m)
  | .str z => some (.ok (z.cps.toList.map fun c => D.str ⟨#[c]⟩) m)
  | .loc i => match m[i]? with
    | some (.lst l) => some (.ok l (m.set i (.frz l)))
    | some (.frz l) => some (.ok l m)
    | none => none
  | _ => none
def iSeq (p : PEF) : PIF := fun e m => bnd (p e m) itemsOf
def intR (lo c : Int) (n : Nat) : List D := (List.range n).map fun (k : Nat) => D.int (lo + k * c)
def in62 (i : Int) : Bool := decide (-(2 ^ 62) ≤ i) && decide (i < 2 ^ 62)
def iR1 (p : PAF) : PIF := fun e m => bnd (p e m) fun ds m1 => match ds with
  | [.int j] => if in62 j then some (.ok (intR 0 1 j.toNat) m1) else none
  | _ => none
def iR2 (p : PAF) : PIF := fun e m => bnd (p e m) fun ds m1 => match ds with
  | [.int i, .int j] => if in62 i && in62 j then some (.ok (intR i 1 (j - i).toNat) m1) else none
  | _ => none
def iR3 (p : PAF) : PIF := fun e m => bnd (p e m) fun ds m1 => match ds with
  | [.int i, .int j, .int c] => if c = -1 then (if in62 i && in62 j then some (.ok (intR i (-1) (i - j).toNat) m1) else none)
    else if decide (c ≠ 0) && decide (c.natAbs < 1073741824) && Builtin.Range.small i j c && decide (0 ≤ Builtin.Range.rangeSize i j c) then some (.ok (intR i c (Builtin.Range.rangeSize i j c).toNat) m1) else none
  | _ => none
def iZip (p : PAF) : PIF := fun e m => bnd (p e m) fun ds m1 => match ds with
  | [.tup l, .tup r] => some (.ok ((l.zip r).map fun x => D.tup [x.1, x.2]) m1)
  | [.lst l, .lst r] => some (.ok ((l.zip r).map fun x => D.tup [x.1, x.2]) m1)
  | _ => none
section
variable {K : PySem.W.Frag} {w : Wd} {H : Hp} {m : Mem}
theorem yl_list {a : Addr} {xs : List V} {ds : List D} (hs : ∀ w' H', Ext K w H w' H' → SqL K H' a xs) (hu : ∀ H' ys, SqL K H' a xs → SqL K H' a ys → (∀ zs : List V, SqL K H' a zs → zs = zs) → True) (r : RepL K w H ds xs) : Yields K (Itl K a) w H ds where
  go := fun i w' H' x hi => by
    obtain ⟨v, hv, _⟩ := r.get (List.getElem?_eq_getElem hi)
    exact ⟨xs, v, hs w' H' x, hv⟩
  yld := fun i x w' H' H'' m' g xt hy d hd => by
    obtain ⟨rfl, hf⟩ := hy
    obtain ⟨v, hv, rv⟩ := r.get hd
    have e := hf xs (hs w' H'' xt)
    rw [hv] at e
    cases e
    exact ⟨w', g, Ext.refl, rv.mono xt⟩
  stop := fun w' H' x => ⟨xs, hs w' H' x, by rw [r.len]; exact Nat.le_refl _⟩
theorem yl_tup {a : Addr} {xs : List V} {ds : List D} (hs : SqT K H a xs) (r : RepL K w H ds xs) : Yields K (Itt K a) w H ds where
  go := fun i w' H' x hi => by
    obtain ⟨v, hv, _⟩ := r.get (List.getElem?_eq_getElem hi)
    exact ⟨xs, v, x.tup _ _ hs, hv⟩
  yld := fun i x w' H' H'' m' g xt hy d hd => by
    obtain ⟨rfl, hf⟩ := hy
    obtain ⟨v, hv, rv⟩ := r.get hd
    have e := hf xs (xt.tup _ _ hs)
    rw [hv] at e
    cases e
    exact ⟨w', g, Ext.refl, rv.mono xt⟩
  stop := fun w' H' x => ⟨xs, x.tup _ _ hs, by rw [r.len]; exact Nat.le_refl _⟩
theorem ints_get {lo c : Int} {n i : Nat} {d : D} (h : (intR lo c n)[i]? = some d) : i < n ∧ d = .int (lo + i * c) := by
  unfold intR at h
  rw [List.getElem?_map] at h
  by_cases hi : i < n
  · rw [List.getElem?_range hi] at h
    cases h
    exact ⟨hi, rfl⟩
  · rw [List.getElem?_eq_none (by simpa using hi)] at h
    cases h
theorem ints_len {lo c : Int} {n : Nat} : (intR lo c n).length = n := by simp [intR]
theorem yl_rng {lo : Int} {n : Nat} : Yields K (Itr lo n) w H (intR lo 1 n) where
  go := fun i w' H' x hi => by rw [ints_len] at hi; exact hi
  yld := fun i x w' H' H'' m' g xt hy d hd => by
    obtain ⟨rfl, rfl⟩ := hy
    obtain ⟨hi, rfl⟩ := ints_get hd
    exact ⟨w', g, Ext.refl, by simp only [Rep, Int.mul_one]⟩
  stop := fun w' H' x => by rw [ints_len]; exact Nat.le_refl n
theorem yl_rngC {lo c : Int} {n : Nat} : Yields K (Itc lo c n) w H (intR lo c n) where
  go := fun i w' H' x hi => by rw [ints_len] at hi; exact hi
  yld := fun i x w' H' H'' m' g xt hy d hd => by
    obtain ⟨rfl, rfl⟩ := hy
    obtain ⟨hi, rfl⟩ := ints_get hd
    exact ⟨w', g, Ext.refl, by simp only [Rep]⟩
  stop := fun w' H' x => by rw [ints_len]; exact Nat.le_refl n
theorem yl_str {z : Str} : Yields K (Its z) w H (z.cps.toList.map fun c => D.str ⟨#[c]⟩) where
  go := fun i w' H' x hi => by
    rw [List.length_map, Array.length_toList] at hi
    exact hi
  yld := fun i x w' H' H'' m' g xt hy d hd => by
    obtain ⟨rfl, c, hc, rfl⟩ := hy
    rw [List.getElem?_map, Array.getElem?_toList, hc] at hd
    cases hd
    exact ⟨w', g, Ext.refl, by simp only [Rep]⟩
  stop := fun w' H' x => by
    rw [List.length_map, Array.length_toList]
    exact Nat.le_refl z.cps.size
theorem zip_len (l r : List D) : ((l.zip r).map fun x => D.tup [x.1, x.2]).length = min l.length r.length := by simp
theorem zip_get {l r : List D} {i : Nat} {d : D} (h : ((l.zip r).map fun x => D.tup [x.1, x.2])[i]? = some d) : ∃ x y, l[i]? = some x ∧ r[i]? = some y ∧ d = .tup [x, y] := by
  rw [List.getElem?_map] at h
  cases e : (l.zip r)[i]? with
  | none => rw [e] at h; cases h
  | some p =>
    rw [e] at h
    cases h
    rw [List.getElem?_zip_eq_some] at e
    exact ⟨p.1, p.2, e.1, e.2, rfl⟩
theorem yl_zipT {a b : Addr} {xs ys : List V} {l r : List D} (ha : SqT K H a xs) (hb : SqT K H b ys) (rl : RepL K w H l xs) (rr : RepL K w H r ys) : Yields K (RZ.ItzT K a b) w H ((l.zip r).map fun x => D.tup [x.1, x.2]) where
  go := fun i w' H' x hi => by
    rw [zip_len] at hi
    obtain ⟨v, hv, _⟩ := rl.get (List.getElem?_eq_getElem (show i < l.length by omega))
    obtain ⟨u, hu, _⟩ := rr.get (List.getElem?_eq_getElem (show i < r.length by omega))
    exact ⟨xs, ys, v, u, x.tup _ _ ha, x.tup _ _ hb, hv, hu⟩
  yld := fun i x w' H' H'' m' g xt hy d hd => by
    obtain ⟨T, x1, y1, rfl, hT, rfl, f1, f2⟩ := hy
    obtain ⟨d1, d2, e1, e2, rfl⟩ := zip_get hd
    obtain ⟨v, hv, rv⟩ := rl.get e1
    obtain ⟨u, hu, ru⟩ := rr.get e2
    have z1 := f1 xs (xt.tup _ _ ha)
    have z2 := f2 ys (xt.tup _ _ hb)
    rw [hv] at z1
    rw [hu] at z2
    cases z1
    cases z2
    exact ⟨w', g.new hT, Ext.new g hT, new_tup g hT (RepL.cons (rv.mono xt) (RepL.cons (ru.mono xt) RepL.nil))⟩
  stop := fun w' H' x => ⟨xs, ys, x.tup _ _ ha, x.tup _ _ hb, by rw [zip_len, rl.len, rr.len]; omega⟩
theorem yl_zipL {a b : Addr} {xs ys : List V} {l r : List D} (fa : w.fz a) (fb : w.fz b) (ha : H a = some (.lst xs)) (hb : H b = some (.lst ys)) (rl : RepL K w H l xs) (rr : RepL K w H r ys) : Yields K (Itz K a b) w H ((l.zip r).map fun x => D.tup [x.1, x.2]) where
  go := fun i w' H' x hi => by
    rw [zip_len] at hi
    obtain ⟨v, hv, _⟩ := rl.get (List.getElem?_eq_getElem (show i < l.length by omega))
    obtain ⟨u, hu, _⟩ := rr.get (List.getElem?_eq_getElem (show i < r.length by omega))
    exact ⟨xs, ys, v, u, SqL.of (x.lst _ _ fa ha), SqL.of (x.lst _ _ fb hb), hv, hu⟩
  yld := fun i x w' H' H'' m' g xt hy d hd => by
    obtain ⟨T, x1, y1, rfl, hT, rfl, f1, f2⟩ := hy
    obtain ⟨d1, d2, e1, e2, rfl⟩ := zip_get hd
    obtain ⟨v, hv, rv⟩ := rl.get e1
    obtain ⟨u, hu, ru⟩ := rr.get e2
    have z1 := f1 xs (SqL.of (xt.lst _ _ fa ha))
    have z2 := f2 ys (SqL.of (xt.lst _ _ fb hb))
    rw [hv] at z1
    rw [hu] at z2
    cases z1
    cases z2
    exact ⟨w', g.new hT, Ext.new g hT, new_tup g hT (RepL.cons (rv.mono xt) (RepL.cons (ru.mono xt) RepL.nil))⟩
  stop := fun w' H' x => ⟨xs, ys, SqL.of (x.lst _ _ fa ha), SqL.of (x.lst _ _ fb hb), by rw [zip_len, rl.len, rr.len]; omega⟩
end
section
variable {X : Cx} {W : WX} {tg l : Expr} {p : PEF} {pa : PAF}
theorem tM_bndI {k : D → Mem → Option (Out (List D))} {σ : L2.St} {H : Hp} {R : It → Hp → Prop} {w : Wd} {m : Mem} {e : Ev} {r : Out (List D)} (g : Good X.K w H m) (ev : EvR X.K w H e σ) (h : bnd (p e m) k = some r) (q : PostI X W σ w H R r)
    {S : V → Hp → Prop} (hk : ∀ d m1 w1 v H1, p e m = some (.ok d m1) → k d m1 = some r → Good X.K w1 H1 m1 → Ext X.K w H w1 H1 → Rep X.K w1 H1 d v → PostI X W σ w1 H1 R r → S v H1) : tM X W p σ H S := by
  cases hp : p e m with
  | none => rw [hp] at h; cases h
  | some o =>
    rw [hp] at h
    cases o with
    | ok d m1 => exact ⟨w, m, e, _, g, ev, hp, fun w1 v H1 g1 x1 r1 => hk d m1 w1 v H1 hp h g1 x1 r1 (q.ext x1)⟩
    | exc c m1 =>
      have h : some (Out.exc c m1) = some r := h
      cases h
      exact ⟨w, m, e, _, g, ev, hp, q⟩
theorem mi_seq (hl : ME X W l p) : MI X W tg l (iSeq p) := by
  refine ⟨fun pins s σ H R I ⟨w, m, e, r, g, ev, h, q⟩ => ?_⟩
  -- which kind
  cases hp : p e m with
  | none => unfold iSeq at h; rw [hp] at h; cases h
  | some o =>
    cases o with
    | exc c m1 =>
      unfold iSeq at h
      rw [hp] at h
      cases h
      exact (pi_list hl).run pins s σ H R I ⟨w, m, e, _, g, ev, hp, q⟩
    | ok d m1 =>
      cases d with
      | tup ds =>
        refine (pi_tup hl).run pins s σ H R I (tM_bndI g ev h q fun d2 m2 w1 v1 H1 e1 h1 g1 x1 r1 q1 => ?_)
        rw [hp] at e1
        cases e1
        cases h1
        obtain ⟨a, xs, rfl, ha, hr⟩ := asT_rep r1 rfl
        exact ⟨a, rfl, ⟨xs, ha⟩, q1 w1 H1 _ g1 Ext.refl (yl_tup ha hr)⟩
      | lst ds =>
        refine (pi_list hl).run pins s σ H R I (tM_bndI g ev h q fun d2 m2 w1 v1 H1 e1 h1 g1 x1 r1 q1 => ?_)
        rw [hp] at e1
        cases e1
        cases h1
        simp only [Rep] at r1
        obtain ⟨a, xs, rfl, fa, ha, hr⟩ := r1
        exact ⟨a, rfl, ⟨xs, SqL.of ha⟩, q1 w1 H1 _ g1 Ext.refl (yl_list (fun w' H' x => SqL.of (x.lst _ _ fa ha)) (fun _ _ _ _ _ => trivial) hr)⟩
      | ro ds =>
        refine (pi_list hl).run pins s σ H R I (tM_bndI g ev h q fun d2 m2 w1 v1 H1 e1 h1 g1 x1 r1 q1 => ?_)
        rw [hp] at e1
        cases e1
        cases h1
        simp only [Rep] at r1
        obtain ⟨a, xs, rfl, ha, hr⟩ := r1
        exact ⟨a, rfl, ⟨xs, ha.sq⟩, q1 w1 H1 _ g1 Ext.refl (yl_list (fun w' H' x => (ha.mono x).sq) (fun _ _ _ _ _ => trivial) hr)⟩
      | str z =>
        refine (pi_str hl).run pins s σ H R I (tM_bndI g ev h q fun d2 m2 w1 v1 H1 e1 h1 g1 x1 r1 q1 => ?_)
        rw [hp] at e1
        cases e1
        cases h1
        obtain rfl := rep_str r1
        exact ⟨z, rfl, q1 w1 H1 _ g1 Ext.refl yl_str⟩
      | loc i =>
        refine (pi_list hl).run pins s σ H R I (tM_bndI g ev h q fun d2 m2 w1 v1 H1 e1 h1 g1 x1 r1 q1 => ?_)
        rw [hp] at e1
        cases e1
        have hr := r1
        simp only [Rep] at hr
        obtain ⟨a, rfl, r2⟩ := hr
        obtain ⟨c, hc⟩ := g1.cell r2
        have h1 : (match m1[i]? with
          | some (.lst l) => some (Out.ok l (m1.set i (.frz l)))
          | some (.frz l) => some (.ok l m1)
          | none => none) = some r := h1
        rw [hc] at h1
        cases c with
        | lst l' =>
          cases h1
          obtain ⟨g2, r3⟩ := g1.freeze hc r2
          simp only [Rep] at r3
          obtain ⟨a', xs, e2, fa, ha, hr⟩ := r3
          cases e2
          exact ⟨a, rfl, ⟨xs, SqL.of ha⟩, q1 (w1.fzn a) H1 _ g2 Ext.fzn (yl_list (fun w' H' x => SqL.of (x.lst _ _ fa ha)) (fun _ _ _ _ _ => trivial) hr)⟩
        | frz l' =>
          cases h1
          have r3 := g1.thaw hc r2
          simp only [Rep] at r3
          obtain ⟨a', xs, e2, fa, ha, hr⟩ := r3
          cases e2
          exact ⟨a, rfl, ⟨xs, SqL.of ha⟩, q1 w1 H1 _ g1 Ext.refl (yl_list (fun w' H' x => SqL.of (x.lst _ _ fa ha)) (fun _ _ _ _ _ => trivial) hr)⟩
      | non => unfold iSeq at h; rw [hp] at h; cases h
      | bl b => unfold iSeq at h; rw [hp] at h; cases h
      | int b => unfold iSeq at h; rw [hp] at h; cases h
theorem tA_bndI {k : List D → Mem → Option (Out (List D))} {σ : L2.St} {H : Hp} {R : It → Hp → Prop} {w : Wd} {m : Mem} {e : Ev} {r : Out (List D)} (g : Good X.K w H m) (ev : EvR X.K w H e σ) (h : bnd (pa e m) k = some r) (q : PostI X W σ w H R r)
    {S : List V → Hp → Prop} (hk : ∀ d m1 w1 v H1, k d m1 = some r → Good X.K w1 H1 m1 → Ext X.K w H w1 H1 → RepL X.K w1 H1 d v → PostI X W σ w1 H1 R r → S v H1) : tA X W pa σ H S := by
  cases hp : pa e m with
  | none => rw [hp] at h; cases h
  | some o =>
    rw [hp] at h
    cases o with
    | ok d m1 => exact ⟨w, m, e, _, g, ev, hp, fun w1 v H1 g1 x1 r1 => hk d m1 w1 v H1 h g1 x1 r1 (q.ext x1)⟩
    | exc c m1 =>
      have h : some (Out.exc c m1) = some r := h
      cases h
      exact ⟨w, m, e, _, g, ev, hp, q⟩
theorem in62_iff {i : Int} (h : in62 i = true) : -(2 ^ 62) ≤ i ∧ i < 2 ^ 62 := by
  unfold in62 at h
  rw [Bool.and_eq_true] at h
  exact ⟨of_decide_eq_true h.1, of_decide_eq_true h.2⟩
theorem mi_range1 {a : Expr} {p' pos : Pos} (hg : Gl X "range") (hm : X.mg "range" = none) (ha : MA X W [a] pa) (hs : starEach [a] X.env = [(false, eval a X.env)] := by rfl) : MI X W tg (.Call (.Name "range" p') [a] [] pos) (iR1 pa) :=
  PI.imp (pi_range1 hg hm ha hs) fun σ H R ⟨w, m, e, r, g, ev, h, q⟩ => by
    refine tA_bndI g ev h q fun d m1 w1 v H1 h1 g1 x1 r1 q1 => ?_
    split at h1
    · split at h1
      · rename_i j hj
        cases h1
        obtain ⟨v, rfl, rv⟩ := repL1 r1
        obtain rfl := rep_int rv
        obtain ⟨b1, b2⟩ := in62_iff hj
        exact ⟨_, rfl, b1, b2, q1 w1 H1 _ g1 Ext.refl yl_rng⟩
      · cases h1
    · cases h1
theorem mi_range2 {a b : Expr} {p' pos : Pos} (hg : Gl X "range") (hm : X.mg "range" = none) (ha : MA X W [a, b] pa) (hs : starEach [a, b] X.env = [(false, eval a X.env), (false, eval b X.env)] := by rfl) (hs2 : starEach [b] X.env = [(false, eval b X.env)] := by rfl) : MI X W tg (.Call (.Name "range" p') [a, b] [] pos) (iR2 pa) :=
  PI.imp (pi_range2 hg hm ha hs hs2) fun σ H R ⟨w, m, e, r, g, ev, h, q⟩ => by
    refine tA_bndI g ev h q fun d m1 w1 v H1 h1 g1 x1 r1 q1 => ?_
    split at h1
    · split at h1
      · rename_i i j hj
        cases h1
        obtain ⟨v, u, rfl, rv, ru⟩ := repL2 r1
        obtain rfl := rep_int rv
        obtain rfl := rep_int ru
        rw [Bool.and_eq_true] at hj
        obtain ⟨b1, b2⟩ := in62_iff hj.1
        obtain ⟨b3, b4⟩ := in62_iff hj.2
        exact ⟨_, _, rfl, ⟨b1, b2, b3, b4⟩, q1 w1 H1 _ g1 Ext.refl yl_rng⟩
      · cases h1
    · cases h1
theorem repL3 {K : PySem.W.Frag} {w : Wd} {H : Hp} {a b c : D} {xs : List V} (h : RepL K w H [a, b, c] xs) : ∃ v u t, xs = [v, u, t] ∧ Rep K w H a v ∧ Rep K w H b u ∧ Rep K w H c t := by
  obtain ⟨v, r, rfl, h1, h2⟩ := RepL.cons_iff.mp h
  obtain ⟨u, t, rfl, h3, h4⟩ := repL2 h2
  exact ⟨v, u, t, rfl, h1, h3, h4⟩
theorem mi_range3 {a b c : Expr} {p' pos : Pos} (hg : Gl X "range") (hm : X.mg "range" = none) (ha : MA X W [a, b, c] pa) (hs : starEach [a, b, c] X.env = (false, eval a X.env) :: starEach [b, c] X.env := by rfl) (hpl : (backTo pos (starEach [b, c] X.env)).any (·.1) = false := by rfl) : MI X W tg (.Call (.Name "range" p') [a, b, c] [] pos) (iR3 pa) :=
  PI.imp (pi_range3 hg hm ha hs hpl) fun σ H R ⟨w, m, e, r, g, ev, h, q⟩ => by
    refine tA_bndI g ev h q fun d m1 w1 v H1 h1 g1 x1 r1 q1 => ?_
    split at h1
    · rename_i i j c
      obtain ⟨v, u, t, rfl, rv, ru, rt⟩ := repL3 r1
      obtain rfl := rep_int rv
      obtain rfl := rep_int ru
      obtain rfl := rep_int rt
      split at h1
      · rename_i hc
        subst hc
        split at h1
        · rename_i hj
          cases h1
          rw [Bool.and_eq_true] at hj
          obtain ⟨b1, b2⟩ := in62_iff hj.1
          obtain ⟨b3, b4⟩ := in62_iff hj.2
          exact ⟨_, _, _, _, rfl, RgC.neg b1 b2 b3 b4, q1 w1 H1 _ g1 Ext.refl yl_rngC⟩
        · cases h1
      · split at h1
        · rename_i hj
          cases h1
          rw [Bool.and_eq_true, Bool.and_eq_true, Bool.and_eq_true] at hj
          obtain ⟨⟨⟨b1, b2⟩, b3⟩, b4⟩ := hj
          have b4 := of_decide_eq_true b4
          exact ⟨_, _, _, _, rfl, ⟨of_decide_eq_true b1, of_decide_eq_true b2, b3, by omega⟩, q1 w1 H1 _ g1 Ext.refl yl_rngC⟩
        · cases h1
    · cases h1
theorem mi_zip {e e2 : Expr} {p' pos tpos : Pos} {elts : List Expr} {kk : Nat} (hg : Gl X "zip") (hm : X.mg "zip" = none) (ha : MA X W [e, e2] pa)
    (hs : starEach [e, e2] X.env = (false, eval e X.env) :: starEach [e2] X.env := by rfl) (hpl : (backTo pos (starEach [e2] X.env)).any (·.1) = false := by rfl) : MI X W (.Tuple elts kk tpos) (.Call (.Name "zip" p') [e, e2] [] pos) (iZip pa) :=
  PI.imp (RZ.pi_zipA hg hm ha hs hpl) fun σ H R ⟨w, m, e, r, g, ev, h, q⟩ => by
    refine tA_bndI g ev h q fun d m1 w1 v H1 h1 g1 x1 r1 q1 => ?_
    split at h1
    · cases h1
      obtain ⟨v, u, rfl, rv, ru⟩ := repL2 r1
      obtain ⟨a, xs, rfl, ha, hl⟩ := asT_rep rv rfl
      obtain ⟨b, ys, rfl, hb, hr⟩ := asT_rep ru rfl
      exact ⟨a, b, xs, ys, rfl, .inr ⟨ha, hb, q1 w1 H1 _ g1 Ext.refl (yl_zipT ha hb hl hr)⟩⟩
    · cases h1
      obtain ⟨v, u, rfl, rv, ru⟩ := repL2 r1
      simp only [Rep] at rv ru
      obtain ⟨a, xs, rfl, fa, ha, hl⟩ := rv
      obtain ⟨b, ys, rfl, fb, hb, hr⟩ := ru
      exact ⟨a, b, xs, ys, rfl, .inl ⟨SqL.of ha, SqL.of hb, q1 w1 H1 _ g1 Ext.refl (yl_zipL fa fb ha hb hl hr)⟩⟩
    · cases h1
end

/-! ### loops -/
def loopF (g : PGF) (b : PSF) : List D → Ev → Mem → Option SOut
  | [], e, m => some (.nx e m)
  | d :: ds, e, m => match g d e m with
    | some (.ok e1 m1) => match b e1 m1 with
      | some (.nx e2 m2) => loopF g b ds e2 m2
      | some (.ct e2 m2) => loopF g b ds e2 m2
      | some (.bk e2 m2) => some (.nx e2 m2)
      | r => r
    | _ => none
def sFor (pi : PIF) (g : PGF) (b : PSF) : PSF := fun e m => bndS (pi e m) e fun ds m1 => loopF g b ds e m1
def whileF (c : PTF) (b : PSF) : Nat → Ev → Mem → Option SOut
  | 0, _, _ => none
  | n + 1, e, m => bndS (c e m) e fun k m1 => if k = true then (match b e m1 with
      | some (.nx e2 m2) => whileF c b n e2 m2
      | some (.ct e2 m2) => whileF c b n e2 m2
      | some (.bk e2 m2) => some (.nx e2 m2)
      | r => r) else some (.nx e m1)
def sWhile (fuel : Ev → Mem → Nat) (c : PTF) (b : PSF) : PSF := fun e m => whileF c b (fuel e m) e m
section
variable {X : Cx} {W : WX} {tg iter c : Expr} {body : List Stmt} {pi : PIF} {g : PGF} {b : PSF} {pt : PTF} {pos : Pos}
theorem tI_bndS {k : List D → Mem → Option SOut} {σ : L2.St} {H : Hp} {D : Ends} {w : Wd} {m : Mem} {e : Ev} {r : SOut} (g : Good X.K w H m) (ev : EvR X.K w H e σ) (h : bndS (pi e m) e k = some r) (q : PostS X W D w H r)
    {R : It → Hp → Prop} (hk : ∀ d m1 w1 J H1, k d m1 = some r → Good X.K w1 H1 m1 → Ext X.K w H w1 H1 → Yields X.K J w1 H1 d → EvR X.K w1 H1 e σ → PostS X W D w1 H1 r → R J H1) : tI X W pi σ H R := by
  cases hp : pi e m with
  | none => rw [hp] at h; cases h
  | some o =>
    rw [hp] at h
    cases o with
    | ok d m1 => exact ⟨w, m, e, _, g, ev, hp, fun w1 H1 J g1 x1 y1 => hk d m1 w1 J H1 h g1 x1 y1 (ev.mono x1) (q.ext x1)⟩
    | exc c m1 =>
      have h : some (SOut.exc c e m1) = some r := h
      cases h
      exact ⟨w, m, e, _, g, ev, hp, fun w' H' C g' x' hc => q w' σ H' C g' x' (ev.mono x') hc⟩
theorem ms_for (hp : PassesOwn (model X.prog X.w) X.A X.env X.xe) (hc : X.calm = true) (hi : MI X W tg iter pi) (hg : MG X W tg g) (hb : MSs X W body b)
    (hs : ∀ x, foldedSetIterable iter X.env x = pure x := by intro _; rfl) : MS X W (.For tg iter body [] pos) (sFor pi g b) := PS.imp (ps_for hp hc hi hg hb hs) fun D σ H ⟨w, m, e, r, g0, ev, h, qq⟩ => by
  refine tI_bndS g0 ev h qq fun ds m1 w1 J H1 h1 g1 x1 y1 ev1 q1 => ?_
  refine ⟨fun i n σ' H' => n = ds.length - i ∧ i ≤ ds.length ∧ ∃ w' m' e', Good X.K w' H' m' ∧ Ext X.K w1 H1 w' H' ∧ EvR X.K w' H' e' σ' ∧ loopF g b (ds.drop i) e' m' = some r,
    ⟨ds.length, by simp, Nat.zero_le _, w1, m1, e, g1, Ext.refl, ev1, h1⟩, ?_⟩
  rintro i n σ' H' ⟨rfl, hi, w', m', e', g', x', ev', hl⟩
  by_cases hlt : i < ds.length
  · refine .inr ⟨y1.go i w' H' x' hlt, fun σ2 H2 => ∃ w2 m2 e2, Good X.K w2 H2 m2 ∧ Ext X.K w1 H1 w2 H2 ∧ EvR X.K w2 H2 e2 σ2 ∧ loopF g b (ds.drop (i + 1)) e2 m2 = some r, fun σ2 H2 hN => ?_, fun x H2 hy => ?_⟩
    · exact ⟨ds.length - (i + 1), by omega, rfl, hlt, hN⟩
    · have hd : ds[i]? = some ds[i] := List.getElem?_eq_getElem hlt
      obtain ⟨w2, g2, x2, rd⟩ := y1.yld i x w' H' H2 m' g' x' hy _ hd
      rw [List.drop_eq_getElem_cons hlt] at hl
      unfold loopF at hl
      split at hl
      · rename_i e3 m3 hg3
        refine ⟨w2, m', e', ds[i], _, g2, ev'.mono x2, rd, hg3, fun w3 σ3 H3 g3 x3 ev3 => ?_⟩
        have x13 := (x'.trans x2).trans x3
        cases hb3 : b e3 m3 with
        | none => rw [hb3] at hl; cases hl
        | some u =>
          refine ⟨w3, m3, e3, u, g3, ev3, hb3, ?_⟩
          rw [hb3] at hl
          cases u with
          | nx e4 m4 => exact fun w4 σ4 H4 g4 x4 ev4 => ⟨w4, m4, e4, g4, x13.trans x4, ev4, hl⟩
          | ct e4 m4 => exact fun w4 σ4 H4 g4 x4 ev4 => ⟨w4, m4, e4, g4, x13.trans x4, ev4, hl⟩
          | bk e4 m4 =>
            cases hl
            exact fun w4 σ4 H4 g4 x4 ev4 => q1 w4 σ4 H4 g4 (x13.trans x4) ev4
          | rt d m4 =>
            cases hl
            exact fun w4 v4 H4 g4 x4 r4 => q1 w4 v4 H4 g4 (x13.trans x4) r4
          | exc c e4 m4 =>
            cases hl
            exact fun w4 σ4 H4 C g4 x4 ev4 hc4 => q1 w4 σ4 H4 C g4 (x13.trans x4) ev4 hc4
      · cases hl
  · have e0 : i = ds.length := by omega
    subst e0
    rw [List.drop_length] at hl
    cases hl
    exact .inl ⟨y1.stop w' H' x', q1 w' σ' H' g' x' ev'⟩
theorem ms_while (fuel : Ev → Mem → Nat) (hp : PassesOwn (model X.prog X.w) X.A X.env X.xe) (hc : MT X W c pt) (hb : MSs X W body b) : MS X W (.While c body [] pos) (sWhile fuel pt b) := PS.imp (ps_while hp hc hb) fun D σ H ⟨w, m, e, r, g0, ev, h, qq⟩ => by
  refine ⟨fun n σ' H' => ∃ w' m' e', Good X.K w' H' m' ∧ Ext X.K w H w' H' ∧ EvR X.K w' H' e' σ' ∧ whileF pt b n e' m' = some r, ⟨_, w, m, e, g0, Ext.refl, ev, h⟩, ?_⟩
  rintro n σ' H' ⟨w', m', e', g', x', ev', hl⟩
  cases n with
  | zero => cases hl
  | succ n =>
    refine tT_bndS g' ev' hl (qq.ext x') fun k m1 w1 H1 h1 g1 x1 ev1 q1 => ?_
    split at h1
    · rename_i hk
      rw [if_pos hk]
      refine ⟨fun σ2 H2 => ∃ w2 m2 e2, Good X.K w2 H2 m2 ∧ Ext X.K w H w2 H2 ∧ EvR X.K w2 H2 e2 σ2 ∧ whileF pt b n e2 m2 = some r, fun σ2 H2 hN => ⟨n, Nat.lt_succ_self n, hN⟩, ?_⟩
      have x01 := x'.trans x1
      cases hb3 : b e' m1 with
      | none => rw [hb3] at h1; cases h1
      | some u =>
        refine ⟨w1, m1, e', u, g1, ev1, hb3, ?_⟩
        rw [hb3] at h1
        cases u with
        | nx e4 m4 => exact fun w4 σ4 H4 g4 x4 ev4 => ⟨w4, m4, e4, g4, x01.trans x4, ev4, h1⟩
        | ct e4 m4 => exact fun w4 σ4 H4 g4 x4 ev4 => ⟨w4, m4, e4, g4, x01.trans x4, ev4, h1⟩
        | bk e4 m4 =>
          cases h1
          exact fun w4 σ4 H4 g4 x4 ev4 => q1 w4 σ4 H4 g4 x4 ev4
        | rt d m4 =>
          cases h1
          exact fun w4 v4 H4 g4 x4 r4 => q1 w4 v4 H4 g4 x4 r4
        | exc c e4 m4 =>
          cases h1
          exact fun w4 σ4 H4 C g4 x4 ev4 hc4 => q1 w4 σ4 H4 C g4 x4 ev4 hc4
    · rename_i hk
      rw [if_neg hk]
      cases h1
      exact q1 w1 σ' H1 g1 Ext.refl ev1
end
end Z

set_option maxRecDepth 100000
set_option maxHeartbeats 4000000
set_option autoImplicit false
namespace Z
open PySem PySem.Spec PyProof.Rows L2

/-! ### comprehensions -/
/-- a comprehension's target: a name, or names in a tuple -/
inductive Tgt where
  | n (i : Nat)
  | t (is : List Nat)
def gNs : List Nat → TGs
  | [] => gNil
  | i :: is => gCons (gName i) (gNs is)
def tgtG (K : PySem.W.Frag) : Tgt → TG
  | .n i => gName i
  | .t is => gTup K is.length (gNs is)
def tgtE (t : Tgt) (d : D) (e : Ev) : Option Ev := match t, d with
  | .n i, d => some (e.set i (some d))
  | .t is, .tup ds => if ds.length = is.length then some (setAll is ds e) else none
  | _, _ => none
def Tgt.slots : Tgt → List Nat
  | .n i => [i]
  | .t is => is
abbrev W0 : WX := fun _ _ _ _ => False
theorem wipe_set {i : Nat} {o : Option V} : ∀ {vs : List Nat} {σ : L2.St}, i ∈ vs → L2.wipe (σ.set i o) vs = L2.wipe σ vs
  | v :: vs, σ, h => by
    unfold L2.wipe
    by_cases hv : v = i
    · subst hv
      by_cases hm : v ∈ vs
      · rw [wipe_set hm]
      · have : ∀ (vs : List Nat) (σ : L2.St), v ∉ vs → L2.wipe (σ.set v o) vs = (L2.wipe σ vs).set v o := fun vs => by
          induction vs with
          | nil => intro σ _; rfl
          | cons u vs ih =>
            intro σ hn
            unfold L2.wipe
            rw [ih σ fun z => hn (List.mem_cons_of_mem _ z)]
            exact List.set_comm _ _ fun z => hn (by rw [z]; exact List.mem_cons_self)
        rw [this vs σ hm, List.set_set]
    · have hm : i ∈ vs := by
        rcases List.mem_cons.mp h with z | z
        · exact absurd z.symm hv
        · exact z
      rw [wipe_set hm]
theorem wipe_wipe {vs : List Nat} {σ : L2.St} : ∀ {us : List Nat}, (∀ u ∈ us, u ∈ vs) → L2.wipe (L2.wipe σ us) vs = L2.wipe σ vs
  | [], _ => rfl
  | u :: us, h => by
    show L2.wipe ((L2.wipe σ us).set u none) vs = _
    rw [wipe_set (h u List.mem_cons_self), wipe_wipe fun v hv => h v (List.mem_cons_of_mem _ hv)]
theorem gNs_run {K : PySem.W.Frag} {w : Wd} {H : Hp} {vs0 : List Nat} : ∀ {is : List Nat} {ds : List D} {xs : List V} {e : Ev} {σ : L2.St} {Q : L2.St → Hp → Prop}, (∀ i ∈ is, i ∈ vs0) → ds.length = is.length → RepL K w H ds xs → EvR K w H e σ →
    (∀ σ', EvR K w H (setAll is ds e) σ' → L2.wipe σ' vs0 = L2.wipe σ vs0 → Q σ' H) → gNs is xs σ H Q
  | [], ds, xs, e, σ, Q, hs, hl, r, ev, q => by
    have : ds = [] := List.eq_nil_of_length_eq_zero hl
    subst this
    obtain rfl := RepL.nil_iff.mp r
    exact ⟨rfl, q σ ev rfl⟩
  | i :: is, ds, xs, e, σ, Q, hs, hl, r, ev, q => by
    match ds, hl, r, q with
    | d :: ds, hl, r, q =>
      obtain ⟨v, t, rfl, rd, rt⟩ := RepL.cons_iff.mp r
      refine ⟨v, t, rfl, ?_⟩
      refine gNs_run (is := is) (ds := ds) (e := e.set i (some d)) (fun j hj => hs j (List.mem_cons_of_mem _ hj)) (by simpa using hl) rt (ev.set rd) fun σ' ev' hw => q σ' ev' ?_
      rw [hw]
      exact wipe_set (hs i List.mem_cons_self)
theorem tgt_run {K : PySem.W.Frag} {w : Wd} {H : Hp} {vs0 : List Nat} {T : Tgt} {d : D} {v : V} {e e' : Ev} {σ : L2.St} {Q : L2.St → Hp → Prop} (hs : ∀ i ∈ T.slots, i ∈ vs0) (r : Rep K w H d v) (ev : EvR K w H e σ) (h : tgtE T d e = some e')
    (q : ∀ σ', EvR K w H e' σ' → L2.wipe σ' vs0 = L2.wipe σ vs0 → Q σ' H) : tgtG K T v σ H Q := by
  unfold tgtE at h
  split at h
  · rename_i i
    cases h
    exact q _ (ev.set r) (wipe_set (hs i List.mem_cons_self))
  · rename_i is ds
    split at h
    · rename_i hl
      cases h
      obtain ⟨a, xs, rfl, ha, hr⟩ := asT_rep r rfl
      exact ⟨a, xs, rfl, ha, by rw [hr.len]; exact hl, gNs_run hs hl hr ev q⟩
    · cases h
  · cases h
mutual
theorem rep_pv {K : PySem.W.Frag} {w : Wd} {H : Hp} {f : Addr → Prop} : ∀ {d : D} {v : V}, Rep K w H d v → Rep K { w with pv := f } H d v
  | .non, _, h => h
  | .bl _, _, h => h
  | .int _, _, h => h
  | .str _, _, h => h
  | .tup l, _, h => by
    simp only [Rep] at h ⊢
    obtain ⟨a, xs, r, t, q⟩ := h
    exact ⟨a, xs, r, t, repL_pv q⟩
  | .lst l, _, h => by
    simp only [Rep] at h ⊢
    obtain ⟨a, xs, r, f, t, q⟩ := h
    exact ⟨a, xs, r, f, t, repL_pv q⟩
  | .ro l, _, h => by
    simp only [Rep] at h ⊢
    obtain ⟨a, xs, r, t, q⟩ := h
    exact ⟨a, xs, r, t, repL_pv q⟩
  | .loc i, _, h => by
    simp only [Rep] at h ⊢
    exact h
theorem repL_pv {K : PySem.W.Frag} {w : Wd} {H : Hp} {f : Addr → Prop} : ∀ {l : List D} {vs : List V}, RepL K w H l vs → RepL K { w with pv := f } H l vs
  | [], _, h => by simp only [RepL] at h ⊢; exact h
  | d :: l, _, h => by
    simp only [RepL] at h ⊢
    obtain ⟨v, r, q, h1, h2⟩ := h
    exact ⟨v, r, q, rep_pv h1, repL_pv h2⟩
end
theorem evR_pv {K : PySem.W.Frag} {w : Wd} {H : Hp} {f : Addr → Prop} {e : Ev} {σ : L2.St} (h : EvR K w H e σ) : EvR K { w with pv := f } H e σ := ⟨h.1, fun i d q => by
  obtain ⟨v, h1, h2⟩ := h.2 i d q
  exact ⟨v, h1, rep_pv h2⟩⟩
theorem repC_pv {K : PySem.W.Frag} {w : Wd} {H : Hp} {f : Addr → Prop} {a : Addr} {c : Cell} (h : RepC K w H a c) : RepC K { w with pv := f } H a c := by
  cases c with
  | lst l => obtain ⟨h1, xs, h2, h3⟩ := h; exact ⟨h1, xs, h2, repL_pv h3⟩
  | frz l => obtain ⟨h1, xs, h2, h3⟩ := h; exact ⟨h1, xs, h2, repL_pv h3⟩
/-- an address held as it is, and given up -/
def Wd.hold (w : Wd) (p : Addr) : Wd := { w with pv := fun a => a = p ∨ w.pv a }
def Wd.drop (w : Wd) (p : Addr) : Wd := { w with pv := fun a => a ≠ p ∧ w.pv a }
section
variable {K : PySem.W.Frag} {w w' : Wd} {H H' : Hp} {m : Mem} {p : Addr} {xs ys : List V}
theorem Good.hold0 (g : Good K w H m) (hp : H p = none) : Good K (w.hold p) (upd H p (.lst [])) m ∧ Ext K w H ((w.hold p).drop p) (upd H p (.lst [])) ∧ ∀ {e : Ev} {σ : L2.St}, EvR K w H e σ → EvR K (w.hold p) (upd H p (.lst [])) e σ := by
  have g1 : Good K w (upd H p (.lst [])) m := g.new hp
  have x1 : Ext K w H w (upd H p (.lst [])) := Ext.new g hp
  have np : ¬ w.pv p := fun z => by
    obtain ⟨⟨o, h⟩, _⟩ := g.pv p z
    rw [hp] at h; cases h
  refine ⟨⟨g1.len, g1.nd, fun i c a hc ha => repC_pv (g1.at' i c a hc ha), g1.fz, fun a ha => ?_⟩, ⟨x1.ρ, x1.fz, x1.tup, x1.lst, x1.ro, fun a ha => ⟨⟨fun z => np (z ▸ ha), .inr ha⟩, (x1.pv a ha).2⟩⟩, fun ev => evR_pv (ev.mono x1)⟩
  rcases ha with rfl | ha
  · refine ⟨⟨_, upd_same⟩, fun z => ?_, fun z => ?_⟩
    · obtain ⟨i, hi⟩ := List.mem_iff_getElem?.mp z
      obtain ⟨ys, hy⟩ := g.there hi
      rw [hp] at hy; cases hy
    · obtain ⟨ys, hy⟩ := g.fz _ z
      rw [hp] at hy; cases hy
  · exact g1.pv a ha
theorem Ext.drop (x : Ext K w H w' H') : Ext K (w.drop p) H (w'.drop p) H' := ⟨x.ρ, x.fz, x.tup, x.lst, x.ro, fun a ha => ⟨⟨ha.1, (x.pv a ha.2).1⟩, (x.pv a ha.2).2⟩⟩
theorem Good.grow (g : Good K w H m) (hv : w.pv p) (hp : H p = some (.lst xs)) : Good K w (upd H p (.lst ys)) m ∧ Ext K (w.drop p) H (w.drop p) (upd H p (.lst ys)) := by
  obtain ⟨_, nr, nf⟩ := g.pv p hv
  have x : Ext K (w.drop p) H (w.drop p) (upd H p (.lst ys)) := by
    refine ⟨fun _ _ h => h, fun _ h => h, fun b zs h => ?_, fun b zs hf h => ?_, fun b zs h => sqR_upd (fun ob u z => by rw [hp] at z; cases z) h, fun a ha => ⟨ha, upd_ne ha.1⟩⟩
    · rcases h with (h | ⟨ob, h⟩) | h
      · exact .inl (.inl (by rw [upd_ne (fun z => by rw [z, hp] at h; cases h)]; exact h))
      · exact .inl (.inr ⟨ob, by rw [upd_ne (fun z => by rw [z, hp] at h; cases h)]; exact h⟩)
      · exact .inr h
    · have nb : b ≠ p := fun z => nf (by rw [← z]; exact hf)
      rw [upd_ne nb]; exact h
  refine ⟨⟨g.len, g.nd, fun i c a hc ha => ?_, fun a ha => ?_, fun a ha => ?_⟩, x⟩
  · have q := g.at' i c a hc ha
    have q1 : RepC K (w.drop p) H a c := repC_pv q
    have na : a ≠ p := fun z => nr (by rw [← z]; exact List.mem_of_getElem? ha)
    have q2 : RepC K (w.drop p) (upd H p (.lst ys)) a c := q1.mono x (fun h => h) fun zs h => by rw [upd_ne na]; exact h
    exact repC_pv (w := w.drop p) (f := w.pv) q2
  · obtain ⟨zs, h⟩ := g.fz a ha
    have na : a ≠ p := fun z => nf (by rw [← z]; exact ha)
    exact ⟨zs, by rw [upd_ne na]; exact h⟩
  · obtain ⟨⟨o, h1⟩, h2, h3⟩ := g.pv a ha
    by_cases na : a = p
    · subst na; exact ⟨⟨_, upd_same⟩, h2, h3⟩
    · exact ⟨⟨o, by rw [upd_ne na]; exact h1⟩, h2, h3⟩
/-- it is made: it changes no more -/
theorem Good.made {l : List D} (g : Good K w H m) (hv : w.pv p) (hp : H p = some (.lst xs)) (r : RepL K w H l xs) : Good K ((w.drop p).fzn p) H m ∧ Rep K ((w.drop p).fzn p) H (.lst l) (.ref p) := by
  obtain ⟨_, nr, nf⟩ := g.pv p hv
  have x : Ext K (w.drop p) H ((w.drop p).fzn p) H := Ext.fzn
  refine ⟨⟨g.len, g.nd, fun i c a hc ha => ?_, fun a ha => ?_, fun a ha => ?_⟩, ?_⟩
  · have q1 : RepC K (w.drop p) H a c := repC_pv (g.at' i c a hc ha)
    have na : a ≠ p := fun z => nr (by rw [← z]; exact List.mem_of_getElem? ha)
    exact q1.mono x (fun h z => z.elim (fun e => na e) h) fun _ h => h
  · rcases ha with rfl | ha
    · exact ⟨xs, hp⟩
    · exact g.fz a ha
  · obtain ⟨h1, h2, h3⟩ := g.pv a ha.2
    exact ⟨h1, h2, fun z => z.elim (fun e => ha.1 e) h3⟩
  · simp only [Rep]
    exact ⟨p, xs, rfl, .inl rfl, hp, RepL.mono x (repL_pv r)⟩
end
def tYesF : PTF := fun _ m => some (.ok true m)
abbrev MTs (X : Cx) (W : WX) (ifs : List Expr) (p : PTF) : Prop := PTs X ifs (tT X W p)
theorem PTs.imp {X : Cx} {e : List Expr} {t t' : TT} (h : PTs X e t) (i : ∀ σ H Q, t' σ H Q → t σ H Q) : PTs X e t' := ⟨fun pins s σ H Q I q => h.run pins s σ H Q I (i _ _ _ q)⟩
theorem mts_nil {X : Cx} {W : WX} : MTs X W [] tYesF := PTs.imp pts_nil fun σ H Q ⟨w, m, e, r, g, ev, h, q⟩ => by
  cases h
  exact q w H g Ext.refl
theorem mts_one {X : Cx} {W : WX} {c : Expr} {p : PTF} (h : MT X W c p) : MTs X W [c] p := pts_one h
def lcF (T : Tgt) (t : PTF) (el : PEF) (e : Ev) : List D → Mem → Option (Out (List D))
  | [], m => some (.ok [] m)
  | d :: ds, m => match tgtE T d e with
    | some e1 => match t e1 m with
      | some (.ok true m2) => match el e1 m2 with
        | some (.ok y m3) => match lcF T t el e ds m3 with
          | some (.ok ys m4) => some (.ok (y :: ys) m4)
          | _ => none
        | _ => none
      | some (.ok false m2) => lcF T t el e ds m2
      | _ => none
    | none => none
/-- what becomes of the made list: it changes no more, or it is a cell -/
structure Fin1 (K : PySem.W.Frag) (fin : List D → Mem → D × Mem) : Prop where
  ok : ∀ w H m p xs l, Good K w H m → w.pv p → H p = some (.lst xs) → RepL K w H l xs → ∃ w', Good K w' H (fin l m).2 ∧ Ext K (w.drop p) H w' H ∧ Rep K w' H (fin l m).1 (.ref p)
def finF (l : List D) (m : Mem) : D × Mem := (.lst l, m)
def finM (l : List D) (m : Mem) : D × Mem := (.loc m.length, m ++ [.lst l])
theorem fin_F {K : PySem.W.Frag} : Fin1 K finF := ⟨fun w H m p xs l g hv hp r => ⟨_, (g.made hv hp r).1, Ext.fzn, (g.made hv hp r).2⟩⟩
theorem fin_M {K : PySem.W.Frag} : Fin1 K finM := ⟨fun w H m p xs l g hv hp r => by
  obtain ⟨_, nr, nf⟩ := g.pv p hv
  refine ⟨(w.drop p).push p, ⟨?_, ?_, fun i c a hc ha => ?_, g.fz, fun a ha => ?_⟩, Ext.push, ?_⟩
  · show (w.ρ ++ [p]).length = (m ++ [Cell.lst l]).length
    rw [List.length_append, List.length_append, g.len]; rfl
  · exact List.nodup_append.mpr ⟨g.nd, by simp, fun a ha b hb => by
      have : b = p := by simpa using hb
      subst this
      exact fun z => nr (z ▸ ha)⟩
  · have ha : (w.ρ ++ [p])[i]? = some a := ha
    have hc : (m ++ [Cell.lst l])[i]? = some c := hc
    by_cases hi : i < w.ρ.length
    · rw [List.getElem?_append_left hi] at ha
      rw [List.getElem?_append_left (by rw [← g.len]; exact hi)] at hc
      have q : RepC K (w.drop p) H a c := repC_pv (g.at' i c a hc ha)
      exact q.mono Ext.push (fun h => h) fun _ h => h
    · have hil : i < (w.ρ ++ [p]).length := (List.getElem?_eq_some_iff.mp ha).1
      rw [List.length_append, List.length_singleton] at hil
      have ei : i = w.ρ.length := by omega
      rw [ei, List.getElem?_append_right (Nat.le_refl _), Nat.sub_self] at ha
      rw [ei, g.len, List.getElem?_append_right (Nat.le_refl _), Nat.sub_self] at hc
      simp at ha hc
      subst ha hc
      exact ⟨nf, xs, hp, RepL.mono (w := w.drop p) Ext.push (repL_pv r)⟩
  · obtain ⟨h1, h2, h3⟩ := g.pv a ha.2
    refine ⟨h1, fun z => ?_, h3⟩
    have z : a ∈ w.ρ ++ [p] := z
    rcases List.mem_append.mp z with z | z
    · exact h2 z
    · exact ha.1 (by simpa using z)
  · show Rep K ((w.drop p).push p) H (.loc m.length) (.ref p)
    simp only [Rep]
    refine ⟨p, rfl, ?_⟩
    show (w.ρ ++ [p])[m.length]? = some p
    rw [← g.len, List.getElem?_append_right (Nat.le_refl _), Nat.sub_self]
    rfl⟩
def pLcG (fin : List D → Mem → D × Mem) (vs : List Nat) (pi : PIF) (T : Tgt) (t : PTF) (el : PEF) : PEF := fun e m => bnd (pi e m) fun ds m1 => if ds.length ≤ SL then (match lcF T t el (wipeE e vs) ds m1 with
  | some (.ok ys m2) => some (.ok (fin ys m2).1 (fin ys m2).2)
  | _ => none) else none
abbrev pLc := pLcG finF
abbrev pLcM := pLcG finM
section
variable {X : Cx} {W : WX}
theorem lc_of {fin : List D → Mem → D × Mem} (hfin : Fin1 X.K fin) {vs : List Nat} {pi : PIF} {T : Tgt} {t : PTF} {el : PEF} {σ : L2.St} {H : Hp} {Q : VK} (hT : ∀ i ∈ T.slots, i ∈ vs) (h : tM X W (pLcG fin vs pi T t el) σ H Q) : tLc (tI X W pi) (tgtG X.K T) (tT X W0 t) (tM X W0 el) vs σ H Q := by
  obtain ⟨w, m, e, r, g0, ev, h, qq⟩ := h
  show tI X W pi σ H _
  unfold pLcG at h
  cases hp : pi e m with
  | none => rw [hp] at h; cases h
  | some o =>
    rw [hp] at h
    cases o with
    | exc c m1 => cases h; exact ⟨w, m, e, _, g0, ev, hp, qq⟩
    | ok ds m1 =>
      refine ⟨w, m, e, _, g0, ev, hp, fun w1 H1 J g1 x1 y1 p hpn => ?_⟩
      have h : (if ds.length ≤ SL then (match lcF T t el (wipeE e vs) ds m1 with
        | some (.ok ys m2) => some (.ok (fin ys m2).1 (fin ys m2).2)
        | _ => none) else none) = some r := h
      split at h
      · rename_i hz
        cases hl : lcF T t el (wipeE e vs) ds m1 with
        | none => rw [hl] at h; cases h
        | some o =>
          rw [hl] at h
          cases o with
          | exc _ _ => cases h
          | ok all m2 =>
            cases h
            obtain ⟨g2, x2, ev2⟩ := g1.hold0 hpn
            have evw : EvR X.K (w1.hold p) (upd H1 p (.lst [])) (wipeE e vs) (L2.wipe σ vs) := (ev2 (ev.mono x1)).wipe vs
            refine ⟨fun i n H' => n = ds.length - i ∧ i ≤ ds.length ∧ ∃ w' m' acc xs ys, Good X.K w' H' m' ∧ w'.pv p ∧ H' p = some (.lst xs) ∧ RepL X.K w' H' acc xs ∧ Ext X.K w1 H1 (w'.drop p) H' ∧ EvR X.K w' H' (wipeE e vs) (L2.wipe σ vs) ∧
              lcF T t el (wipeE e vs) (ds.drop i) m' = some (.ok ys m2) ∧ acc ++ ys = all ∧ acc.length ≤ i, ⟨ds.length, by simp, Nat.zero_le _, w1.hold p, m1, [], [], all, g2, .inl rfl, upd_same, RepL.nil, x2, evw, hl, rfl, Nat.le_refl _⟩, ?_⟩
            rintro i n H' ⟨rfl, hi, w', m', acc, xs, ys, g', pv', hx', ra, x', ev', hl', hall, hacc⟩
            by_cases hlt : i < ds.length
            · refine .inr ⟨y1.go i _ H' x' hlt, fun H2 => ∃ w2 m3 acc2 xs2 ys2, Good X.K w2 H2 m3 ∧ w2.pv p ∧ H2 p = some (.lst xs2) ∧ RepL X.K w2 H2 acc2 xs2 ∧ Ext X.K w1 H1 (w2.drop p) H2 ∧ EvR X.K w2 H2 (wipeE e vs) (L2.wipe σ vs) ∧
                lcF T t el (wipeE e vs) (ds.drop (i + 1)) m3 = some (.ok ys2 m2) ∧ acc2 ++ ys2 = all ∧ acc2.length ≤ i + 1, fun H2 hN => ⟨ds.length - (i + 1), by omega, rfl, hlt, hN⟩, fun x H2 hy => ?_⟩
              have hd : ds[i]? = some ds[i] := List.getElem?_eq_getElem hlt
              -- the item comes at a world that holds p too
              obtain ⟨w2, g2', x2', rd⟩ : ∃ w2, Good X.K w2 H2 m' ∧ Ext X.K w' H' w2 H2 ∧ Rep X.K w2 H2 ds[i] x := by
                have xy : Ext X.K w1 H1 w' H' := ⟨x'.ρ, x'.fz, x'.tup, x'.lst, x'.ro, fun a ha => ⟨(x'.pv a ha).1.2, (x'.pv a ha).2⟩⟩
                exact y1.yld i x w' H' H2 m' g' xy hy _ hd
              rw [List.drop_eq_getElem_cons hlt] at hl'
              unfold lcF at hl'
              cases htg : tgtE T ds[i] (wipeE e vs) with
              | none => rw [htg] at hl'; cases hl'
              | some e1 =>
                rw [htg] at hl'
                refine tgt_run hT rd (ev'.mono x2') htg fun σ2 ev3 hw => ⟨?_, ?_⟩
                · rw [hw]
                  exact wipe_wipe fun _ h => h
                have ev4 : EvR X.K w2 H2 (wipeE e vs) (L2.wipe σ vs) := ev'.mono x2'
                have hp2 : w2.pv p ∧ H2 p = some (.lst xs) := ⟨(x2'.pv p pv').1, ((x2'.pv p pv').2).trans hx'⟩
                have xx2 : Ext X.K w1 H1 (w2.drop p) H2 := x'.trans x2'.drop
                -- the test
                cases ht : t e1 m' with
                | none => simp only [ht] at hl'; cases hl'
                | some o =>
                  cases o with
                  | exc _ _ => simp only [ht] at hl'; cases hl'
                  | ok b m3 =>
                    refine ⟨w2, m', e1, _, g2', ev3, ht, fun w3 H3 g3 x3 => ?_⟩
                    have hp3 : w3.pv p ∧ H3 p = some (.lst xs) := ⟨(x3.pv p hp2.1).1, ((x3.pv p hp2.1).2).trans hp2.2⟩
                    cases b with
                    | false =>
                      simp only [ht] at hl'
                      refine iteF ?_
                      exact ⟨w3, m3, acc, xs, ys, g3, hp3.1, hp3.2, (ra.mono x2').mono x3, xx2.trans x3.drop, ev4.mono x3, hl', hall, by omega⟩
                    | true =>
                      simp only [ht] at hl'
                      refine iteT ?_
                      cases he : el e1 m3 with
                      | none => simp only [he] at hl'; cases hl'
                      | some o2 =>
                        cases o2 with
                        | exc _ _ => simp only [he] at hl'; cases hl'
                        | ok y m4 =>
                          simp only [he] at hl'
                          refine ⟨w3, m3, e1, _, g3, ev3.mono x3, he, fun w4 v4 H4 g4 x4 r4 => ?_⟩
                          have hp4 : w4.pv p ∧ H4 p = some (.lst xs) := ⟨(x4.pv p hp3.1).1, ((x4.pv p hp3.1).2).trans hp3.2⟩
                          have ra4 := ((ra.mono x2').mono x3).mono x4
                          refine ⟨xs, hp4.2, by rw [ra.len, ← SL_eq]; omega, ?_⟩
                          obtain ⟨g5, x5⟩ := g4.grow (ys := xs ++ [v4]) hp4.1 hp4.2
                          cases hrest : lcF T t el (wipeE e vs) (ds.drop (i + 1)) m4 with
                          | none => rw [hrest] at hl'; cases hl'
                          | some o3 =>
                            rw [hrest] at hl'
                            cases o3 with
                            | exc _ _ => cases hl'
                            | ok ys' m5 =>
                              cases hl'
                              have q6 : RepL X.K w4 (upd H4 p (.lst (xs ++ [v4]))) (acc ++ [y]) (xs ++ [v4]) := by
                                have h1 : RepL X.K (w4.drop p) H4 (acc ++ [y]) (xs ++ [v4]) := repL_pv (ra4.append (RepL.cons r4 RepL.nil))
                                exact repL_pv (w := w4.drop p) (f := w4.pv) (h1.mono x5)
                              have ev6 : EvR X.K w4 (upd H4 p (.lst (xs ++ [v4]))) (wipeE e vs) (L2.wipe σ vs) := by
                                have h1 : EvR X.K (w4.drop p) H4 (wipeE e vs) (L2.wipe σ vs) := evR_pv ((ev4.mono x3).mono x4)
                                exact evR_pv (w := w4.drop p) (f := w4.pv) (h1.mono x5)
                              refine ⟨w4, m4, acc ++ [y], xs ++ [v4], ys', g5, hp4.1, upd_same, q6, ((xx2.trans x3.drop).trans x4.drop).trans x5, ev6, hrest, ?_, ?_⟩
                              · rw [← hall, List.append_assoc]; rfl
                              · rw [List.length_append, List.length_singleton]; omega
            · have e0 : i = ds.length := by omega
              subst e0
              rw [List.drop_length] at hl'
              cases hl'
              rw [List.append_nil] at hall
              subst hall
              obtain ⟨w9, g3, x9, r3⟩ := hfin.ok _ _ _ _ _ _ g' pv' hx' ra
              exact .inl ⟨y1.stop _ H' x', qq w9 _ H' g3 ((x1.trans x').trans x9) r3⟩
      · cases h
end
end Z

set_option maxRecDepth 100000
set_option maxHeartbeats 4000000
set_option autoImplicit false
namespace Z
open PySem PySem.Spec PyProof.Rows L2

section
variable {X : Cx} {W : WX} {pi : PIF} {T : Tgt} {t : PTF} {el : PEF} {fin : List D → Mem → D × Mem}
theorem me_lc (hfin : Fin1 X.K fin) {elt tg iter : Expr} {ifs : List Expr} {scope : Scope} {own : List (Str × Nat)} {pos : Pos} (hc : X.calm = true) (hN : X.N.Nodup) (hi : MI X W tg iter pi) (ok : BlkOk X.N X.env.scope scope own) {vs : List Nat} (hv : own.map (·.2) = vs) (hT : ∀ i ∈ T.slots, i ∈ vs)
    (hg : ∀ (s : Shared) (H : Hp) (C : Addr) (cl : List (Str × Addr)) (fp : List Addr), PG (X.blk s H scope (compEnvC scope cl C X.env) fp) tg (tgtG X.K T)) (ht : ∀ (s : Shared) (H : Hp) (C : Addr) (cl : List (Str × Addr)) (fp : List Addr), MTs (X.blk s H scope (compEnvC scope cl C X.env) fp) W0 ifs t)
    (he : ∀ (s : Shared) (H : Hp) (C : Addr) (cl : List (Str × Addr)) (fp : List Addr), ME (X.blk s H scope (compEnvC scope cl C X.env) fp) W0 elt el) (hs : ∀ x, foldedSetIterable iter X.env x = pure x := by intro _; rfl) :
    ME X W (.ListComp elt [⟨tg, iter, ifs, 0⟩] scope pos) (pLcG fin vs pi T t el) := by
  subst hv
  exact PE.imp (pe_lc (tt := tT X W0 t) (te := tM X W0 el) hc hN hi ok hg ht he hs) fun _ _ _ h => lc_of hfin hT h
theorem ms_lc (hfin : Fin1 X.K fin) {i : Nat} {y : Str} {py : Pos} {elt tg iter : Expr} {ifs : List Expr} {scope : Scope} {own : List (Str × Nat)} {pos spos : Pos} (hc : X.calm = true) (hN : X.N.Nodup) (hy : X.N[i]? = some y) (hyl : X.env.scope.names.lookup y = some .local)
    (hsw : swapsWith (.ListComp elt [⟨tg, iter, ifs, 0⟩] scope pos) (some (.Name y py)) spos.line X.env = pure true) (hi : MI X W tg iter pi) (ok : BlkOk X.N X.env.scope scope own) {vs : List Nat} (hv : own.map (·.2) = vs) (hT : ∀ i ∈ T.slots, i ∈ vs)
    (hg : ∀ (s : Shared) (H : Hp) (C : Addr) (cl : List (Str × Addr)) (fp : List Addr), PG (X.blk s H scope (compEnvC scope cl C X.env) fp) tg (tgtG X.K T)) (ht : ∀ (s : Shared) (H : Hp) (C : Addr) (cl : List (Str × Addr)) (fp : List Addr), MTs (X.blk s H scope (compEnvC scope cl C X.env) fp) W0 ifs t)
    (he : ∀ (s : Shared) (H : Hp) (C : Addr) (cl : List (Str × Addr)) (fp : List Addr), ME (X.blk s H scope (compEnvC scope cl C X.env) fp) W0 elt el) (hs : ∀ x, foldedSetIterable iter X.env x = pure x := by intro _; rfl) :
    MS X W (.Assign [.Name y py] (.ListComp elt [⟨tg, iter, ifs, 0⟩] scope pos) spos) (sSet i (pLcG fin vs pi T t el)) := by
  subst hv
  exact PS.imp (ps_setLc (tt := tT X W0 t) (te := tM X W0 el) hc hN hy hyl hsw hi ok hg ht he hs) fun D σ H ⟨w, m, e, r, g, ev, h, q⟩ => lc_of hfin hT (tM_bndS (W := W) g ev h q fun d m1 w1 v H1 h1 g1 x1 r1 ev1 q1 => by
    cases h1
    exact q1 w1 _ H1 g1 Ext.refl (ev1.set r1))
end

/-! ### lists that will change -/
def rcMk (X : Cx) (o : List D → Mem → Option (List D)) : List V → Hp → VK → Prop := fun xs H Q => ∃ w m ds l, Good X.K w H m ∧ RepL X.K w H ds xs ∧ o ds m = some l ∧ ∀ w' v H', Good X.K w' H' (m ++ [.lst l]) → Ext X.K w H w' H' → Rep X.K w' H' (.loc m.length) v → Q v H'
def r2mk (X : Cx) (o : D → D → Mem → Option (List D)) : R2 := fun x y H Q => ∃ w m d e l, Good X.K w H m ∧ Rep X.K w H d x ∧ Rep X.K w H e y ∧ o d e m = some l ∧ ∀ w' v H', Good X.K w' H' (m ++ [.lst l]) → Ext X.K w H w' H' → Rep X.K w' H' (.loc m.length) v → Q v H'
def liftM (r : Option (List D)) (m : Mem) : Option (Out D) := match r with
  | some l => some (.ok (.loc m.length) (m ++ [.lst l]))
  | none => none
theorem liftM_some {r : Option (List D)} {m : Mem} {o : Out D} (h : liftM r m = some o) : ∃ l, r = some l ∧ o = .ok (.loc m.length) (m ++ [.lst l]) := by
  cases r with
  | none => cases h
  | some d => cases h; exact ⟨d, rfl, rfl⟩
def pCallM (o : List D → Mem → Option (List D)) (p : PAF) : PEF := fun e m => bnd (p e m) fun ds m1 => liftM (o ds m1) m1
def pBinM (o : D → D → Mem → Option (List D)) (p q : PEF) : PEF := fun e m => bnd (p e m) fun a m1 => bnd (q e m1) fun b m2 => liftM (o a b m2) m2
def oListL (ds : List D) (m : Mem) : Option (List D) := match ds with
  | [.tup l] => some l
  | [a] => asL m a
  | _ => none
def oRepL (a b : D) (m : Mem) : Option (List D) := match asH m a, b with
  | some l, .int k => if -(2 ^ 63) ≤ k ∧ k < 2 ^ 63 ∧ l.length * k.toNat ≤ SL then some (List.replicate k.toNat l).flatten else none
  | _, _ => none
def oCatL (a b : D) (m : Mem) : Option (List D) := match asH m a, asH m b with
  | some l, some r => if l.length + r.length ≤ SL then some (l ++ r) else none
  | _, _ => none
section
variable {X : Cx} {W : WX} {x : Str} {p pos : Pos} {e a b : Expr} {es : List Expr} {q : PAF} {p1 p2 : PEF} {T : String}
theorem new_cell {K : PySem.W.Frag} {w : Wd} {H : Hp} {m : Mem} {p : Addr} {l : List D} {xs : List V} (g : Good K w H m) (hp : H p = none) (r : RepL K w H l xs) : ∃ w', Good K w' (upd H p (.lst xs)) (m ++ [.lst l]) ∧ Ext K w H w' (upd H p (.lst xs)) ∧ Rep K w' (upd H p (.lst xs)) (.loc m.length) (.ref p) :=
  ⟨w.push p, g.newL hp r, (Ext.new g hp).trans Ext.push, rep_push g⟩
theorem cr_listM : CallR X (.type "list") (rcMk X oListL) := by
  intro pins s σ H xs us Q I r h
  obtain ⟨w, m, ds, l, g, hd, h, q⟩ := h
  unfold oListL at h
  split at h
  · cases h
    obtain ⟨v, rfl, rv⟩ := repL1 hd
    obtain ⟨a, ys, rfl, ha, hl⟩ := asT_rep rv rfl
    exact call_list_of pins s σ H _ us Q I r ⟨a, ys, rfl, .inr ha, fun p hp => by
      obtain ⟨w', g', x', r'⟩ := new_cell g hp hl
      exact q w' _ _ g' x' r'⟩
  · obtain ⟨v, rfl, rv⟩ := repL1 hd
    obtain ⟨a, ys, rfl, ha, hl⟩ := asL_rep g rv h
    exact call_list_of pins s σ H _ us Q I r ⟨a, ys, rfl, .inl ha, fun p hp => by
      obtain ⟨w', g', x', r'⟩ := new_cell g hp hl
      exact q w' _ _ g' x' r'⟩
  · cases h
theorem op_repM : OpR X (binaryOp .Mult) (r2mk X oRepL) := by
  intro pins s σ H x y v u Q I rx ry h
  obtain ⟨w, m, d, e, l, g, hx, hy, h, q⟩ := h
  unfold oRepL at h
  split at h
  · rename_i l' k hl
    split at h
    · rename_i hf
      cases h
      obtain rfl := rep_int hy
      obtain ⟨a, xs, rfl, ha, hr⟩ := asH_rep g hx hl
      refine op_rep pins s σ H _ _ v u Q I rx ry ⟨a, _, xs, rfl, rfl, ha, hf.1, hf.2.1, by rw [hr.len, ← SL_eq]; exact hf.2.2, fun p hp => ?_⟩
      obtain ⟨w', g', x', r'⟩ := new_cell g hp (rep_flat hr k.toNat)
      exact q w' _ _ g' x' r'
    · cases h
  · cases h
theorem op_catM : OpR X (binaryOp .Add) (r2mk X oCatL) := by
  intro pins s σ H x y v u Q I rx ry h
  obtain ⟨w, m, d, e, l, g, hx, hy, h, q⟩ := h
  unfold oCatL at h
  split at h
  · rename_i l' r' hl hr
    split at h
    · rename_i hz
      cases h
      obtain ⟨a, xs, rfl, ha, hl⟩ := asH_rep g hx hl
      obtain ⟨b, ys, rfl, hb, hr⟩ := asH_rep g hy hr
      refine op_cat pins s σ H _ _ v u Q I rx ry ⟨a, b, xs, ys, rfl, rfl, ha, hb, by rw [hl.len, hr.len, ← SL_eq]; exact hz, fun p hp => ?_⟩
      obtain ⟨w', g', x', r'⟩ := new_cell g hp (hl.append hr)
      exact q w' _ _ g' x' r'
    · cases h
  · cases h
theorem me_listM {o : List D → Mem → Option (List D)} (hc : CallR X (.type T) (rcMk X o)) (hg : Gl X x) (hm : X.mg x = none) (hv : bootBuiltins x = some (.type T)) (ha : MA X W (e :: es) q) (hn : x ≠ "__name__" := by decide) (hdb : (x == ("__debug__" : Str)) = false := by decide)
    (he : starEach (e :: es) X.env = (false, eval e X.env) :: starEach es X.env := by rfl) (hpl : (backTo pos (starEach es X.env)).any (·.1) = false := by rfl) : ME X W (.Call (.Name x p) (e :: es) [] pos) (pCallM o q) :=
  PE.imp (pe_callTy hc hg hm hv ha hn hdb he hpl) fun σ H Q ⟨w, m, e, r, g, ev, h, qq⟩ => by
    refine tA_bnd g ev h qq fun d1 m1 w1 v1 H1 h1 g1 x1 r1 ev1 q1 => ?_
    obtain ⟨d, hd, rfl⟩ := liftM_some h1
    exact ⟨w1, m1, d1, d, g1, r1, hd, q1⟩
theorem me_binM {op : Operator} {o : D → D → Mem → Option (List D)} (ho : OpR X (binaryOp op) (r2mk X o)) (ha : ME X W a p1) (hb : ME X W b p2) : ME X W (.BinOp a op b pos) (pBinM o p1 p2) :=
  PE.imp (pe_op ho ha hb) fun σ H Q ⟨w, m, e, r, g, ev, h, qq⟩ => by
    refine tM_bnd g ev h qq fun d1 m1 w1 v1 H1 h1 g1 x1 r1 ev1 q1 => ?_
    refine tM_bnd g1 ev1 h1 q1 fun d2 m2 w2 v2 H2 h2 g2 x2 r2 ev2 q2 => ?_
    obtain ⟨d, hd, rfl⟩ := liftM_some h2
    exact ⟨w2, m2, d1, d2, d, g2, r1.mono x2, r2, hd, q2⟩
end

/-! ### defs and calls -/
abbrev Fn := List D → Mem → Option (Out D)
def PostC (K : PySem.W.Frag) (mg : Str → Option Value) (w : Wd) (H : Hp) (Q : VK) (E : XK) : Out D → Prop
  | .ok d m => ∀ w' v H', Good K w' H' m → Ext K w H w' H' → Rep K w' H' d v → Q v H'
  | .exc c m => ∀ w' H' C, Good K w' H' m → Ext K w H w' H' → mg c = some (.ref C) → E (.ref C) none H'
def spF (K : PySem.W.Frag) (mg : Str → Option Value) (n : Nat) (f : Fn) : Sp := fun vs H Q E => ∃ w m ds r, Good K w H m ∧ RepL K w H ds vs ∧ ds.length = n ∧ f ds m = some r ∧ PostC K mg w H Q E r
def pFn (n : Nat) (b : PSF) : Fn := fun ds m => match b (startE n ds) m with
  | some (.rt d m1) => some (.ok d m1)
  | some (.nx _ m1) => some (.ok .non m1)
  | some (.exc c _ m1) => some (.exc c m1)
  | _ => none
theorem fnone_ok {P : Program} {w : World} {K : PySem.W.Frag} {mg : Str → Option Value} {base : Heap} {k n : Nat} {a : Addr} {fd : FuncData} {ps : List Str} : FnOk P w K mg base (CX P w) k a fd ps (spF K mg n fun _ _ => none) :=
  ⟨fun vs H Q E ⟨_, _, _, _, _, _, _, h, _⟩ => (nomatch h), fun A outer s H args us vs Q E hr e hb r ⟨_, _, _, _, _, _, _, h, _⟩ => (nomatch h)⟩
/-- a def that may be called by its name -/
structure FnA (P : Program) (w : World) (K : PySem.W.Frag) (mg : Str → Option Value) (base : Heap) (x : Str) (k n : Nat) (f : Fn) : Prop where
  ex : ∃ (a : Addr) (fd : FuncData) (ps : List Str), FnOk P w K mg base (CX P w) k a fd ps (spF K mg n f) ∧ mg x = some (.ref a) ∧ PySem.W.keepIn K (.ref a) = true ∧ Binds K fd ps []
/-- a def of the text where it stands -/
structure Txt1 (K : PySem.W.Frag) (mg : Str → Option Value) (x : Str) (st : Stmt) : Prop where
  ex : ∃ (a : Addr) (fd : FuncData), FunD K x x (defArgs st) (defBody st) (defScope st) [] [] a fd ∧ mg x = some (.ref a)
abbrev bodyCx (P : Program) (w : World) (K : PySem.W.Frag) (mg : Str → Option Value) (base : Heap) (N : List Str) (x : Str) (st : Stmt) (f : Addr) (cdv : Value) (A : Around) (outer : List Env) (s : Shared) (H : Hp) (E : XK) : Cx :=
  cxOf (CX P w) P w K mg base N x (defScope st) f cdv A outer s H E
abbrev WE0 (E : XK) : WX := fun cls d _ H => E cls d H
section
variable {P : Program} {w : World} {K : PySem.W.Frag} {mg : Str → Option Value} {base : Heap} {x : Str} {st : Stmt} {N ps : List Str} {k : Nat} {b : PSF}
theorem fn_at {a : Addr} {fd : FuncData} (F : FunD K x x (defArgs st) (defBody st) (defScope st) [] [] a fd) (S : FnScope N ps (defScope st))
    (hb : ∀ (f : Addr) (cdv : Value) (A : Around) (outer : List Env) (s : Shared) (H : Hp) (E : XK), Room k (A.deeper (envOfC x (defScope st) s.heap.objs.size f cdv)) → MSs (bodyCx P w K mg base N x st f cdv A outer s H E) (WE0 E) (defBody st) b) :
    FnOk P w K mg base (CX P w) (k + 1) a fd ps (spF K mg ps.length (pFn N.length b)) := by
  refine F.ok S (fun vs H Q E ⟨w', m, ds, r, g, hd, hl, h, q⟩ => by rw [hd.len]; exact hl) (fun cdv A outer s H vs Q E hr ⟨w', m, ds, r, g, hd, hl, h, q⟩ => ⟨_, hb a cdv A outer s H E hr, ?_⟩)
  unfold pFn at h
  have ev : EvR K w' H (startE N.length ds) (L2.start N vs) := EvR.start hd
  cases hbv : b (startE N.length ds) m with
  | none => rw [hbv] at h; cases h
  | some u =>
    rw [hbv] at h
    refine ⟨w', m, startE N.length ds, u, g, ev, hbv, ?_⟩
    cases u with
    | rt d m1 => cases h; exact fun w1 v1 H1 g1 x1 r1 => q w1 v1 H1 g1 x1 r1
    | nx e m1 => cases h; exact fun w1 σ1 H1 g1 x1 r1 => q w1 .non H1 g1 x1 (by simp only [Rep])
    | exc c e m1 => cases h; exact fun w1 σ1 H1 C g1 x1 _ hc => q w1 H1 C g1 x1 hc
    | bk _ _ => cases h
    | ct _ _ => cases h
theorem fn_ok (T : Txt1 K mg x st) (S : FnScope N ps (defScope st))
    (hbd : ∀ (kV doc pm : Value) (an : Option Addr) (cdv ct : Value) (us : List Value), us.length = ps.length → bindArgs (PySem.W.fnOf x x (defArgs st) (defBody st) (defScope st) .none kV doc pm an cdv ct) ⟨us, []⟩ = pure (ps.zip us))
    (hb : ∀ (f : Addr) (cdv : Value) (A : Around) (outer : List Env) (s : Shared) (H : Hp) (E : XK), Room k (A.deeper (envOfC x (defScope st) s.heap.objs.size f cdv)) → MSs (bodyCx P w K mg base N x st f cdv A outer s H E) (WE0 E) (defBody st) b) :
    FnA P w K mg base x (k + 1) ps.length (pFn N.length b) := by
  obtain ⟨a, fd, F, hm⟩ := T.ex
  exact ⟨a, fd, ps, fn_at F S hb, hm, F.kp, FunD.bindsN F hbd⟩
theorem FnA.mono {k' n : Nat} {f : Fn} (F : FnA P w K mg base x k n f) (h : k ≤ k') : FnA P w K mg base x k' n f := by
  obtain ⟨a, fd, ps, h1, h2⟩ := F.ex
  exact ⟨a, fd, ps, h1.mono h, h2⟩
/-- nothing is said of it -/
theorem fn_none {n : Nat} (T : Txt1 K mg x st) (hbd : ∀ (kV doc pm : Value) (an : Option Addr) (cdv ct : Value) (us : List Value), us.length = ps.length → bindArgs (PySem.W.fnOf x x (defArgs st) (defBody st) (defScope st) .none kV doc pm an cdv ct) ⟨us, []⟩ = pure (ps.zip us)) : FnA P w K mg base x k n (fun _ _ => none) := by
  obtain ⟨a, fd, F, hm⟩ := T.ex
  exact ⟨a, fd, ps, fnone_ok, hm, F.kp, FunD.bindsN F hbd⟩
/-- another function that says as much -/
theorem FnA.imp {n : Nat} {f f' : Fn} (F : FnA P w K mg base x k n f) (h : ∀ ds m r, f' ds m = some r → f ds m = some r) : FnA P w K mg base x k n f' := by
  obtain ⟨a, fd, ps, h1, h2⟩ := F.ex
  exact ⟨a, fd, ps, h1.imp fun vs H Q E ⟨w', m, ds, r, g, hd, hl, hf, q⟩ => ⟨w', m, ds, r, g, hd, hl, h _ _ _ hf, q⟩, h2⟩
end
def pApp (f : Fn) (n : Nat) (p : PAF) : PEF := fun e m => bnd (p e m) fun ds m1 => if ds.length = n then f ds m1 else none
/-- what a callee lets out is taken -/
abbrev Tk (X : Cx) (W : WX) : Prop := ∀ σ, PassesAt (CX X.prog X.w) X σ (WE W σ)
theorem tkB {X : Cx} : Tk X W0 := fun σ pins H s e s' I h => by
  obtain ⟨_, _, _, _, _, _, _, _, _, _, _, _, z⟩ := h
  exact z.elim
theorem tkD {P : Program} {w : World} {K : PySem.W.Frag} {mg : Str → Option Value} {base : Heap} {N : List Str} {x : Str} {st : Stmt} {f : Addr} {cdv : Value} {A : Around} {outer : List Env} {s : Shared} {H : Hp} {E : XK} :
    Takes (bodyCx P w K mg base N x st f cdv A outer s H E) (WE0 E) := takes_of rfl rfl rfl rfl
section
variable {X : Cx} {W : WX} {k n : Nat} {x : Str} {f : Fn} {p pos : Pos} {e : Expr} {es : List Expr} {pa : PAF}
theorem me_call {j : Nat} (F : FnA X.prog X.w X.K X.mg X.base x k n f) (hr : Room j X.A) (hk : k ≤ j) (tk : Tk X W) (hg : Gl X x) (ha : MA X W (e :: es) pa) (hdb : (x == ("__debug__" : Str)) = false := by decide) (he : starEach (e :: es) X.env = (false, eval e X.env) :: starEach es X.env := by rfl)
    (hpl : (backTo pos (starEach es X.env)).any (·.1) = false := by rfl) : ME X W (.Call (.Name x p) (e :: es) [] pos) (pApp f n pa) := by
  obtain ⟨a, fd, ps, h1, h2, h3, h4⟩ := F.ex
  refine PE.imp (pe_callS h1 (hr.mono hk) hg h2 h3 h4 tk ha hdb he hpl) fun σ H Q ⟨w, m, ev', r, g, ev, h, q⟩ => ?_
  show tA X W pa σ H fun vs H1 => spF X.K X.mg n f vs H1 Q (WE W σ)
  refine tA_bnd g ev h q fun d1 m1 w1 v1 H1 h1 g1 x1 r1 ev1 q1 => ?_
  split at h1
  · rename_i hl
    refine ⟨w1, m1, d1, r, g1, r1, hl, h1, ?_⟩
    cases r with
    | ok d m2 => exact q1
    | exc c m2 => exact fun w2 H2 C g2 x2 hc => q1 w2 H2 C g2 x2 hc
  · cases h1
theorem me_call0 {j : Nat} (F : FnA X.prog X.w X.K X.mg X.base x k 0 f) (hr : Room j X.A) (hk : k ≤ j) (hg : Gl X x) (hdb : (x == ("__debug__" : Str)) = false := by decide) : ME X W (.Call (.Name x p) [] [] pos) (pApp (fun ds m => match f ds m with
    | some (.ok d m1) => some (.ok d m1)
    | _ => none) 0 pNil) := by
  obtain ⟨a, fd, ps, h1, h2, h3, h4⟩ := F.ex
  refine PE.imp (pe_call0 (E := E0) h1 (hr.mono hk) hg h2 h3 h4 (dvs := []) .nil passL hdb) fun σ H Q ⟨w, m, ev', r, g, ev, h, q⟩ => ?_
  show spF X.K X.mg 0 f ([] ++ []) H Q E0
  unfold pApp pNil at h
  have h : (match f [] m with
    | some (.ok d m1) => some (Out.ok d m1)
    | _ => none) = some r := h
  cases hf : f [] m with
  | none => rw [hf] at h; cases h
  | some o =>
    rw [hf] at h
    cases o with
    | exc _ _ => cases h
    | ok d m1 => cases h; exact ⟨w, m, [], _, g, RepL.nil, rfl, hf, q⟩
end
end Z
namespace Z
open PySem PySem.Spec PyProof.Rows L2
theorem hu65 {k : Nat} {A : Around} (r : Room k A) : A.units + 65 < cLine := by have := r.un; omega
def fuel0 : Ev → Mem → Nat := fun _ _ => 1000000
def evI (e : Ev) (i : Nat) : Int := match e[i]? with
  | some (some (.int j)) => j
  | _ => 0
def okOnly (f : Fn) : Fn := fun ds m => match f ds m with
  | some (.ok d m1) => some (.ok d m1)
  | _ => none
/-- a constant of the module -/
structure Con1 (K : PySem.W.Frag) (mg : Str → Option Value) (x : Str) (d : D) : Prop where
  ex : ∃ (u : Value) (v : V), mg x = some u ∧ RelV v u ∧ ∀ w H, Rep K w H d v
theorem me_con {X : Cx} {W : WX} {x : Str} {d : D} {pos : Pos} (c : Con1 X.K X.mg x d) (hg : Gl X x) (hd : (x == ("__debug__" : Str)) = false := by decide) : ME X W (.Name x pos) (pC d) := by
  obtain ⟨u, v, h1, h2, h3⟩ := c.ex
  exact me_glob hg h1 h2 h3 hd
theorem con_tup {K : PySem.W.Frag} {w : Wd} {H : Hp} {a : Addr} {xs : List V} {l : List D} (h : SqT K H a xs) (r : RepL K w H l xs) : Rep K w H (.tup l) (.ref a) := rep_tup h r
/-- the law's own promise, from its mirror -/
theorem law_sp {K : PySem.W.Frag} {mg : Str → Option Value} {f : Fn} {n : Nat} (hlaw : ∀ ns : List Int, ns.length ≤ n → (∀ z ∈ ns, Builtin.Int.intBits z ≤ 1048576) → ∃ m, f [.ro (ns.map D.int)] [] = some (.ok (.bl true) m)) (H : Hp) (a : Addr) (ns : List Int) (hl : ns.length ≤ n) (hb : ∀ z ∈ ns, Builtin.Int.intBits z ≤ 1048576) (hO : Only H) (hS : SqL K H a (ns.map V.int)) :
    spF K mg 1 f [.ref a] H (fun v _ => v = .bl true) fun _ _ _ => False := by
  obtain ⟨m, hm⟩ := hlaw ns hl hb
  have hR : SqR K H a (ns.map V.int) := by
    rcases hS with (h | h) | h
    · rcases hO a with z | ⟨o, xs, z⟩
      · rw [z] at h; cases h
      · rw [z] at h; cases h
    · exact .inl h
    · exact .inr h
  refine ⟨⟨[], fun _ => False, fun _ => False⟩, [], [.ro (ns.map D.int)], _, ⟨rfl, List.nodup_nil, fun i c b h => by simp at h, fun _ h => h.elim, fun _ h => h.elim⟩, ?_, rfl, hm, fun w' v H' _ _ r => rep_bl r⟩
  refine RepL.cons ?_ RepL.nil
  simp only [Rep]
  exact ⟨a, _, rfl, .inl hR, RepL.of_ints⟩
theorem cx_none (H : Hp) (s : Shared) {P : Program} {w : World} (e : Value) (s' : Shared) (h : CX P w [] H s (fun _ _ _ => False) e s') : False := by
  obtain ⟨_, _, _, _, _, _, _, _, _, _, _, _, z⟩ := h
  exact z
theorem walk_ofZ {l : PySem.W.OpenLaw} {n k : Nat} {q : Program} {loose : List Str} {XP : (Str → Option Value) → Heap → Prop} {YP : World → Heap → Prop} {d : DefRec} {CX : World → CXT} {x : Str}
    (hn : l.most = some n) (hn2 : n ≤ sizeLine) (hdf : d.params.defaults = []) (hr : Room k callerA)
    (F : ∀ (w : World) (mg : Str → Option Value) (fa : Addr) (h : Heap), YP w h → h.Ns mainGlobals mg → mg d.name = some (.ref fa) →
      ∃ (K : PySem.W.Frag) (fd : FuncData) (sp : Sp), K.In h ∧ (∀ (s : Shared) (u : Value), BindsTo s fd ⟨[u], []⟩ [(x, u)]) ∧
        (∀ (H : Hp) (a : Addr) (ns : List Int), ns.length ≤ n → (∀ z ∈ ns, Builtin.Int.intBits z ≤ 1048576) → Only H → SqL K H a (ns.map V.int) → sp [.ref a] H (fun v _ => v = .bl true) fun _ _ _ => False) ∧
        ∀ base : Heap, K.In base → base.Ns mainGlobals mg → FnOk l.prog w K mg base (CX w) k fa fd [x] sp)
    (hCX : ∀ (w : World) (H : Hp) (s : Shared) (e : Value) (s' : Shared), CX w [] H s (fun _ _ _ => False) e s' → False) :
    PySem.W.WalkO q loose XP YP l.row.toRowW d [] (fun f vs => PySem.call f vs) := by
  refine Att.attach_callB hn hdf fun w s₀ s₁ mg mb fa o pm cd doc a vs ns G Y ho hd hcd hmg hobj hints hlen hbits hg => ?_
  obtain ⟨K, fd, sp, KX, hb, hsp, hF⟩ := F w mg fa _ Y G.T.g hmg
  exact law_call KX G.T.g G.T.b G.T.builtins G.T.nolimit hg hobj hints (Nat.le_trans hlen hn2) hr hF hb (fun H hO hS => hsp H a ns hlen hbits hO hS) fun H e s' => hCX w H s₁ e s'
end Z

set_option maxRecDepth 100000
set_option maxHeartbeats 4000000
set_option autoImplicit false
namespace Z
open PySem PySem.Spec PyProof.Rows L2
/-! ### the mirrors' own arithmetic: rows for simp -/
section
variable {α β : Type} {a : α} {m : Mem} {c : Str} {e e1 : Ev} {d d1 d2 : D}
@[simp] theorem bnd_ok (k : α → Mem → Option (Out β)) : bnd (some (.ok a m)) k = k a m := id rfl
@[simp] theorem bnd_exc (k : α → Mem → Option (Out β)) : bnd (some (.exc c m)) k = some (.exc c m) := id rfl
@[simp] theorem bnd_none (k : α → Mem → Option (Out β)) : bnd none k = none := id rfl
@[simp] theorem bndS_ok (k : α → Mem → Option SOut) : bndS (some (.ok a m)) e k = k a m := id rfl
@[simp] theorem bndS_exc (k : α → Mem → Option SOut) : bndS (some (.exc c m)) e k = some (.exc c e m) := id rfl
@[simp] theorem bndS_none (k : α → Mem → Option SOut) : bndS none e k = none := id rfl
@[simp] theorem thenS_nx (k : Ev → Mem → Option SOut) : thenS (some (.nx e m)) k = k e m := id rfl
@[simp] theorem thenS_rt (k : Ev → Mem → Option SOut) : thenS (some (.rt d m)) k = some (.rt d m) := id rfl
@[simp] theorem thenS_bk (k : Ev → Mem → Option SOut) : thenS (some (.bk e m)) k = some (.bk e m) := id rfl
@[simp] theorem thenS_ct (k : Ev → Mem → Option SOut) : thenS (some (.ct e m)) k = some (.ct e m) := id rfl
@[simp] theorem thenS_exc (k : Ev → Mem → Option SOut) : thenS (some (.exc c e m)) k = some (.exc c e m) := id rfl
@[simp] theorem thenS_none (k : Ev → Mem → Option SOut) : thenS none k = none := id rfl
theorem thenS_ite {P : Prop} [Decidable P] (a b : Option SOut) (k : Ev → Mem → Option SOut) : thenS (if P then a else b) k = if P then thenS a k else thenS b k := by split <;> rfl
end
section
variable {e : Ev} {m : Mem} {p q r : PEF} {t u : PTF} {pa : PAF} {s s1 s2 : PSF}
def rdV (o : Option (Option D)) (m : Mem) : Option (Out D) := match o with
  | some (some d) => some (.ok d m)
  | _ => none
@[simp] theorem rdV_some (d : D) : rdV (some (some d)) m = some (.ok d m) := id rfl
@[simp] theorem pVar_app (i : Nat) : pVar i e m = rdV e[i]? m := id rfl
@[simp] theorem pC_app (d : D) : pC d e m = some (.ok d m) := id rfl
@[simp] theorem pBin_app (o : VK2) : pBin o p q e m = bnd (p e m) fun a m1 => bnd (q e m1) fun b m2 => lift1 (o a b m2) m2 := id rfl
@[simp] theorem pUn_app (o : D → Mem → Option D) : pUn o p e m = bnd (p e m) fun d m1 => lift1 (o d m1) m1 := id rfl
@[simp] theorem pCall_app (o : List D → Mem → Option D) : pCall o pa e m = bnd (pa e m) fun ds m1 => lift1 (o ds m1) m1 := id rfl
@[simp] theorem pCallM_app (o : List D → Mem → Option (List D)) : pCallM o pa e m = bnd (pa e m) fun ds m1 => liftM (o ds m1) m1 := id rfl
@[simp] theorem pBinM_app (o : D → D → Mem → Option (List D)) : pBinM o p q e m = bnd (p e m) fun a m1 => bnd (q e m1) fun b m2 => liftM (o a b m2) m2 := id rfl
@[simp] theorem pApp_app (f : Fn) (n : Nat) : pApp f n pa e m = bnd (pa e m) fun ds m1 => if ds.length = n then f ds m1 else none := id rfl
@[simp] theorem pTup_app : pTup pa e m = bnd (pa e m) fun ds m1 => if ds.length ≤ SL then some (.ok (.tup ds) m1) else none := id rfl
@[simp] theorem pLst_app : pLst pa e m = bnd (pa e m) fun ds m1 => if ds.length ≤ SL then some (.ok (.lst ds) m1) else none := id rfl
@[simp] theorem pLstM_app : pLstM pa e m = bnd (pa e m) fun ds m1 => if ds.length ≤ SL then some (.ok (.loc m1.length) (m1 ++ [.lst ds])) else none := id rfl
@[simp] theorem pNil_app : pNil e m = some (.ok [] m) := id rfl
@[simp] theorem pCons_app : pCons p pa e m = bnd (p e m) fun d m1 => bnd (pa e m1) fun ds m2 => some (.ok (d :: ds) m2) := id rfl
@[simp] theorem pTru_app : pTru p e m = bnd (p e m) fun d m1 => toOk (oTru d m1) m1 := id rfl
@[simp] theorem pTst_app : pTst p e m = bnd (p e m) fun d m1 => toOk (asB d) m1 := id rfl
@[simp] theorem pAndT_app : pAndT t u e m = bnd (t e m) fun b m1 => if b = true then u e m1 else some (.ok false m1) := id rfl
@[simp] theorem pOrT_app : pOrT t u e m = bnd (t e m) fun b m1 => if b = true then some (.ok true m1) else u e m1 := id rfl
@[simp] theorem pNotT_app : pNotT t e m = bnd (t e m) fun b m1 => some (.ok (!b) m1) := id rfl
@[simp] theorem pIf_app : pIf t p q e m = bnd (t e m) fun b m1 => if b = true then p e m1 else q e m1 := id rfl
def andV (o : Option Bool) (d : D) (m : Mem) (k : Mem → Option (Out D)) : Option (Out D) := match o with
  | some true => k m
  | some false => some (.ok d m)
  | none => none
def orV (o : Option Bool) (d : D) (m : Mem) (k : Mem → Option (Out D)) : Option (Out D) := match o with
  | some true => some (.ok d m)
  | some false => k m
  | none => none
@[simp] theorem andV_t (d : D) (k : Mem → Option (Out D)) : andV (some true) d m k = k m := id rfl
@[simp] theorem andV_f (d : D) (k : Mem → Option (Out D)) : andV (some false) d m k = some (.ok d m) := id rfl
theorem andV_ite (b : Bool) (d : D) (k : Mem → Option (Out D)) : andV (some b) d m k = if b = true then k m else some (.ok d m) := by cases b <;> rfl
@[simp] theorem orV_t (d : D) (k : Mem → Option (Out D)) : orV (some true) d m k = some (.ok d m) := id rfl
@[simp] theorem orV_f (d : D) (k : Mem → Option (Out D)) : orV (some false) d m k = k m := id rfl
theorem orV_ite (b : Bool) (d : D) (k : Mem → Option (Out D)) : orV (some b) d m k = if b = true then some (.ok d m) else k m := by cases b <;> rfl
@[simp] theorem pAndV_app : pAndV p q e m = bnd (p e m) fun d m1 => andV (oTru d m1) d m1 fun m2 => q e m2 := id rfl
@[simp] theorem pOrV_app : pOrV p q e m = bnd (p e m) fun d m1 => orV (oTru d m1) d m1 fun m2 => q e m2 := id rfl
@[simp] theorem pNotV_app : pNotV p e m = bnd (p e m) fun d m1 => lift1 (toNbl (oTru d m1)) m1 := id rfl
@[simp] theorem pFrz_app : pFrz p e m = bnd (p e m) fun d m1 => some (frzD d m1) := id rfl
def chV (o : Option D) (m : Mem) (k : Mem → Option (Out D)) : Option (Out D) := match o with
  | some (.bl true) => k m
  | some (.bl false) => some (.ok (.bl false) m)
  | _ => none
@[simp] theorem chV_bl (b : Bool) (k : Mem → Option (Out D)) : chV (some (.bl b)) m k = if b = true then k m else some (.ok (.bl false) m) := by cases b <;> rfl
@[simp] theorem pChain_app (o o' : VK2) : pChain o o' p q r e m = bnd (p e m) fun a m1 => bnd (q e m1) fun b m2 => chV (o a b m2) m2 fun m3 => bnd (r e m3) fun c m4 => lift1 (o' b c m4) m4 := id rfl
def locD (d : D) (k : Nat → Option (Out D)) : Option (Out D) := match d with
  | .loc i => k i
  | _ => none
@[simp] theorem locD_loc (i : Nat) (k : Nat → Option (Out D)) : locD (.loc i) k = k i := id rfl
@[simp] theorem pMth_app (o : Nat → D → Mem → Option (Out D)) : pMth o p q e m = bnd (p e m) fun a m1 => locD a fun i => bnd (q e m1) fun b m2 => o i b m2 := id rfl
@[simp] theorem pMth0_app (o : Nat → Mem → Option (Out D)) : pMth0 o p e m = bnd (p e m) fun a m1 => locD a fun i => o i m1 := id rfl
@[simp] theorem lift1_s (d : D) : lift1 (some d) m = some (.ok d m) := id rfl
@[simp] theorem liftM_s (l : List D) : liftM (some l) m = some (.ok (.loc m.length) (m ++ [.lst l])) := id rfl
@[simp] theorem toOk_s (b : Bool) : toOk (some b) m = some (.ok b m) := id rfl
@[simp] theorem asB_bl (b : Bool) : asB (.bl b) = some b := id rfl
@[simp] theorem toBl_s (b : Bool) : toBl (some b) = some (.bl b) := id rfl
@[simp] theorem toNbl_s (b : Bool) : toNbl (some b) = some (.bl (!b)) := id rfl
@[simp] theorem oTru_non : oTru .non m = some false := id rfl
@[simp] theorem oTru_bl (b : Bool) : oTru (.bl b) m = some b := id rfl
@[simp] theorem oTru_int (i : Int) : oTru (.int i) m = some (i != 0) := id rfl
@[simp] theorem oTru_tup (l : List D) : oTru (.tup l) m = some (!l.isEmpty) := id rfl
@[simp] theorem oTru_lst (l : List D) : oTru (.lst l) m = some (!l.isEmpty) := id rfl
/-! statements -/
@[simp] theorem sSeq_app : sSeq s1 s2 e m = thenS (s1 e m) s2 := id rfl
@[simp] theorem sRet_app : sRet p e m = bndS (p e m) e fun d m1 => some (.rt d m1) := id rfl
@[simp] theorem sExpr_app : sExpr p e m = bndS (p e m) e fun _ m1 => some (.nx e m1) := id rfl
@[simp] theorem sNop_app : sNop e m = some (.nx e m) := id rfl
@[simp] theorem sBrk_app : sBrk e m = some (.bk e m) := id rfl
@[simp] theorem sCnt_app : sCnt e m = some (.ct e m) := id rfl
@[simp] theorem sIf_app : sIf t s1 s2 e m = bndS (t e m) e fun b m1 => if b = true then s1 e m1 else s2 e m1 := id rfl
@[simp] theorem sSet_app (i : Nat) : sSet i p e m = bndS (p e m) e fun d m1 => some (.nx (e.set i (some d)) m1) := id rfl
def augS (o : VK2) (i : Nat) (x : Option (Option D)) (p : PEF) (e : Ev) (m : Mem) : Option SOut := match x with
  | some (some d) => bndS (p e m) e fun c m1 => match o d c m1 with
    | some r => some (.nx (e.set i (some r)) m1)
    | none => none
  | _ => none
def nxO (o : Option D) (k : D → Option SOut) : Option SOut := match o with
  | some d => k d
  | none => none
@[simp] theorem nxO_s (d : D) (k : D → Option SOut) : nxO (some d) k = k d := id rfl
@[simp] theorem augS_some (o : VK2) (i : Nat) (d : D) : augS o i (some (some d)) p e m = bndS (p e m) e fun c m1 => nxO (o d c m1) fun r => some (.nx (e.set i (some r)) m1) := id rfl
@[simp] theorem sAug_app (i : Nat) (o : VK2) : sAug i o p e m = augS o i e[i]? p e m := id rfl
@[simp] theorem sPar_app (is : List Nat) : sPar is pa e m = bndS (pa e m) e fun ds m1 => if ds.length = is.length then some (.nx (setAll is ds e) m1) else none := id rfl
@[simp] theorem setAll_nil (ds : List D) : setAll [] ds e = e := id rfl
@[simp] theorem setAll_cons (i : Nat) (is : List Nat) (d : D) (ds : List D) : setAll (i :: is) (d :: ds) e = setAll is ds (e.set i (some d)) := id rfl
def nxG (o : Option (Out Ev)) : Option SOut := match o with
  | some (.ok e1 m2) => some (.nx e1 m2)
  | _ => none
@[simp] theorem nxG_ok : nxG (some (.ok e m)) = some (.nx e m) := id rfl
@[simp] theorem sAsg_app (g : PGF) : sAsg g p e m = bndS (p e m) e fun d m1 => nxG (g d e m1) := id rfl
@[simp] theorem gN_app (i : Nat) (d : D) : gN i d e m = some (.ok (e.set i (some d)) m) := id rfl
@[simp] theorem gTp_app (n : Nat) (g : PGsF) (ds : List D) : gTp n g (.tup ds) e m = if ds.length = n then g ds e m else none := id rfl
@[simp] theorem gsNil_app : gsNil [] e m = some (.ok e m) := id rfl
def okG (o : Option (Out Ev)) (k : Ev → Mem → Option (Out Ev)) : Option (Out Ev) := match o with
  | some (.ok e1 m1) => k e1 m1
  | _ => none
@[simp] theorem okG_ok (k : Ev → Mem → Option (Out Ev)) : okG (some (.ok e m)) k = k e m := id rfl
@[simp] theorem gsCons_app (g : PGF) (r : PGsF) (d : D) (ds : List D) : gsCons g r (d :: ds) e m = okG (g d e m) fun e1 m1 => r ds e1 m1 := by
  show (match g d e m with
    | some (.ok e1 m1) => r ds e1 m1
    | _ => none) = _
  cases g d e m with
  | none => rfl
  | some o => cases o <;> rfl
def nxM (o : Option Mem) (k : Mem → Option SOut) : Option SOut := match o with
  | some d => k d
  | none => none
@[simp] theorem nxM_s (k : Mem → Option SOut) : nxM (some m) k = k m := id rfl
@[simp] theorem sPut_app (po pi : PEF) : sPut po pi p e m = bndS (p e m) e fun d m1 => bndS (po e m1) e fun a m2 => bndS (pi e m2) e fun b m3 => nxM (putAt a b d m3) fun m4 => some (.nx e m4) := id rfl
@[simp] theorem sPutAug_app (o : VK2) (po pi : PEF) : sPutAug o po pi p e m = bndS (po e m) e fun a m1 => bndS (pi e m1) e fun b m2 => nxO (getAt a b m2) fun c => bndS (p e m2) e fun d m3 => nxO (o c d m3) fun r => nxM (putAt a b r m3) fun m4 => some (.nx e m4) := id rfl
@[simp] theorem sFor_app (pi : PIF) (g : PGF) : sFor pi g s e m = bndS (pi e m) e fun ds m1 => loopF g s ds e m1 := id rfl
@[simp] theorem sWhile_app (fuel : Ev → Mem → Nat) : sWhile fuel t s e m = whileF t s (fuel e m) e m := id rfl
def ctn (r : Option SOut) (k : Ev → Mem → Option SOut) : Option SOut := match r with
  | some (.nx e2 m2) => k e2 m2
  | some (.ct e2 m2) => k e2 m2
  | some (.bk e2 m2) => some (.nx e2 m2)
  | r => r
@[simp] theorem ctn_nx (k : Ev → Mem → Option SOut) : ctn (some (.nx e m)) k = k e m := id rfl
@[simp] theorem ctn_ct (k : Ev → Mem → Option SOut) : ctn (some (.ct e m)) k = k e m := id rfl
@[simp] theorem ctn_bk (k : Ev → Mem → Option SOut) : ctn (some (.bk e m)) k = some (.nx e m) := id rfl
@[simp] theorem ctn_rt (d : D) (k : Ev → Mem → Option SOut) : ctn (some (.rt d m)) k = some (.rt d m) := id rfl
@[simp] theorem ctn_exc (c : Str) (k : Ev → Mem → Option SOut) : ctn (some (.exc c e m)) k = some (.exc c e m) := id rfl
theorem ctn_ite {P : Prop} [Decidable P] (a b : Option SOut) (k : Ev → Mem → Option SOut) : ctn (if P then a else b) k = if P then ctn a k else ctn b k := by split <;> rfl
theorem whileF_succ (n : Nat) : whileF t s (n + 1) e m = bndS (t e m) e fun k m1 => if k = true then ctn (s e m1) (whileF t s n) else some (.nx e m1) := rfl
@[simp] theorem loopF_nil (g : PGF) : loopF g s [] e m = some (.nx e m) := id rfl
def inG (o : Option (Out Ev)) (k : Ev → Mem → Option SOut) : Option SOut := match o with
  | some (.ok e1 m1) => k e1 m1
  | _ => none
@[simp] theorem inG_ok (k : Ev → Mem → Option SOut) : inG (some (.ok e m)) k = k e m := id rfl
theorem loopF_cons (g : PGF) (d : D) (ds : List D) : loopF g s (d :: ds) e m = inG (g d e m) fun e1 m1 => ctn (s e1 m1) (loopF g s ds) := by
  simp only [loopF]
  cases g d e m with
  | none => rfl
  | some o =>
    cases o with
    | exc _ _ => rfl
    | ok e1 m1 =>
      simp only [inG]
      cases s e1 m1 with
      | none => rfl
      | some o => cases o <;> rfl
/-! comprehensions -/
@[simp] theorem tYesF_app : tYesF e m = some (.ok true m) := id rfl
def okL (o : Option (Out (List D))) (k : List D → Mem → Option (Out (List D))) : Option (Out (List D)) := match o with
  | some (.ok l m) => k l m
  | _ => none
@[simp] theorem okL_ok (l : List D) (k : List D → Mem → Option (Out (List D))) : okL (some (.ok l m)) k = k l m := id rfl
def okD (o : Option (Out D)) (k : D → Mem → Option (Out (List D))) : Option (Out (List D)) := match o with
  | some (.ok l m) => k l m
  | _ => none
@[simp] theorem okD_ok (l : D) (k : D → Mem → Option (Out (List D))) : okD (some (.ok l m)) k = k l m := id rfl
def okB (o : Option (Out Bool)) (k : Bool → Mem → Option (Out (List D))) : Option (Out (List D)) := match o with
  | some (.ok l m) => k l m
  | _ => none
@[simp] theorem okB_ok (l : Bool) (k : Bool → Mem → Option (Out (List D))) : okB (some (.ok l m)) k = k l m := id rfl
def okE (o : Option Ev) (k : Ev → Option (Out (List D))) : Option (Out (List D)) := match o with
  | some e => k e
  | none => none
@[simp] theorem okE_s (k : Ev → Option (Out (List D))) : okE (some e) k = k e := id rfl
@[simp] theorem lcF_nil (T : Tgt) : lcF T t p e [] m = some (.ok [] m) := id rfl
theorem lcF_cons (T : Tgt) (d : D) (ds : List D) : lcF T t p e (d :: ds) m = okE (tgtE T d e) fun e1 => okB (t e1 m) fun b m2 => if b = true then okD (p e1 m2) fun y m3 => okL (lcF T t p e ds m3) fun ys m4 => some (.ok (y :: ys) m4) else lcF T t p e ds m2 := by
  simp only [lcF]
  cases tgtE T d e with
  | none => rfl
  | some e1 =>
    simp only [okE]
    cases t e1 m with
    | none => rfl
    | some o =>
      cases o with
      | exc _ _ => rfl
      | ok b m2 =>
        cases b with
        | false => rfl
        | true =>
          simp only [okB, if_true]
          cases p e1 m2 with
          | none => rfl
          | some o =>
            cases o with
            | exc _ _ => rfl
            | ok y m3 =>
              simp only [okD]
              cases lcF T t p e ds m3 with
              | none => rfl
              | some o => cases o <;> rfl
@[simp] theorem tgtE_n (i : Nat) (d : D) : tgtE (.n i) d e = some (e.set i (some d)) := id rfl
@[simp] theorem tgtE_t (is : List Nat) (ds : List D) : tgtE (.t is) (.tup ds) e = if ds.length = is.length then some (setAll is ds e) else none := id rfl
@[simp] theorem wipeE_nil : wipeE e [] = e := id rfl
@[simp] theorem wipeE_cons (v : Nat) (vs : List Nat) : wipeE e (v :: vs) = (wipeE e vs).set v none := id rfl
def finL (fin : List D → Mem → D × Mem) (o : Option (Out (List D))) : Option (Out D) := match o with
  | some (.ok ys m2) => some (.ok (fin ys m2).1 (fin ys m2).2)
  | _ => none
@[simp] theorem finL_F (ys : List D) : finL finF (some (.ok ys m)) = some (.ok (.lst ys) m) := id rfl
@[simp] theorem finL_M (ys : List D) : finL finM (some (.ok ys m)) = some (.ok (.loc m.length) (m ++ [.lst ys])) := id rfl
theorem pLcG_app (fin : List D → Mem → D × Mem) (vs : List Nat) (pi : PIF) (T : Tgt) : pLcG fin vs pi T t p e m = bnd (pi e m) fun ds m1 => if ds.length ≤ SL then finL fin (lcF T t p (wipeE e vs) ds m1) else none := rfl
@[simp] theorem iSeq_app : iSeq p e m = bnd (p e m) itemsOf := id rfl
@[simp] theorem itemsOf_tup (l : List D) : itemsOf (.tup l) m = some (.ok l m) := id rfl
@[simp] theorem itemsOf_lst (l : List D) : itemsOf (.lst l) m = some (.ok l m) := id rfl
@[simp] theorem itemsOf_ro (l : List D) : itemsOf (.ro l) m = some (.ok l m) := id rfl
def r1L (ds : List D) (m1 : Mem) : Option (Out (List D)) := match ds with
  | [.int j] => if in62 j then some (.ok (intR 0 1 j.toNat) m1) else none
  | _ => none
def r2L (ds : List D) (m1 : Mem) : Option (Out (List D)) := match ds with
  | [.int i, .int j] => if in62 i && in62 j then some (.ok (intR i 1 (j - i).toNat) m1) else none
  | _ => none
@[simp] theorem iR1_app : iR1 pa e m = bnd (pa e m) fun ds m1 => r1L ds m1 := id rfl
@[simp] theorem iR2_app : iR2 pa e m = bnd (pa e m) fun ds m1 => r2L ds m1 := id rfl
def r3L (ds : List D) (m1 : Mem) : Option (Out (List D)) := match ds with
  | [.int i, .int j, .int c] => if c = -1 then (if in62 i && in62 j then some (.ok (intR i (-1) (i - j).toNat) m1) else none)
    else if decide (c ≠ 0) && decide (c.natAbs < 1073741824) && Builtin.Range.small i j c && decide (0 ≤ Builtin.Range.rangeSize i j c) then some (.ok (intR i c (Builtin.Range.rangeSize i j c).toNat) m1) else none
  | _ => none
@[simp] theorem iR3_app : iR3 pa e m = bnd (pa e m) fun ds m1 => r3L ds m1 := id rfl
theorem in62_le {j : Int} (h0 : -1000000000 ≤ j) (h1 : j ≤ 1000000000) : in62 j = true := by
  simp only [in62, Bool.and_eq_true, decide_eq_true_eq]
  constructor <;> omega
@[simp] theorem r1L_int {j : Int} (h0 : -1000000000 ≤ j) (h1 : j ≤ 1000000000) : r1L [.int j] m = some (.ok (intR 0 1 j.toNat) m) := by
  have h := in62_le h0 h1
  show (if in62 j = true then _ else _) = _
  rw [if_pos h]
@[simp] theorem r2L_int {i j : Int} (h0 : -1000000000 ≤ j) (h1 : j ≤ 1000000000) (g0 : -1000000000 ≤ i) (g1 : i ≤ 1000000000) : r2L [.int i, .int j] m = some (.ok (intR i 1 (j - i).toNat) m) := by
  have h := in62_le h0 h1
  have g := in62_le g0 g1
  show (if (in62 i && in62 j) = true then _ else _) = _
  rw [h, g]; rfl
theorem r3L_down {i j : Int} (h0 : -1000000000 ≤ j) (h1 : j ≤ 1000000000) (g0 : -1000000000 ≤ i) (g1 : i ≤ 1000000000) : r3L [.int i, .int j, .int (-1)] m = some (.ok (intR i (-1) (i - j).toNat) m) := by
  have h := in62_le h0 h1
  have g := in62_le g0 g1
  unfold r3L
  simp only [if_true]
  rw [h, g]; rfl
@[simp] theorem frzD_int (i : Int) : frzD (.int i) m = .ok (.int i) m := id rfl
@[simp] theorem frzD_bl (i : Bool) : frzD (.bl i) m = .ok (.bl i) m := id rfl
@[simp] theorem frzD_tup (l : List D) : frzD (.tup l) m = .ok (.tup l) m := id rfl
@[simp] theorem frzD_lst (l : List D) : frzD (.lst l) m = .ok (.lst l) m := id rfl
@[simp] theorem frzD_ro (l : List D) : frzD (.ro l) m = .ok (.ro l) m := id rfl
@[simp] theorem frzD_str (l : Str) : frzD (.str l) m = .ok (.str l) m := id rfl
@[simp] theorem frzD_non : frzD .non m = .ok .non m := id rfl
/-! operators on known kinds -/
@[simp] theorem oAdd_int (i j : Int) : oAdd (.int i) (.int j) m = some (.int (i + j)) := id rfl
@[simp] theorem oAdd_tup (l r : List D) : oAdd (.tup l) (.tup r) m = if l.length + r.length ≤ SL then some (.tup (l ++ r)) else none := id rfl
@[simp] theorem oAdd_lst (l r : List D) : oAdd (.lst l) (.lst r) m = if l.length + r.length ≤ SL then some (.lst (l ++ r)) else none := id rfl
@[simp] theorem oAdd_str (l r : Str) : oAdd (.str l) (.str r) m = if l.length + r.length ≤ SL then some (.str (l ++ r)) else none := id rfl
@[simp] theorem oSub2_int (i j : Int) : oSub2 (.int i) (.int j) m = some (.int (i - j)) := id rfl
@[simp] theorem oSub2_bl (i j : Bool) : oSub2 (.bl i) (.bl j) m = some (.int (b2i i - b2i j)) := id rfl
@[simp] theorem oSub_int (i j : Int) : oSub (.int i) (.int j) m = some (.int (i - j)) := id rfl
@[simp] theorem oMul_int (i j : Int) : oMul (.int i) (.int j) m = if mulFits i j = true then some (.int (i * j)) else none := id rfl
@[simp] theorem oMul_tup (l : List D) (k : Int) : oMul (.tup l) (.int k) m = if -(2 ^ 63) ≤ k ∧ k ≤ 1000 ∧ l.length ≤ 1000 then some (.tup (List.replicate k.toNat l).flatten) else none := id rfl
@[simp] theorem oDiv_int (i j : Int) : oDiv (.int i) (.int j) m = if divFits j = true then some (.int (i.fdiv j)) else none := id rfl
@[simp] theorem oMod_int (i j : Int) : oMod (.int i) (.int j) m = if j ≠ 0 then some (.int (i.fmod j)) else none := id rfl
@[simp] theorem oIAdd_int (i j : Int) : oIAdd (.int i) (.int j) m = some (.int (i + j)) := id rfl
@[simp] theorem oIMul_int (i j : Int) : oIMul (.int i) (.int j) m = if mulFits i j = true then some (.int (i * j)) else none := id rfl
@[simp] theorem oNeg_int (i : Int) : oNeg (.int i) m = some (.int (-i)) := id rfl
@[simp] theorem oEq_int (i j : Int) : oEq (.int i) (.int j) m = some (.bl (decide (i = j))) := id rfl
@[simp] theorem oNe_int (i j : Int) : oNe (.int i) (.int j) m = some (.bl (!decide (i = j))) := id rfl
@[simp] theorem oLt_int (i j : Int) : oLt (.int i) (.int j) m = some (.bl (decide (i < j))) := id rfl
@[simp] theorem oLe_int (i j : Int) : oLe (.int i) (.int j) m = some (.bl (decide (i ≤ j))) := id rfl
@[simp] theorem oGt_int (i j : Int) : oGt (.int i) (.int j) m = some (.bl (decide (j < i))) := id rfl
@[simp] theorem oGe_int (i j : Int) : oGe (.int i) (.int j) m = some (.bl (decide (j ≤ i))) := id rfl
@[simp] theorem oLen_tup (l : List D) : oLen [.tup l] m = some (.int l.length) := id rfl
@[simp] theorem oLen_lst (l : List D) : oLen [.lst l] m = some (.int l.length) := id rfl
@[simp] theorem oLen_ro (l : List D) : oLen [.ro l] m = some (.int l.length) := id rfl
@[simp] theorem oAbs_int (i : Int) : oAbs [.int i] m = some (.int (if i < 0 then -i else i)) := id rfl
@[simp] theorem oMax2_int (i j : Int) : oMax2 [.int i, .int j] m = some (.int (if j > i then j else i)) := id rfl
@[simp] theorem oMin2_int (i j : Int) : oMin2 [.int i, .int j] m = some (.int (if j < i then j else i)) := id rfl
@[simp] theorem oInt_int (i : Int) : oInt [.int i] m = some (.int i) := id rfl
@[simp] theorem oIx_tup (l : List D) (i : Int) : oIx (.tup l) (.int i) m = atI l i := id rfl
@[simp] theorem oIx_lst (l : List D) (i : Int) : oIx (.lst l) (.int i) m = atI l i := id rfl
@[simp] theorem oIx_ro (l : List D) (i : Int) : oIx (.ro l) (.int i) m = atI l i := id rfl
theorem atI_of_nat {α : Type} (l : List α) (j : Nat) : atI l (j : Int) = l[j]? := by
  unfold atI ixN
  rw [if_pos (Int.natCast_nonneg j)]
  by_cases h : (j : Int) < l.length
  · rw [if_pos h]; rfl
  · rw [if_neg h, List.getElem?_eq_none (by omega)]; rfl
end
end Z

set_option maxRecDepth 100000
set_option maxHeartbeats 4000000
set_option autoImplicit false
namespace Z
open PySem PySem.Spec PyProof.Rows L2
/-! ### what a mirror ends with: a small reckoning of claims behind it -/
section
variable {α β : Type}
@[irreducible] def wpE (o : Option (Out α)) (Q : α → Mem → Prop) : Prop := match o with
  | some (.ok a m) => Q a m
  | _ => False
@[irreducible] def wpS (o : Option SOut) (N : Ev → Mem → Prop) (R : D → Mem → Prop) : Prop := match o with
  | some (.nx e m) => N e m
  | some (.rt d m) => R d m
  | _ => False
/-- for a body of a loop: bk ends, ct goes on -/
@[irreducible] def wpL (o : Option SOut) (N : Ev → Mem → Prop) (B : Ev → Mem → Prop) (R : D → Mem → Prop) : Prop := match o with
  | some (.nx e m) => N e m
  | some (.ct e m) => N e m
  | some (.bk e m) => B e m
  | some (.rt d m) => R d m
  | _ => False
variable {Q Q' : α → Mem → Prop} {N N' B B' : Ev → Mem → Prop} {R R' : D → Mem → Prop} {m : Mem} {e : Ev}
theorem wpE.out {o : Option (Out α)} (h : wpE o Q) : ∃ a m, o = some (.ok a m) ∧ Q a m := by
  unfold wpE at h
  split at h
  · exact ⟨_, _, rfl, h⟩
  · exact h.elim
theorem wpE.of {o : Option (Out α)} {a : α} {m : Mem} (h : o = some (.ok a m)) (q : Q a m) : wpE o Q := by subst h; unfold wpE; exact q
theorem wpE.mono {o : Option (Out α)} (h : wpE o Q) (q : ∀ a m, Q a m → Q' a m) : wpE o Q' := by
  obtain ⟨a, m, e, k⟩ := h.out
  exact .of e (q a m k)
theorem wpS.mono {o : Option SOut} (h : wpS o N R) (q : ∀ e m, N e m → N' e m) (r : ∀ d m, R d m → R' d m) : wpS o N' R' := by
  unfold wpS at h ⊢
  split at h
  · exact q _ _ h
  · exact r _ _ h
  · exact h.elim
theorem wpL.mono {o : Option SOut} (h : wpL o N B R) (q : ∀ e m, N e m → N' e m) (b : ∀ e m, B e m → B' e m) (r : ∀ d m, R d m → R' d m) : wpL o N' B' R' := by
  unfold wpL at h ⊢
  split at h
  · exact q _ _ h
  · exact q _ _ h
  · exact b _ _ h
  · exact r _ _ h
  · exact h.elim
theorem wpS.toL {o : Option SOut} (h : wpS o N R) : wpL o N B R := by
  unfold wpS at h; unfold wpL
  split at h
  · exact h
  · exact h
  · exact h.elim
@[simp] theorem wpE_ok (a : α) : wpE (some (.ok a m)) Q = Q a m := by unfold wpE; rfl
@[simp] theorem wpE_bnd (o : Option (Out β)) (k : β → Mem → Option (Out α)) : wpE (bnd o k) Q = wpE o fun a m => wpE (k a m) Q := by
  unfold wpE
  cases o with
  | none => rfl
  | some o => cases o <;> rfl
@[simp] theorem wpE_ite {P : Prop} [Decidable P] (a b : Option (Out α)) : wpE (if P then a else b) Q = if P then wpE a Q else wpE b Q := by split <;> rfl
@[simp] theorem wpS_nx : wpS (some (.nx e m)) N R = N e m := by unfold wpS; rfl
@[simp] theorem wpS_rt (d : D) : wpS (some (.rt d m)) N R = R d m := by unfold wpS; rfl
@[simp] theorem wpS_thenS (o : Option SOut) (k : Ev → Mem → Option SOut) : wpS (thenS o k) N R = wpS o (fun e m => wpS (k e m) N R) R := by
  unfold wpS
  cases o with
  | none => rfl
  | some o => cases o <;> rfl
@[simp] theorem wpS_bndS (o : Option (Out β)) (k : β → Mem → Option SOut) : wpS (bndS o e k) N R = wpE o fun a m => wpS (k a m) N R := by
  unfold wpE wpS
  cases o with
  | none => rfl
  | some o => cases o <;> rfl
@[simp] theorem wpS_ite {P : Prop} [Decidable P] (a b : Option SOut) : wpS (if P then a else b) N R = if P then wpS a N R else wpS b N R := by split <;> rfl
@[simp] theorem wpL_nx : wpL (some (.nx e m)) N B R = N e m := by unfold wpL; rfl
@[simp] theorem wpL_ct : wpL (some (.ct e m)) N B R = N e m := by unfold wpL; rfl
@[simp] theorem wpL_bk : wpL (some (.bk e m)) N B R = B e m := by unfold wpL; rfl
@[simp] theorem wpL_rt (d : D) : wpL (some (.rt d m)) N B R = R d m := by unfold wpL; rfl
@[simp] theorem wpL_bndS (o : Option (Out β)) (k : β → Mem → Option SOut) : wpL (bndS o e k) N B R = wpE o fun a m => wpL (k a m) N B R := by
  unfold wpE wpL
  cases o with
  | none => rfl
  | some o => cases o <;> rfl
@[simp] theorem wpL_ite {P : Prop} [Decidable P] (a b : Option SOut) : wpL (if P then a else b) N B R = if P then wpL a N B R else wpL b N B R := by split <;> rfl
/-- the first statement of a row: it goes on, leaves the row or the loop -/
@[irreducible] def wpT (o : Option SOut) (N : Ev → Mem → Prop) (C B : Ev → Mem → Prop) (R : D → Mem → Prop) : Prop := match o with
  | some (.nx e m) => N e m
  | some (.ct e m) => C e m
  | some (.bk e m) => B e m
  | some (.rt d m) => R d m
  | _ => False
variable {C : Ev → Mem → Prop}
theorem wpL_T (o : Option SOut) : wpL o N B R = wpT o N N B R := by unfold wpL wpT; rfl
@[simp] theorem wpT_nx : wpT (some (.nx e m)) N C B R = N e m := by unfold wpT; rfl
@[simp] theorem wpT_ct : wpT (some (.ct e m)) N C B R = C e m := by unfold wpT; rfl
@[simp] theorem wpT_bk : wpT (some (.bk e m)) N C B R = B e m := by unfold wpT; rfl
@[simp] theorem wpT_rt (d : D) : wpT (some (.rt d m)) N C B R = R d m := by unfold wpT; rfl
@[simp] theorem wpL_thenS (o : Option SOut) (k : Ev → Mem → Option SOut) : wpL (thenS o k) N B R = wpT o (fun e m => wpL (k e m) N B R) N B R := by
  unfold wpL wpT
  cases o with
  | none => rfl
  | some o => cases o <;> rfl
@[simp] theorem wpT_thenS (o : Option SOut) (k : Ev → Mem → Option SOut) : wpT (thenS o k) N C B R = wpT o (fun e m => wpT (k e m) N C B R) C B R := by
  unfold wpT
  cases o with
  | none => rfl
  | some o => cases o <;> rfl
@[simp] theorem wpT_bndS (o : Option (Out β)) (k : β → Mem → Option SOut) : wpT (bndS o e k) N C B R = wpE o fun a m => wpT (k a m) N C B R := by
  unfold wpE wpT
  cases o with
  | none => rfl
  | some o => cases o <;> rfl
@[simp] theorem wpT_ite {P : Prop} [Decidable P] (a b : Option SOut) : wpT (if P then a else b) N C B R = if P then wpT a N C B R else wpT b N C B R := by split <;> rfl
theorem wpS.toT {o : Option SOut} (h : wpS o N R) : wpT o N C B R := by
  unfold wpS at h; unfold wpT
  split at h
  · exact h
  · exact h
  · exact h.elim
/-- a def: its body's end -/
theorem wp_fn {n : Nat} {b : PSF} {ds : List D} {Q : D → Mem → Prop} (h : wpS (b (startE n ds) m) (fun _ m1 => Q .non m1) Q) : wpE (pFn n b ds m) Q := by
  unfold wpS at h
  unfold pFn wpE
  cases h1 : b (startE n ds) m with
  | none => rw [h1] at h; exact h.elim
  | some o =>
    rw [h1] at h
    cases o with
    | nx e m1 => exact h
    | rt d m1 => exact h
    | _ => exact h.elim
theorem wp_app {f : Fn} {ds : List D} {n : Nat} {Q : D → Mem → Prop} (h : ds.length = n) (q : wpE (f ds m) Q) : wpE (if ds.length = n then f ds m else none) Q := by
  rw [if_pos h]; exact q
/-- while -/
theorem wp_while {t : PTF} {s : PSF} {N : Ev → Mem → Prop} {R : D → Mem → Prop} (I : Nat → Ev → Mem → Prop)
    (st : ∀ k e m, I k e m → wpE (t e m) fun b m1 => if b = true then wpL (s e m1) (fun e2 m2 => ∃ k', k' < k ∧ I k' e2 m2) N R else N e m1) :
    ∀ (n k : Nat) (e : Ev) (m : Mem), I k e m → k < n → wpS (whileF t s n e m) N R
  | 0, _, _, _, _, hk => absurd hk (Nat.not_lt_zero _)
  | n + 1, k, e, m, i, hk => by
    rw [whileF_succ, wpS_bndS]
    refine (st k e m i).mono fun b m1 h => ?_
    by_cases hb : b = true
    · rw [if_pos hb] at h ⊢
      unfold wpL at h
      split at h
      · rename_i e2 m2 h1
        obtain ⟨k', h2, h3⟩ := h
        rw [h1, ctn_nx]
        exact wp_while I st n k' e2 m2 h3 (by omega)
      · rename_i e2 m2 h1
        obtain ⟨k', h2, h3⟩ := h
        rw [h1, ctn_ct]
        exact wp_while I st n k' e2 m2 h3 (by omega)
      · rename_i e2 m2 h1
        rw [h1, ctn_bk, wpS_nx]
        exact h
      · rename_i d m2 h1
        rw [h1, ctn_rt, wpS_rt]
        exact h
      · exact h.elim
    · rw [if_neg hb] at h ⊢
      rw [wpS_nx]
      exact h
/-- for -/
theorem wp_loop {g : PGF} {s : PSF} {N : Ev → Mem → Prop} {R : D → Mem → Prop} (I : List D → Ev → Mem → Prop)
    (st : ∀ d ds e m, I (d :: ds) e m → ∃ e1 m1, g d e m = some (.ok e1 m1) ∧ wpL (s e1 m1) (I ds) N R) (en : ∀ e m, I [] e m → N e m) :
    ∀ (ds : List D) (e : Ev) (m : Mem), I ds e m → wpS (loopF g s ds e m) N R
  | [], e, m, i => by rw [loopF_nil, wpS_nx]; exact en e m i
  | d :: ds, e, m, i => by
    obtain ⟨e1, m1, h1, h⟩ := st d ds e m i
    rw [loopF_cons, h1, inG_ok]
    unfold wpL at h
    split at h
    · rename_i e2 m2 h2
      rw [h2, ctn_nx]
      exact wp_loop I st en ds e2 m2 h
    · rename_i e2 m2 h2
      rw [h2, ctn_ct]
      exact wp_loop I st en ds e2 m2 h
    · rename_i e2 m2 h2
      rw [h2, ctn_bk, wpS_nx]
      exact h
    · rename_i d m2 h2
      rw [h2, ctn_rt, wpS_rt]
      exact h
    · exact h.elim
/-- a comprehension: what stays and what is made of it -/
theorem wp_lc {T : Tgt} {t : PTF} {p : PEF} {e : Ev} (J : Mem → Prop) (b : D → Bool) (f : D → D) :
    ∀ (ds : List D) (m : Mem), (∀ d ∈ ds, ∀ m, J m → ∃ e1, tgtE T d e = some e1 ∧ wpE (t e1 m) fun c m1 => c = b d ∧ J m1 ∧ (b d = true → wpE (p e1 m1) fun y m2 => y = f d ∧ J m2)) → J m → wpE (lcF T t p e ds m) fun ys m1 => ys = (ds.filter b).map f ∧ J m1
  | [], m, st, j => by rw [lcF_nil, wpE_ok]; exact ⟨rfl, j⟩
  | d :: ds, m, st, j => by
    obtain ⟨e1, h1, h2⟩ := st d (List.mem_cons_self ..) m j
    rw [lcF_cons, h1, okE_s]
    obtain ⟨c, m1, h3, rfl, j1, h4⟩ := h2.out
    rw [h3, okB_ok]
    by_cases hb : b d = true
    · rw [if_pos hb]
      obtain ⟨y, m2, h5, rfl, j2⟩ := (h4 hb).out
      rw [h5, okD_ok]
      obtain ⟨ys, m3, h6, rfl, j3⟩ := (wp_lc J b f ds m2 (fun d hd => st d (List.mem_cons_of_mem _ hd)) j2).out
      rw [h6, okL_ok, wpE_ok, List.filter_cons_of_pos hb]
      exact ⟨rfl, j3⟩
    · rw [if_neg hb]
      refine (wp_lc J b f ds m1 (fun d hd => st d (List.mem_cons_of_mem _ hd)) j1).mono fun ys m2 h => ?_
      rw [List.filter_cons_of_neg hb]
      exact h
@[simp] theorem wpE_finF {o : Option (Out (List D))} {Q : D → Mem → Prop} : wpE (finL finF o) Q = wpE o fun ys m => Q (.lst ys) m := by
  unfold wpE
  cases o with
  | none => rfl
  | some o => cases o <;> rfl
@[simp] theorem wpE_finM {o : Option (Out (List D))} {Q : D → Mem → Prop} : wpE (finL finM o) Q = wpE o fun ys m => Q (.loc m.length) (m ++ [.lst ys]) := by
  unfold wpE
  cases o with
  | none => rfl
  | some o => cases o <;> rfl
end
section
variable {α : Type} {Q : D → Mem → Prop} {m : Mem} {d : D} {P : Prop} [Decidable P]
@[simp] theorem wp_l1_if : wpE (lift1 (if P then some d else none) m) Q = (P ∧ Q d m) := by
  unfold wpE
  by_cases h : P <;> simp [h, lift1, wpE]
@[simp] theorem wp_l1_fi : wpE (lift1 (if P then none else some d) m) Q = (¬P ∧ Q d m) := by
  unfold wpE
  by_cases h : P <;> simp [h, lift1, wpE]
@[simp] theorem wp_if_no {Q : α → Mem → Prop} (o : Option (Out α)) : wpE (if P then o else none) Q = (P ∧ wpE o Q) := by
  unfold wpE
  by_cases h : P <;> simp [h, wpE]
@[simp] theorem wpS_if_no {N : Ev → Mem → Prop} {R : D → Mem → Prop} (o : Option SOut) : wpS (if P then o else none) N R = (P ∧ wpS o N R) := by
  unfold wpS
  by_cases h : P <;> simp [h, wpS]
@[simp] theorem wpL_if_no {N B : Ev → Mem → Prop} {R : D → Mem → Prop} (o : Option SOut) : wpL (if P then o else none) N B R = (P ∧ wpL o N B R) := by
  unfold wpL
  by_cases h : P <;> simp [h, wpL]
@[simp] theorem wpT_if_no {N C B : Ev → Mem → Prop} {R : D → Mem → Prop} (o : Option SOut) : wpT (if P then o else none) N C B R = (P ∧ wpT o N C B R) := by
  unfold wpT
  by_cases h : P <;> simp [h, wpT]
end
/-! numbers -/
theorem slLe {n : Nat} (h : n ≤ 10000000) : n ≤ SL := Nat.le_trans h (by decide)
theorem slLt {n : Nat} (h : n ≤ 10000000) : n < SL := Nat.lt_of_le_of_lt h (by decide)
@[simp] theorem sl1 : (1 : Nat) ≤ SL := slLe (by decide)
@[simp] theorem sl2 : (2 : Nat) ≤ SL := slLe (by decide)
@[simp] theorem sl3 : (3 : Nat) ≤ SL := slLe (by decide)
@[simp] theorem sl4 : (4 : Nat) ≤ SL := slLe (by decide)
@[simp] theorem sl5 : (5 : Nat) ≤ SL := slLe (by decide)
@[simp] theorem sl6 : (6 : Nat) ≤ SL := slLe (by decide)
@[simp] theorem sl7 : (7 : Nat) ≤ SL := slLe (by decide)
@[simp] theorem sl8 : (8 : Nat) ≤ SL := slLe (by decide)
@[simp] theorem sl9 : (9 : Nat) ≤ SL := slLe (by decide)
@[simp] theorem sl10 : (10 : Nat) ≤ SL := slLe (by decide)
@[simp] theorem sl11 : (11 : Nat) ≤ SL := slLe (by decide)
@[simp] theorem sl12 : (12 : Nat) ≤ SL := slLe (by decide)
theorem mulF_l {i j : Int} (h : i.natAbs < 18446744073709551616) : mulFits i j = true := by unfold mulFits; rw [decide_eq_true h]; rfl
theorem mulF_r {i j : Int} (h : j.natAbs < 18446744073709551616) : mulFits i j = true := by unfold mulFits; rw [decide_eq_true h, Bool.or_true]; rfl
theorem mulF_b {i j : Int} {n : Nat} (hn : n ≤ 400000) (h1 : i.natAbs < 2 ^ n) (h2 : j.natAbs < 2 ^ n) : mulFits i j = true := by
  unfold mulFits
  have f : ∀ x : Nat, x < 2 ^ n → x.log2 ≤ n := fun x hx => by
    by_cases h0 : x = 0
    · subst h0; exact Nat.zero_le _
    · exact Nat.le_of_lt ((Nat.log2_lt h0).2 hx)
  have a := f _ h1
  have b := f _ h2
  rw [decide_eq_true (p := i.natAbs.log2 + j.natAbs.log2 < 1000000) (by omega), Bool.or_true]
theorem divF {j : Int} {n : Nat} (hn : n ≤ 8000) (h0 : j ≠ 0) (h : j.natAbs < 2 ^ n) : divFits j = true := by
  unfold divFits
  have : j.natAbs.log2 < 9000 := by
    have := (Nat.log2_lt (n := j.natAbs) (k := n) (by omega)).2 h
    omega
  rw [decide_eq_true h0, decide_eq_true this]; rfl
/-- the numbers from lo on, so many -/
def rng (lo : Int) (n : Nat) : List Int := (List.range n).map fun (k : Nat) => lo + k
theorem intR_rng (lo : Int) (n : Nat) : intR lo 1 n = (rng lo n).map D.int := by
  unfold intR rng
  rw [List.map_map]
  refine List.map_congr_left fun k _ => ?_
  show D.int (lo + k * 1) = D.int (lo + k)
  rw [Int.mul_one]
theorem rng_len (lo : Int) (n : Nat) : (rng lo n).length = n := by simp [rng]
theorem mem_rng {lo x : Int} {n : Nat} : x ∈ rng lo n ↔ lo ≤ x ∧ x < lo + n := by
  unfold rng
  rw [List.mem_map]
  constructor
  · rintro ⟨k, hk, rfl⟩
    have := List.mem_range.1 hk
    omega
  · rintro ⟨h1, h2⟩
    exact ⟨(x - lo).toNat, List.mem_range.2 (by omega), by omega⟩
theorem rng_succ (lo : Int) (n : Nat) : rng lo (n + 1) = rng lo n ++ [lo + n] := by
  unfold rng
  rw [List.range_succ, List.map_append]; rfl
theorem rng_cons (lo : Int) (n : Nat) : rng lo (n + 1) = lo :: rng (lo + 1) n := by
  unfold rng
  rw [List.range_succ_eq_map, List.map_cons, List.map_map]
  refine congr (congrArg List.cons (by simp)) (List.map_congr_left fun k _ => ?_)
  show lo + ((k + 1 : Nat) : Int) = lo + 1 + k
  omega
theorem rng_app (lo : Int) (a b : Nat) : rng lo (a + b) = rng lo a ++ rng (lo + a) b := by
  induction b with
  | zero => simp [rng]
  | succ b ih => rw [← Nat.add_assoc, rng_succ, ih, rng_succ, List.append_assoc]; congr 3; omega
/-- a comprehension over numbers that leaves the memory -/
theorem wp_lcI {i : Nat} {t : PTF} {p : PEF} {e : Ev} {m : Mem} (b : Int → Bool) (f : Int → Int) (xs : List Int)
    (st : ∀ x ∈ xs, wpE (t (e.set i (some (.int x))) m) fun c m1 => c = b x ∧ m1 = m ∧ (b x = true → wpE (p (e.set i (some (.int x))) m) fun y m2 => y = .int (f x) ∧ m2 = m)) :
    wpE (lcF (.n i) t p e (xs.map D.int) m) fun ys m1 => ys = ((xs.filter b).map f).map D.int ∧ m1 = m := by
  have gi : ∀ d : D, D := fun d => d
  refine (wp_lc (T := .n i) (t := t) (p := p) (e := e) (fun m1 => m1 = m) (fun d => match d with | .int x => b x | _ => false) (fun d => match d with | .int x => .int (f x) | d => d) (xs.map D.int) m ?_ rfl).mono fun ys m1 h => ?_
  · intro d hd m1 hm
    subst hm
    obtain ⟨x, hx, rfl⟩ := List.mem_map.1 hd
    refine ⟨_, rfl, (st x hx).mono fun c m2 h => ?_⟩
    obtain ⟨h1, rfl, h2⟩ := h
    exact ⟨h1, rfl, fun hb => h2 hb⟩
  · obtain ⟨h1, h2⟩ := h
    refine ⟨h1.trans ?_, h2⟩
    clear h1 st
    induction xs with
    | nil => rfl
    | cons x xs ih =>
      rw [List.map_cons]
      by_cases hb : b x = true
      · rw [List.filter_cons_of_pos (a := D.int x) hb, List.filter_cons_of_pos hb, List.map_cons, List.map_cons, List.map_cons, ih]
      · rw [List.filter_cons_of_neg (a := D.int x) hb, List.filter_cons_of_neg hb, ih]
end Z

set_option maxRecDepth 100000
set_option maxHeartbeats 4000000
set_option autoImplicit false
namespace Z
open PySem PySem.Spec PyProof.Rows L2
theorem fmodLt {a b : Int} (hb : b ≠ 0) : (a.fmod b).natAbs < b.natAbs := by
  rcases Int.lt_or_lt_of_ne hb with h | h
  · have h1 : (-(-a)).fmod (-(-b)) = -((-a).fmod (-b)) := Int.neg_fmod_neg ..
    rw [Int.neg_neg, Int.neg_neg] at h1
    have := Int.fmod_nonneg_of_pos (-a) (b := -b) (by omega)
    have := Int.fmod_lt_of_pos (-a) (b := -b) (by omega)
    omega
  · have := Int.fmod_nonneg_of_pos a h
    have := Int.fmod_lt_of_pos a h
    omega
theorem fmodE (a b : Int) : a.fmod b = a - b * a.fdiv b := by
  have := Int.fmod_add_mul_fdiv a b
  omega
theorem gcd_sub_mul (a b q : Int) : Int.gcd b (a - b * q) = Int.gcd a b := by
  rw [Int.gcd_comm, Int.sub_eq_add_neg, ← Int.mul_neg, Int.gcd_add_mul_left_left]
theorem gcd_fmod (a b : Int) : Int.gcd b (a.fmod b) = Int.gcd a b := by rw [fmodE, gcd_sub_mul]
theorem absI (a : Int) : (if a < 0 then -a else a) = (a.natAbs : Int) := by split <;> omega
theorem oApp_at {m : Mem} {i : Nat} {l : List D} {b : D} (h : m[i]? = some (.lst l)) (hl : l.length < SL) : oApp i b m = some (.ok .non (m.set i (.lst (l ++ [b])))) := by
  unfold oApp; rw [h]; simp [hl]
theorem set_at {m : Mem} {i : Nat} {c c' : Cell} (h : m[i]? = some c) : (m.set i c')[i]? = some c' := by
  rw [List.getElem?_set_self (List.getElem?_eq_some_iff.1 h).1]
theorem oPow_int (i j : Int) (m : Mem) : oPow (.int i) (.int j) m = if 0 ≤ j ∧ j ≤ 1000000 ∧ i.natAbs < 2 ^ 64 then some (.int (i ^ j.toNat)) else none := rfl
theorem fmodN (a : Int) {b : Int} (h : 0 < b) : 0 ≤ a.fmod b ∧ a.fmod b < b := ⟨Int.fmod_nonneg_of_pos a h, Int.fmod_lt_of_pos a h⟩
theorem fdivN {a b : Int} (h : 0 < b) (ha : 0 ≤ a) : 0 ≤ a.fdiv b := Int.fdiv_nonneg ha (by omega)
def Sm (l : List Int) : Prop := ∀ r ∈ l, 0 ≤ r ∧ r < 4096
theorem mulF_m {a b q : Int} (h : 0 < q) (hq : q < 18446744073709551616) : mulFits (a.fmod q) b = true := mulF_l (by have := fmodN a h; omega)
/-- the pool of draws: k taken -/
def Pool (p : D) (k : Nat) (m : Mem) : Prop := ∃ (l : List Int) (i : Nat), p = .lst [.lst (l.map D.int), .loc i] ∧ m[i]? = some (.lst [.int k]) ∧ l ≠ [] ∧ l.length ≤ 80 ∧ Sm l
theorem atI_mem {l : List Int} {j : Int} (h0 : 0 ≤ j) (h : j < l.length) : ∃ x ∈ l, atI (l.map D.int) j = some (.int x) := by
  obtain ⟨k, rfl⟩ := Int.eq_ofNat_of_zero_le h0
  have hk : k < l.length := by omega
  refine ⟨l[k], List.getElem_mem _, ?_⟩
  rw [atI_of_nat, List.getElem?_map, List.getElem?_eq_getElem hk]; rfl
theorem atI_0 {α : Type} (x : α) (l : List α) : atI (x :: l) 0 = some x := atI_of_nat (x :: l) 0
theorem atI_1 {α : Type} (x y : α) (l : List α) : atI (x :: y :: l) 1 = some y := atI_of_nat (x :: y :: l) 1
theorem atI_2 {α : Type} (x y z : α) (l : List α) : atI (x :: y :: z :: l) 2 = some z := atI_of_nat (x :: y :: z :: l) 2
theorem ixN_0 (n : Nat) : ixN (n + 1) 0 = some 0 := by unfold ixN; simp
@[simp] theorem ik_NoneType_bool : isKind "NoneType" "bool" = false := by decide
@[simp] theorem ik_NoneType_int : isKind "NoneType" "int" = false := by decide
@[simp] theorem ik_NoneType_str : isKind "NoneType" "str" = false := by decide
@[simp] theorem ik_NoneType_tuple : isKind "NoneType" "tuple" = false := by decide
@[simp] theorem ik_NoneType_list : isKind "NoneType" "list" = false := by decide
@[simp] theorem ik_NoneType_dict : isKind "NoneType" "dict" = false := by decide
@[simp] theorem ik_bool_bool : isKind "bool" "bool" = true := by decide
@[simp] theorem ik_bool_int : isKind "bool" "int" = true := by decide
@[simp] theorem ik_bool_str : isKind "bool" "str" = false := by decide
@[simp] theorem ik_bool_tuple : isKind "bool" "tuple" = false := by decide
@[simp] theorem ik_bool_list : isKind "bool" "list" = false := by decide
@[simp] theorem ik_bool_dict : isKind "bool" "dict" = false := by decide
@[simp] theorem ik_int_bool : isKind "int" "bool" = false := by decide
@[simp] theorem ik_int_int : isKind "int" "int" = true := by decide
@[simp] theorem ik_int_str : isKind "int" "str" = false := by decide
@[simp] theorem ik_int_tuple : isKind "int" "tuple" = false := by decide
@[simp] theorem ik_int_list : isKind "int" "list" = false := by decide
@[simp] theorem ik_int_dict : isKind "int" "dict" = false := by decide
@[simp] theorem ik_str_bool : isKind "str" "bool" = false := by decide
@[simp] theorem ik_str_int : isKind "str" "int" = false := by decide
@[simp] theorem ik_str_str : isKind "str" "str" = true := by decide
@[simp] theorem ik_str_tuple : isKind "str" "tuple" = false := by decide
@[simp] theorem ik_str_list : isKind "str" "list" = false := by decide
@[simp] theorem ik_str_dict : isKind "str" "dict" = false := by decide
@[simp] theorem ik_tuple_bool : isKind "tuple" "bool" = false := by decide
@[simp] theorem ik_tuple_int : isKind "tuple" "int" = false := by decide
@[simp] theorem ik_tuple_str : isKind "tuple" "str" = false := by decide
@[simp] theorem ik_tuple_tuple : isKind "tuple" "tuple" = true := by decide
@[simp] theorem ik_tuple_list : isKind "tuple" "list" = false := by decide
@[simp] theorem ik_tuple_dict : isKind "tuple" "dict" = false := by decide
@[simp] theorem ik_list_bool : isKind "list" "bool" = false := by decide
@[simp] theorem ik_list_int : isKind "list" "int" = false := by decide
@[simp] theorem ik_list_str : isKind "list" "str" = false := by decide
@[simp] theorem ik_list_tuple : isKind "list" "tuple" = false := by decide
@[simp] theorem ik_list_list : isKind "list" "list" = true := by decide
@[simp] theorem ik_list_dict : isKind "list" "dict" = false := by decide
section
variable {m : Mem} {T : String} {l : List D}
@[simp] theorem oIsi_non : oIsi T .non m = some (.bl (isKind "NoneType" T)) := id rfl
@[simp] theorem oIsi_bl (b : Bool) : oIsi T (.bl b) m = some (.bl (isKind "bool" T)) := id rfl
@[simp] theorem oIsi_int (b : Int) : oIsi T (.int b) m = some (.bl (isKind "int" T)) := id rfl
@[simp] theorem oIsi_str (b : Str) : oIsi T (.str b) m = some (.bl (isKind "str" T)) := id rfl
@[simp] theorem oIsi_tup : oIsi T (.tup l) m = some (.bl (isKind "tuple" T)) := id rfl
@[simp] theorem oIsi_lst : oIsi T (.lst l) m = some (.bl (isKind "list" T)) := id rfl
@[simp] theorem oIsi_ro : oIsi T (.ro l) m = some (.bl (isKind "list" T)) := id rfl
@[simp] theorem oIsi_loc (i : Nat) : oIsi T (.loc i) m = some (.bl (isKind "list" T)) := id rfl
@[simp] theorem oIs_blbl (a b : Bool) : oIs (.bl a) (.bl b) m = some (.bl (decide (a = b))) := id rfl
@[simp] theorem oEq_bl (a b : Bool) : oEq (.bl a) (.bl b) m = some (.bl (decide (a = b))) := id rfl
@[simp] theorem oEq_str (a b : Str) : oEq (.str a) (.str b) m = some (.bl (decide (a = b))) := id rfl
@[simp] theorem oEq_non : oEq .non .non m = some (.bl true) := id rfl
end
def kindN : D → Int
  | .non => 0
  | .bl _ => 1
  | .int _ => 2
  | .str _ => 3
  | .tup _ => 4
  | _ => 5
/-- what a list-like or a tuple holds -/
def seqO (m : Mem) (d : D) : Option (List D) := match d with
  | .tup l => some l
  | d => asL m d
def scaD : D → Bool
  | .non => true
  | .bl _ => true
  | .int _ => true
  | .str _ => true
  | _ => false
/-- alike, as the law asks it -/
def Sim (m : Mem) : Nat → D → D → Prop
  | 0, _, _ => False
  | n + 1, x, y => (x = y ∧ scaD x = true) ∨ ∃ l r, seqO m x = some l ∧ seqO m y = some r ∧ kindN x = kindN y ∧ l.length = r.length ∧ l.length ≤ 1000000 ∧ ∀ (i : Nat) (a b : D), l[i]? = some a → r[i]? = some b → Sim m n a b
theorem seqO_len {m : Mem} {d : D} {l : List D} (h : seqO m d = some l) : oLen [d] m = some (.int l.length) := by
  cases d with
  | tup l' => cases h; rfl
  | lst l' => cases h; rfl
  | ro l' => cases h; rfl
  | loc i => simp only [seqO] at h; simp only [oLen, h]
  | _ => cases h
theorem seqO_ix {m : Mem} {d : D} {l : List D} (h : seqO m d = some l) (i : Int) : oIx d (.int i) m = atI l i := by
  cases d with
  | tup l' => cases h; rfl
  | lst l' => cases h; rfl
  | ro l' => cases h; rfl
  | loc j => simp only [seqO] at h; simp only [oIx, h]
  | _ => cases h
theorem seqO_k {m : Mem} {d : D} {l : List D} (h : seqO m d = some l) : kindN d = 4 ∨ kindN d = 5 := by
  cases d <;> first | exact .inl rfl | exact .inr rfl | cases h
theorem isi_tup (d : D) (m : Mem) : oIsi "tuple" d m = some (.bl (decide (kindN d = 4))) := by cases d <;> simp [kindN]
theorem isi_lst (d : D) (m : Mem) : oIsi "list" d m = some (.bl (decide (kindN d = 5))) := by cases d <;> simp [kindN]
theorem isi_dct (d : D) (m : Mem) : oIsi "dict" d m = some (.bl false) := by cases d <;> simp
theorem fdivAbs (a b : Int) (hb : b ≠ 0) : (a.fdiv b).natAbs ≤ a.natAbs + 1 := by
  have h1 := fmodLt (a := a) hb
  have h2 := Int.fmod_add_mul_fdiv a b
  have h3 : (b * a.fdiv b).natAbs = b.natAbs * (a.fdiv b).natAbs := Int.natAbs_mul ..
  have h4 : (b * a.fdiv b).natAbs < a.natAbs + b.natAbs := by omega
  rw [h3] at h4
  refine Nat.le_of_not_lt fun h => ?_
  have h5 : b.natAbs * (a.natAbs + 2) ≤ b.natAbs * (a.fdiv b).natAbs := Nat.mul_le_mul_left _ (by omega)
  have h6 : 1 * a.natAbs ≤ b.natAbs * a.natAbs := Nat.mul_le_mul_right _ (by omega)
  rw [Nat.mul_add] at h5
  omega
/-- no divisor between -/
def prB (n : Int) : Bool := decide (1 < n) && ((rng 2 (n - 2).toNat).filter fun d => decide (n.fmod d = 0)).isEmpty
theorem prB_iff (n : Int) : prB n = true ↔ 1 < n ∧ ∀ d, 2 ≤ d → d < n → n.fmod d ≠ 0 := by
  unfold prB
  rw [Bool.and_eq_true, decide_eq_true_eq, List.isEmpty_iff, List.filter_eq_nil_iff]
  constructor
  · rintro ⟨h1, h2⟩
    exact ⟨h1, fun d a b c => h2 d (mem_rng.2 ⟨a, by omega⟩) (by simpa using c)⟩
  · rintro ⟨h1, h2⟩
    refine ⟨h1, fun d hd c => ?_⟩
    have := mem_rng.1 hd
    exact h2 d this.1 (by omega) (by simpa using c)
theorem fmod_dvd {n d : Int} : n.fmod d = 0 ↔ d ∣ n := ⟨Int.dvd_of_fmod_eq_zero, Int.fmod_eq_zero_of_dvd⟩
/-- without divisors up to the root: none at all -/
theorem no_div {n k : Int} (hk : 2 ≤ k) (hn : n < k * k) (h : ∀ d, 2 ≤ d → d < k → ¬ d ∣ n) : ∀ d, 2 ≤ d → d < n → ¬ d ∣ n := by
  intro d h2 hd hdvd
  obtain ⟨q, e⟩ := hdvd
  have hq : 2 ≤ q := by
    refine Int.not_lt.1 fun hq => ?_
    rcases Int.lt_or_le q 1 with h1 | h1
    · have : d * q ≤ d * 0 := Int.mul_le_mul_of_nonneg_left (by omega) (by omega)
      omega
    · obtain rfl : q = 1 := by omega
      omega
  rcases Int.lt_or_le d k with h1 | h1
  · exact h d h2 h1 ⟨q, e⟩
  · rcases Int.lt_or_le q k with h3 | h3
    · exact h q hq h3 ⟨d, by rw [e, Int.mul_comm]⟩
    · have : k * k ≤ d * q := Int.mul_le_mul h1 h3 (by omega) (by omega)
      omega
def Keep (m m1 : Mem) : Prop := ∀ (a : Nat) (c : Cell), m[a]? = some c → m1[a]? = some c
theorem prB_dvd {q : Int} (h : prB q = true) {d : Int} (hd : d ∣ q) (h0 : 0 < d) : d = 1 ∨ d = q := by
  have h' := (prB_iff q).1 h
  rcases Int.lt_or_le d 2 with a | a
  · exact .inl (by omega)
  · rcases Int.lt_or_le d q with b | b
    · exact absurd (fmod_dvd.2 hd) (h'.2 d a b)
    · have := Int.le_of_dvd (by omega) hd
      exact .inr (by omega)
theorem prB_mul {q a b : Int} (h : prB q = true) (hd : q ∣ a * b) (hb : 0 < b) (hbq : b < q) : q ∣ a := by
  have hg : (Int.gcd q b : Int) ∣ q := Int.gcd_dvd_left ..
  have hg2 : (Int.gcd q b : Int) ∣ b := Int.gcd_dvd_right ..
  have hp : 0 < Int.gcd q b := Nat.pos_of_ne_zero fun h => by
    have := (Int.gcd_eq_zero_iff.1 h).2
    omega
  have hle := Int.le_of_dvd hb hg2
  rcases prB_dvd h hg (by omega) with h1 | h1
  · have hd' := Int.natAbs_dvd_natAbs.2 hd
    rw [Int.natAbs_mul] at hd'
    have hc : Nat.Coprime q.natAbs b.natAbs := by
      show Nat.gcd q.natAbs b.natAbs = 1
      exact_mod_cast h1
    exact Int.natAbs_dvd_natAbs.1 (hc.dvd_of_dvd_mul_right hd')
  · omega
theorem fdiv_dvd {n k : Int} (hk : 0 < k) (h : n.fmod k = 0) (hn : 0 < n) : n.fdiv k ∣ n ∧ 1 ≤ n.fdiv k ∧ n = n.fdiv k * k := by
  have e := Int.fmod_add_mul_fdiv n k
  rw [h, Int.zero_add] at e
  have e2 : n = n.fdiv k * k := by rw [Int.mul_comm]; omega
  refine ⟨⟨k, e2⟩, ?_, e2⟩
  rcases Int.lt_or_le 0 (n.fdiv k) with a | a
  · omega
  · have : k * n.fdiv k ≤ k * 0 := Int.mul_le_mul_of_nonneg_left a (by omega)
    omega
theorem filter_one {p : Int → Bool} {lo x : Int} {n : Nat} (h1 : lo ≤ x) (h2 : x < lo + n) (hp : p x = true) (ho : ∀ y, lo ≤ y → y < lo + n → p y = true → y = x) : (rng lo n).filter p = [x] := by
  have e : n = (x - lo).toNat + (1 + (lo + n - x - 1).toNat) := by omega
  rw [e, rng_app, List.filter_append, rng_app, List.filter_append]
  have a : (rng lo (x - lo).toNat).filter p = [] := List.filter_eq_nil_iff.2 fun y hy c => by
    have := mem_rng.1 hy
    have := ho y (by omega) (by omega) c
    omega
  have b : (rng (lo + ((x - lo).toNat : Int) + ((1 : Nat) : Int)) (lo + n - x - 1).toNat).filter p = [] := List.filter_eq_nil_iff.2 fun y hy c => by
    have := mem_rng.1 hy
    have := ho y (by omega) (by omega) c
    omega
  have c : rng (lo + ((x - lo).toNat : Int)) 1 = [x] := by
    rw [show lo + ((x - lo).toNat : Int) = x by omega]
    simp [rng]
  rw [a, b, c, List.filter_cons_of_pos hp]; rfl
theorem toPyL_ints (xs : List Int) : toPyL (xs.map D.int) = some (xs.map PyData.int) := by
  induction xs with
  | nil => rfl
  | cons x xs ih => simp only [List.map_cons, toPyL, ih, toPy]
theorem sh_ints (xs : List Int) : PyData.canLayAll0 (xs.map PyData.int) = true ∧ PyData.depthAll (xs.map PyData.int) = 0 := by
  induction xs with
  | nil => exact ⟨rfl, rfl⟩
  | cons x xs ih => simp [PyData.canLayAll0, PyData.depthAll, PyData.canLay0, PyData.depth, ih]
theorem eqv_ints (xs ys : List Int) : PyData.eqvAll (xs.map PyData.int) (ys.map PyData.int) = decide (xs = ys) := by
  induction xs generalizing ys with
  | nil => cases ys <;> rfl
  | cons x xs ih =>
    cases ys with
    | nil => rfl
    | cons y ys =>
      simp only [List.map_cons, PyData.eqvAll, PyData.eqv, ih]
      by_cases h : x = y <;> by_cases h2 : xs = ys <;> simp [h, h2]
theorem oEqB_lst (xs ys : List Int) (m : Mem) : oEqB (.lst (xs.map D.int)) (.lst (ys.map D.int)) m = some (decide (xs = ys)) := by
  simp [oEqB, oEqD, deref, toPy, toPyL_ints, SeqAt.shaped, PyData.canLay0, PyData.depth, sh_ints, PyData.eqv, eqv_ints]
theorem oEqB_tup (xs ys : List Int) (m : Mem) : oEqB (.tup (xs.map D.int)) (.tup (ys.map D.int)) m = some (decide (xs = ys)) := by
  simp [oEqB, oEqD, deref, toPy, toPyL_ints, SeqAt.shaped, PyData.canLay0, PyData.depth, sh_ints, PyData.eqv, eqv_ints]
theorem oEq_lst (xs ys : List Int) (m : Mem) : oEq (.lst (xs.map D.int)) (.lst (ys.map D.int)) m = some (.bl (decide (xs = ys))) := by
  unfold oEq; rw [oEqB_lst]; rfl
theorem oNe_lst (xs ys : List Int) (m : Mem) : oNe (.lst (xs.map D.int)) (.lst (ys.map D.int)) m = some (.bl (!decide (xs = ys))) := by
  unfold oNe; rw [oEqB_lst]; rfl
theorem sim_ints {m : Mem} {x y : D} {xs : List Int} {n : Nat} (hx : seqO m x = some (xs.map D.int)) (hy : seqO m y = some (xs.map D.int)) (hk : kindN x = kindN y) (hl : xs.length ≤ 1000000) : Sim m (n + 2) x y := by
  refine .inr ⟨_, _, hx, hy, hk, rfl, by simpa using hl, fun i a b ha hb => ?_⟩
  rw [ha] at hb
  cases hb
  rw [List.getElem?_map] at ha
  cases h : xs[i]? with
  | none => rw [h] at ha; cases ha
  | some z => rw [h] at ha; cases ha; exact .inl ⟨rfl, rfl⟩
theorem gcd_of_inv {a x p : Int} (hp : 2 ≤ p) (h : (a * x).fmod p = 1) : Int.gcd a p = 1 := by
  have e := Int.fmod_add_mul_fdiv (a * x) p
  rw [h] at e
  have h1 : (Int.gcd a p : Int) ∣ a * x := Int.dvd_trans (Int.gcd_dvd_left ..) ⟨x, rfl⟩
  have h2 : (Int.gcd a p : Int) ∣ p * (a * x).fdiv p := Int.dvd_trans (Int.gcd_dvd_right ..) ⟨_, rfl⟩
  have h3 : (Int.gcd a p : Int) ∣ 1 := by
    have := Int.dvd_sub h1 h2
    rw [show a * x - p * (a * x).fdiv p = 1 by omega] at this
    exact this
  have := Int.le_of_dvd (by decide) h3
  have h0 : Int.gcd a p ≠ 0 := fun h => by
    have := (Int.gcd_eq_zero_iff.1 h).2
    omega
  omega
theorem inv_unique {a x y p : Int} (hp : 2 ≤ p) (hx : 0 ≤ x ∧ x < p) (hy : 0 ≤ y ∧ y < p) (h1 : (a * x).fmod p = 1) (h2 : (a * y).fmod p = 1) : x = y := by
  have e1 := Int.fmod_add_mul_fdiv (a * x) p
  have e2 := Int.fmod_add_mul_fdiv (a * y) p
  rw [h1] at e1
  rw [h2] at e2
  have hd : p ∣ x - y := by
    refine ⟨x * (a * y).fdiv p * -1 + y * (a * x).fdiv p, ?_⟩
    grind
  obtain ⟨k, hk⟩ := hd
  have : k = 0 := by
    rcases Int.lt_or_le k 0 with h | h
    · have : p * k ≤ p * (-1) := Int.mul_le_mul_of_nonneg_left (by omega) (by omega)
      omega
    · rcases Int.lt_or_le 0 k with h' | h'
      · have : p * 1 ≤ p * k := Int.mul_le_mul_of_nonneg_left (by omega) (by omega)
        omega
      · omega
  subst this
  omega
theorem oEq_l1 (x : Int) (m : Mem) : oEq (.lst [.int x]) (.lst []) m = some (.bl false) := oEq_lst [x] [] m
theorem oNe_l1 (x : Int) (m : Mem) : oNe (.lst [.int x]) (.lst []) m = some (.bl true) := oNe_lst [x] [] m
theorem oEq_l0 (m : Mem) : oEq (.lst []) (.lst []) m = some (.bl true) := oEq_lst [] [] m
theorem oNe_l0 (m : Mem) : oNe (.lst []) (.lst []) m = some (.bl false) := oNe_lst [] [] m
@[simp] theorem pSl_app {e : Ev} {m : Mem} (p : PEF) (pl ph : POF) : pSl p pl ph e m = bnd (p e m) fun d m1 => bnd (pl e m1) fun lo m2 => bnd (ph e m2) fun hi m3 => lift1 (oSl d lo hi m3) m3 := id rfl
@[simp] theorem pNoPart_app {e : Ev} {m : Mem} : pNoPart e m = some (.ok none m) := id rfl
def iPart (d : D) (m : Mem) : Option (Out (Option Int)) := match d with
  | .int i => some (.ok (some i) m)
  | _ => none
@[simp] theorem iPart_int (i : Int) (m : Mem) : iPart (.int i) m = some (.ok (some i) m) := id rfl
@[simp] theorem pPart_app {e : Ev} {m : Mem} (p : PEF) : pPart p e m = bnd (p e m) fun d m1 => iPart d m1 := id rfl
@[simp] theorem oSl_lst (l : List D) (lo hi : Option Int) (m : Mem) : oSl (.lst l) lo hi m = some (.lst (cutD l lo hi)) := id rfl
theorem cutD_take (l : List D) (v : Nat) : cutD l none (some (v : Int)) = l.take v := by
  unfold cutD HT.sIx
  simp only [List.drop_zero, Nat.sub_zero]
  rw [if_neg (by omega)]
  rcases Nat.le_total v l.length with h | h
  · rw [Int.toNat_natCast, Nat.min_eq_left h]
  · rw [Int.toNat_natCast, Nat.min_eq_right h, List.take_of_length_le (Nat.le_refl _), List.take_of_length_le h]
theorem Pool.keep {p : D} {k : Nat} {m m1 : Mem} (h : Pool p k m) (q : Keep m m1) : Pool p k m1 := by
  obtain ⟨l, i, h1, h2, h3⟩ := h
  exact ⟨l, i, h1, q _ _ h2, h3⟩
end Z

set_option maxRecDepth 100000
set_option maxHeartbeats 4000000
set_option autoImplicit false
namespace Z
open PySem PySem.Spec PyProof.Rows L2
/-! ### rows of numbers as polynomials -/
def co (l : List Int) (k : Nat) : Int := l.getD k 0
def trim (l : List Int) : List Int := (l.reverse.dropWhile fun x => x == 0).reverse
theorem trim_nil : trim [] = [] := rfl
theorem trim_snoc0 (l : List Int) : trim (l ++ [0]) = trim l := by
  unfold trim; rw [List.reverse_append]; rfl
theorem trim_snoc (l : List Int) {x : Int} (h : x ≠ 0) : trim (l ++ [x]) = l ++ [x] := by
  unfold trim
  rw [List.reverse_append, List.reverse_singleton, List.singleton_append, List.dropWhile_cons_of_neg (by simpa using h)]
  simp
theorem co_nil (k : Nat) : co [] k = 0 := rfl
theorem co_lt {l : List Int} {k : Nat} (h : k < l.length) : co l k = l[k] := by unfold co; rw [List.getD_eq_getElem?_getD, List.getElem?_eq_getElem h]; rfl
theorem co_ge {l : List Int} {k : Nat} (h : l.length ≤ k) : co l k = 0 := by unfold co; rw [List.getD_eq_getElem?_getD, List.getElem?_eq_none h]; rfl
theorem co_app_l {l r : List Int} {k : Nat} (h : k < l.length) : co (l ++ r) k = co l k := by
  unfold co; rw [List.getD_eq_getElem?_getD, List.getElem?_append_left h, List.getD_eq_getElem?_getD]
theorem co_app_r {l r : List Int} {k : Nat} (h : l.length ≤ k) : co (l ++ r) k = co r (k - l.length) := by
  unfold co; rw [List.getD_eq_getElem?_getD, List.getElem?_append_right h, List.getD_eq_getElem?_getD]
theorem co_snoc0 (l : List Int) (k : Nat) : co (l ++ [0]) k = co l k := by
  by_cases h : k < l.length
  · exact co_app_l h
  · rw [co_app_r (by omega), co_ge (l := l) (by omega)]
    cases k - l.length <;> rfl
theorem co_trim (l : List Int) (k : Nat) : co (trim l) k = co l k := by
  rcases List.eq_nil_or_concat l with rfl | ⟨l', x, rfl⟩
  · rfl
  · by_cases hx : x = 0
    · subst hx
      rw [List.concat_eq_append, trim_snoc0, co_snoc0]
      exact co_trim l' k
    · rw [List.concat_eq_append, trim_snoc _ hx]
termination_by l.length
decreasing_by simp_all
theorem trim_trim (l : List Int) : trim (trim l) = trim l := by
  rcases List.eq_nil_or_concat l with rfl | ⟨l', x, rfl⟩
  · rfl
  · by_cases hx : x = 0
    · subst hx
      rw [List.concat_eq_append, trim_snoc0]
      exact trim_trim l'
    · rw [List.concat_eq_append, trim_snoc _ hx, trim_snoc _ hx]
termination_by l.length
decreasing_by simp_all
theorem trim_len (l : List Int) : (trim l).length ≤ l.length := by
  unfold trim
  rw [List.length_reverse]
  exact Nat.le_trans (List.dropWhile_sublist _).length_le (by simp)
/-- a trimmed one's end -/
theorem trim_last {l : List Int} (h : trim l = l) (hn : l ≠ []) : co l (l.length - 1) ≠ 0 := by
  rcases List.eq_nil_or_concat l with rfl | ⟨l', x, rfl⟩
  · exact absurd rfl hn
  · rw [List.concat_eq_append] at h ⊢
    intro hx
    rw [List.length_append, List.length_singleton, Nat.add_sub_cancel, co_app_r (Nat.le_refl _), Nat.sub_self] at hx
    have hx : x = 0 := hx
    subst hx
    rw [trim_snoc0] at h
    have := congrArg List.length h
    have := trim_len l'
    rw [List.length_append, List.length_singleton] at *
    omega
theorem trim_of_last {l : List Int} (h : l ≠ [] → co l (l.length - 1) ≠ 0) : trim l = l := by
  rcases List.eq_nil_or_concat l with rfl | ⟨l', x, rfl⟩
  · rfl
  · rw [List.concat_eq_append] at h ⊢
    refine trim_snoc _ fun hx => h (by simp) ?_
    rw [List.length_append, List.length_singleton, Nat.add_sub_cancel, co_app_r (Nat.le_refl _), Nat.sub_self]
    exact hx
theorem co_ext {l r : List Int} (hl : trim l = l) (hr : trim r = r) (h : ∀ k, co l k = co r k) : l = r := by
  have le : ∀ {l r : List Int}, trim r = r → (∀ k, co l k = co r k) → r.length ≤ l.length := by
    intro l r hr h
    refine Nat.le_of_not_lt fun c => ?_
    have hn : r ≠ [] := fun e => by rw [e] at c; simp at c
    refine trim_last hr hn ?_
    rw [← h, co_ge (by omega)]
  have e := Nat.le_antisymm (le (l := r) (r := l) hl fun k => (h k).symm) (le hr h)
  refine List.ext_getElem e fun i h1 h2 => ?_
  have := h i
  rwa [co_lt h1, co_lt h2] at this
theorem trim_ext {l r : List Int} (h : ∀ k, co l k = co r k) : trim l = trim r :=
  co_ext (trim_trim l) (trim_trim r) fun k => by rw [co_trim, co_trim, h]
theorem co_map_range (n : Nat) (f : Nat → Int) (k : Nat) : co ((List.range n).map f) k = if k < n then f k else 0 := by
  by_cases h : k < n
  · rw [if_pos h, co_lt (by simpa using h)]; simp
  · rw [if_neg h, co_ge (by simp; omega)]
/-! sum, product by a number, product -/
def padd (f g : List Int) : List Int := trim ((List.range (max f.length g.length)).map fun k => co f k + co g k)
def psc (x : Int) (f : List Int) : List Int := trim (f.map fun y => x * y)
theorem co_padd (f g : List Int) (k : Nat) : co (padd f g) k = co f k + co g k := by
  unfold padd
  rw [co_trim, co_map_range]
  split
  · rfl
  · rw [co_ge (l := f) (by omega), co_ge (l := g) (by omega)]; rfl
theorem co_map (f : List Int) (h : Int → Int) (h0 : h 0 = 0) (k : Nat) : co (f.map h) k = h (co f k) := by
  unfold co
  rw [List.getD_eq_getElem?_getD, List.getD_eq_getElem?_getD, List.getElem?_map]
  cases f[k]? <;> simp [h0]
theorem co_psc (x : Int) (f : List Int) (k : Nat) : co (psc x f) k = x * co f k := by
  unfold psc
  rw [co_trim, co_map f _ (Int.mul_zero x)]
def sm (n : Nat) (f : Nat → Int) : Int := ((List.range n).map f).sum
theorem sm_succ (n : Nat) (f : Nat → Int) : sm (n + 1) f = sm n f + f n := by
  unfold sm
  rw [List.range_succ, List.map_append, List.sum_append]
  simp
theorem sm_zero (f : Nat → Int) : sm 0 f = 0 := rfl
theorem sm_congr {n : Nat} {f g : Nat → Int} (h : ∀ k, k < n → f k = g k) : sm n f = sm n g := by
  induction n with
  | zero => rfl
  | succ n ih => rw [sm_succ, sm_succ, ih fun k hk => h k (by omega), h n (by omega)]
theorem sm_eq0 {n : Nat} {f : Nat → Int} (h : ∀ k, k < n → f k = 0) : sm n f = 0 := by
  induction n with
  | zero => rfl
  | succ n ih => rw [sm_succ, ih fun k hk => h k (by omega), h n (by omega)]; rfl
theorem sm_add (n : Nat) (f g : Nat → Int) : sm n (fun k => f k + g k) = sm n f + sm n g := by
  induction n with
  | zero => rfl
  | succ n ih => rw [sm_succ, sm_succ, sm_succ, ih]; omega
theorem sm_mul (n : Nat) (c : Int) (f : Nat → Int) : sm n (fun k => c * f k) = c * sm n f := by
  induction n with
  | zero => simp [sm_zero]
  | succ n ih => rw [sm_succ, sm_succ, ih, Int.mul_add]
theorem sm_more {n m : Nat} {f : Nat → Int} (h : n ≤ m) (h0 : ∀ k, n ≤ k → k < m → f k = 0) : sm m f = sm n f := by
  induction m with
  | zero => obtain rfl : n = 0 := by omega
            rfl
  | succ m ih =>
    rcases Nat.lt_or_ge m n with a | a
    · obtain rfl : n = m + 1 := by omega
      rfl
    · rw [sm_succ, ih a fun k a b => h0 k a (by omega), h0 m a (by omega)]; omega
/-- the t-th number of a product -/
def cv (f g : List Int) (t : Nat) : Int := sm f.length fun j => if j ≤ t then co f j * co g (t - j) else 0
theorem cv_big {f g : List Int} {t : Nat} (h : f.length + g.length ≤ t + 1) : cv f g t = 0 := by
  refine sm_eq0 fun j hj => ?_
  split
  · rw [co_ge (l := g) (by omega), Int.mul_zero]
  · rfl
def pmul (f g : List Int) : List Int := trim ((List.range (f.length + g.length)).map (cv f g))
theorem co_pmul (f g : List Int) (t : Nat) : co (pmul f g) t = cv f g t := by
  unfold pmul
  rw [co_trim, co_map_range]
  split
  · rfl
  · rw [cv_big (by omega)]
theorem pmul_trim (f g : List Int) : trim (pmul f g) = pmul f g := trim_trim _
theorem padd_trim (f g : List Int) : trim (padd f g) = padd f g := trim_trim _
theorem psc_trim (x : Int) (g : List Int) : trim (psc x g) = psc x g := trim_trim _
/-! the loops' own product -/
def addAt (l : List Int) (n : Nat) (x : Int) : List Int := l.set n (co l n + x)
theorem co_addAt (l : List Int) (n t : Nat) (x : Int) (h : n < l.length) : co (addAt l n x) t = co l t + if t = n then x else 0 := by
  unfold addAt
  by_cases e : t = n
  · subst e
    rw [co_lt (by simpa using h), List.getElem_set_self, if_pos rfl]
  · rw [if_neg e, Int.add_zero]
    unfold co
    simp only [List.getD_eq_getElem?_getD, List.getElem?_set_ne (Ne.symm e)]
theorem addAt_len (l : List Int) (n : Nat) (x : Int) : (addAt l n x).length = l.length := by unfold addAt; simp
def rowsK (f g : List Int) (j : Nat) : Nat → List Int → List Int
  | 0, acc => acc
  | k + 1, acc => addAt (rowsK f g j k acc) (j + k) (co f j * co g k)
def rowsJ (f g : List Int) (acc : List Int) : Nat → List Int
  | 0 => acc
  | j + 1 => rowsK f g j g.length (rowsJ f g acc j)
theorem rowsK_len (f g : List Int) (j : Nat) (n : Nat) (acc : List Int) : (rowsK f g j n acc).length = acc.length := by
  induction n with
  | zero => rfl
  | succ n ih => rw [rowsK, addAt_len, ih]
theorem rowsJ_len (f g : List Int) (acc : List Int) (n : Nat) : (rowsJ f g acc n).length = acc.length := by
  induction n with
  | zero => rfl
  | succ n ih => rw [rowsJ, rowsK_len, ih]
theorem co_rowsK (f g : List Int) (j : Nat) (acc : List Int) (t : Nat) : ∀ n, j + n ≤ acc.length → co (rowsK f g j n acc) t = co acc t + if j ≤ t ∧ t - j < n then co f j * co g (t - j) else 0
  | 0, _ => by rw [rowsK, if_neg (by omega), Int.add_zero]
  | n + 1, h => by
    rw [rowsK, co_addAt _ _ _ _ (by rw [rowsK_len]; omega), co_rowsK f g j acc t n (by omega)]
    by_cases e : t = j + n
    · subst e
      rw [if_pos rfl, if_neg (by omega), if_pos (by omega), Nat.add_sub_cancel_left]; omega
    · rw [if_neg e]
      by_cases c : j ≤ t ∧ t - j < n
      · rw [if_pos c, if_pos (by omega)]; omega
      · rw [if_neg c, if_neg (by omega)]; omega
theorem co_rowsJ (f g : List Int) (acc : List Int) (t : Nat) : ∀ n, n + g.length ≤ acc.length + 1 → co (rowsJ f g acc n) t = co acc t + sm n fun j => if j ≤ t then co f j * co g (t - j) else 0
  | 0, _ => by rw [rowsJ, sm_zero, Int.add_zero]
  | n + 1, h => by
    rw [rowsJ, co_rowsK _ _ _ _ _ _ (by rw [rowsJ_len]; omega), co_rowsJ f g acc t n (by omega), sm_succ, Int.add_assoc]
    congr 2
    by_cases c : n ≤ t
    · rw [if_pos c]
      by_cases d : t - n < g.length
      · rw [if_pos ⟨c, d⟩]
      · rw [if_neg (by omega), co_ge (l := g) (by omega), Int.mul_zero]
    · rw [if_neg c, if_neg (by omega)]
theorem co_rep0 (n t : Nat) : co (List.replicate n (0 : Int)) t = 0 := by
  by_cases h : t < n
  · rw [co_lt (by simpa using h)]; simp
  · rw [co_ge (by simp; omega)]
theorem rows_pmul (f g : List Int) (n : Nat) (h : f.length + g.length ≤ n + 1) : trim (rowsJ f g (List.replicate n 0) f.length) = pmul f g := by
  rw [← pmul_trim]
  refine trim_ext fun t => ?_
  rw [co_rowsJ _ _ _ _ _ (by simpa using h), co_rep0, Int.zero_add, co_pmul]; rfl
/-! sizes -/
def Bd (n : Nat) (f : List Int) : Prop := ∀ k, (co f k).natAbs < 2 ^ n
theorem Bd.up {n m : Nat} {f : List Int} (h : Bd n f) (hm : n ≤ m) : Bd m f := fun k => Nat.lt_of_lt_of_le (h k) (Nat.pow_le_pow_right (by decide) hm)
theorem Bd.trim {n : Nat} {f : List Int} (h : Bd n f) : Bd n (trim f) := fun k => by rw [co_trim]; exact h k
theorem Bd.mem {n : Nat} {f : List Int} (h : Bd n f) {x : Int} (hx : x ∈ f) : x.natAbs < 2 ^ n := by
  obtain ⟨i, hi, rfl⟩ := List.mem_iff_getElem.1 hx
  have := h i
  rwa [co_lt hi] at this
theorem Bd.of {n : Nat} {f : List Int} (h : ∀ x ∈ f, x.natAbs < 2 ^ n) : Bd n f := fun k => by
  by_cases hk : k < f.length
  · rw [co_lt hk]; exact h _ (List.getElem_mem _)
  · rw [co_ge (by omega)]; exact Nat.two_pow_pos n
theorem Bd.fits {a b : Nat} {f g : List Int} (hf : Bd a f) (hg : Bd b g) (ha : a ≤ 200000) (hb : b ≤ 200000) (i j : Nat) : mulFits (co f i) (co g j) = true :=
  mulF_b (n := max a b) (by omega) (hf.up (Nat.le_max_left ..) i) (hg.up (Nat.le_max_right ..) j)
theorem Bd.add {a b : Nat} {f g : List Int} (hf : Bd a f) (hg : Bd b g) : Bd (max a b + 1) (padd f g) := fun k => by
  rw [co_padd]
  have h1 := hf.up (Nat.le_max_left a b) k
  have h2 := hg.up (Nat.le_max_right a b) k
  rw [Nat.pow_succ]
  omega
theorem mul_bits {x y : Int} {a b : Nat} (hx : x.natAbs < 2 ^ a) (hy : y.natAbs < 2 ^ b) : (x * y).natAbs < 2 ^ (a + b) := by
  rw [Int.natAbs_mul, Nat.pow_add]
  exact Nat.mul_lt_mul'' hx hy
theorem sm_bits {n c B : Nat} {f : Nat → Int} (h : ∀ k, k < n → (f k).natAbs ≤ B) : (sm n f).natAbs ≤ n * B := by
  induction n with
  | zero => simp [sm_zero]
  | succ n ih =>
    rw [sm_succ, Nat.succ_mul]
    have := ih fun k hk => h k (by omega)
    have := h n (by omega)
    omega
theorem Bd.mul {a b c : Nat} {f g : List Int} (hf : Bd a f) (hg : Bd b g) (hl : f.length ≤ 2 ^ c) : Bd (a + b + c) (pmul f g) := fun t => by
  rw [co_pmul]
  unfold cv
  by_cases h0 : f.length = 0
  · rw [h0, sm_zero]; exact Nat.two_pow_pos _
  · have hb : ∀ k, k < f.length → (if k ≤ t then co f k * co g (t - k) else 0 : Int).natAbs ≤ 2 ^ (a + b) - 1 := fun k _ => by
      split
      · have := mul_bits (hf k) (hg (t - k)); omega
      · simp
    have h1 := sm_bits (c := 0) hb
    have h2 : f.length * (2 ^ (a + b) - 1) < 2 ^ c * 2 ^ (a + b) := by
      have hp := Nat.two_pow_pos (a + b)
      calc f.length * (2 ^ (a + b) - 1) < f.length * 2 ^ (a + b) := Nat.mul_lt_mul_of_pos_left (by omega) (by omega)
        _ ≤ 2 ^ c * 2 ^ (a + b) := Nat.mul_le_mul_right _ hl
    rw [Nat.add_comm (a + b) c, Nat.pow_add]
    omega
theorem Bd.sc {a b : Nat} {x : Int} {f : List Int} (hx : x.natAbs < 2 ^ a) (hf : Bd b f) : Bd (a + b) (psc x f) := fun k => by
  rw [co_psc]; exact mul_bits hx (hf k)
theorem padd_len (f g : List Int) : (padd f g).length ≤ max f.length g.length := Nat.le_trans (trim_len _) (by simp)
theorem psc_len (x : Int) (f : List Int) : (psc x f).length ≤ f.length := Nat.le_trans (trim_len _) (by simp)
theorem pmul_len (f g : List Int) : (pmul f g).length ≤ f.length + g.length := Nat.le_trans (trim_len _) (by simp)
/-! loops over a count -/
theorem wp_rng {s : PSF} {N : Ev → Mem → Prop} {R : D → Mem → Prop} {v : Nat} (I : Nat → Ev → Mem → Prop) (n : Nat)
    (st : ∀ k, k < n → ∀ e m, I k e m → wpL (s (e.set v (some (.int (k : Int)))) m) (I (k + 1)) N R) (en : ∀ e m, I n e m → N e m) (e : Ev) (m : Mem) (i : I 0 e m) : wpS (loopF (gN v) s (intR 0 1 n) e m) N R := by
  refine wp_loop (fun ds e m => ∃ k, k + ds.length = n ∧ ds = (rng k (n - k)).map D.int ∧ I k e m) ?_ ?_ _ _ _ ⟨0, by simp [intR_rng, rng_len], by simp [intR_rng], i⟩
  · rintro d ds e m ⟨k, h1, h2, h3⟩
    rw [List.length_cons] at h1
    rw [show n - k = ds.length + 1 by omega, rng_cons, List.map_cons] at h2
    injection h2 with h4 h5
    subst h4
    refine ⟨_, _, rfl, (st k (by omega) e m h3).mono (fun e2 m2 h => ⟨k + 1, by omega, ?_, h⟩) (fun _ _ h => h) (fun _ _ h => h)⟩
    rw [h5, show n - (k + 1) = ds.length by omega]; rfl
  · rintro e m ⟨k, h1, h2, h3⟩
    rw [List.length_nil] at h1
    obtain rfl : k = n := by omega
    exact en e m h3
theorem Keep.refl (m : Mem) : Keep m m := fun _ _ h => h
theorem Keep.trans {m m1 m2 : Mem} (h : Keep m m1) (h2 : Keep m1 m2) : Keep m m2 := fun a c h0 => h2 a c (h a c h0)
theorem Keep.push (m : Mem) (c : Cell) : Keep m (m ++ [c]) := fun a c h => by rw [List.getElem?_append_left (List.getElem?_eq_some_iff.1 h).1]; exact h
theorem Keep.set {m m1 : Mem} {i : Nat} (h : Keep m m1) (hi : m.length ≤ i) (c : Cell) : Keep m (m1.set i c) := fun a c' ha => by
  have := (List.getElem?_eq_some_iff.1 ha).1
  rw [List.getElem?_set_ne (by omega)]
  exact h a c' ha
theorem seqO_listL {m : Mem} {d : D} {l : List D} (h : seqO m d = some l) : oListL [d] m = some l := by
  cases d with
  | tup l' => cases h; rfl
  | _ => exact h
theorem atI_last {α : Type} (l : List α) (x : α) : atI (l ++ [x]) (-1) = some x := by
  unfold atI ixN
  rw [if_neg (by decide), if_pos (by simp; omega)]
  show (l ++ [x])[(-1 + ((l ++ [x]).length : Nat) : Int).toNat]? = some x
  rw [show (-1 + ((l ++ [x]).length : Nat) : Int).toNat = l.length by simp; omega, List.getElem?_concat_length]
theorem oPop_at {m : Mem} {i : Nat} {l : List D} {x : D} (h : m[i]? = some (.lst (l ++ [x]))) : oPop i m = some (.ok x (m.set i (.lst l))) := by
  unfold oPop
  simp [h]
theorem rep_flat1 {α : Type} (n : Nat) (x : α) : (List.replicate n [x]).flatten = List.replicate n x := by
  induction n with
  | zero => rfl
  | succ n ih => rw [List.replicate_succ, List.flatten_cons, ih]; rfl
theorem ixN_nat {n k : Nat} (h : k < n) : ixN n (k : Int) = some k := by
  unfold ixN
  simp; omega
end Z

set_option maxRecDepth 100000
set_option maxHeartbeats 4000000
set_option autoImplicit false
namespace Z
open PySem PySem.Spec PyProof.Rows L2
/-! ### the common divisor of a row, Gauss's lemma -/
def cont (f : List Int) : Int := f.foldl (fun a b => (Int.gcd a b : Int)) 0
theorem foldl_gcd_dvd (f : List Int) : ∀ a : Int, (f.foldl (fun a b => (Int.gcd a b : Int)) a ∣ a) ∧ ∀ x ∈ f, f.foldl (fun a b => (Int.gcd a b : Int)) a ∣ x := by
  induction f with
  | nil => intro a; exact ⟨Int.dvd_refl a, fun x h => by simp at h⟩
  | cons y f ih =>
    intro a
    rw [List.foldl_cons]
    have h := ih (Int.gcd a y : Int)
    refine ⟨Int.dvd_trans h.1 (Int.gcd_dvd_left ..), fun x hx => ?_⟩
    rcases List.mem_cons.1 hx with rfl | hx
    · exact Int.dvd_trans h.1 (Int.gcd_dvd_right ..)
    · exact h.2 x hx
theorem dvd_foldl_gcd (d : Int) (f : List Int) : ∀ a : Int, d ∣ a → (∀ x ∈ f, d ∣ x) → d ∣ f.foldl (fun a b => (Int.gcd a b : Int)) a := by
  induction f with
  | nil => intro a h _; exact h
  | cons y f ih =>
    intro a h hx
    rw [List.foldl_cons]
    exact ih _ (Int.dvd_coe_gcd h (hx y (by simp))) fun x h => hx x (by simp [h])
theorem cont_dvd (f : List Int) (k : Nat) : cont f ∣ co f k := by
  by_cases h : k < f.length
  · rw [co_lt h]; exact (foldl_gcd_dvd f 0).2 _ (List.getElem_mem _)
  · rw [co_ge (by omega)]; exact Int.dvd_zero _
theorem dvd_cont {d : Int} {f : List Int} (h : ∀ k, d ∣ co f k) : d ∣ cont f := by
  refine dvd_foldl_gcd d f 0 (Int.dvd_zero _) fun x hx => ?_
  obtain ⟨i, hi, rfl⟩ := List.mem_iff_getElem.1 hx
  have := h i
  rwa [co_lt hi] at this
theorem cont_nn (f : List Int) : 0 ≤ cont f := by
  unfold cont
  rcases List.eq_nil_or_concat f with rfl | ⟨l, x, rfl⟩
  · simp
  · rw [List.concat_eq_append, List.foldl_append]; simp
theorem cont_eq {f : List Int} {c : Int} (h0 : 0 ≤ c) (h1 : ∀ k, c ∣ co f k) (h2 : ∀ d, (∀ k, d ∣ co f k) → d ∣ c) : cont f = c :=
  Int.dvd_antisymm (cont_nn f) h0 (h2 _ (cont_dvd f)) (dvd_cont h1)
theorem cont_pos {f : List Int} {k : Nat} (h : co f k ≠ 0) : 0 < cont f := by
  have h1 := cont_nn f
  have h2 := cont_dvd f k
  rcases Int.lt_or_le 0 (cont f) with a | a
  · exact a
  · have : cont f = 0 := by omega
    rw [this] at h2
    exact absurd (Int.zero_dvd.1 h2) h
theorem ex_prime : ∀ n : Int, 1 < n → ∃ p, prB p = true ∧ p ∣ n := by
  have key : ∀ (k : Nat) (n : Int), n.toNat = k → 1 < n → ∃ p, prB p = true ∧ p ∣ n := by
    intro k
    induction k using Nat.strongRecOn with
    | ind k ih =>
      intro n hk hn
      by_cases h : prB n = true
      · exact ⟨n, h, Int.dvd_refl n⟩
      · have h' : ¬ (1 < n ∧ ∀ d, 2 ≤ d → d < n → n.fmod d ≠ 0) := fun c => h ((prB_iff n).2 c)
        have h2 : ∃ d, 2 ≤ d ∧ d < n ∧ n.fmod d = 0 := by
          refine Classical.byContradiction fun c => h' ⟨hn, fun d a b e => c ⟨d, a, b, e⟩⟩
        obtain ⟨d, a, b, e⟩ := h2
        obtain ⟨p, hp, hd⟩ := ih d.toNat (by omega) d rfl (by omega)
        exact ⟨p, hp, Int.dvd_trans hd (fmod_dvd.1 e)⟩
  exact fun n => key n.toNat n rfl
theorem prime_mul {p a b : Int} (hp : prB p = true) (h : p ∣ a * b) : p ∣ a ∨ p ∣ b := by
  have h1 := (prB_iff p).1 hp
  have hg : (Int.gcd p b : Int) ∣ p := Int.gcd_dvd_left ..
  have h0 : 0 < Int.gcd p b := Nat.pos_of_ne_zero fun h => by
    have := (Int.gcd_eq_zero_iff.1 h).1
    omega
  rcases prB_dvd hp hg (by omega) with c | c
  · refine .inl ?_
    have hd' := Int.natAbs_dvd_natAbs.2 h
    rw [Int.natAbs_mul] at hd'
    have hc : Nat.Coprime p.natAbs b.natAbs := by
      show Nat.gcd p.natAbs b.natAbs = 1
      exact_mod_cast c
    exact Int.natAbs_dvd_natAbs.1 (hc.dvd_of_dvd_mul_right hd')
  · refine .inr ?_
    have := Int.gcd_dvd_right (a := p) (b := b)
    rwa [c] at this
theorem least_index {P : Nat → Prop} (h : ∃ n, P n) : ∃ n, P n ∧ ∀ k, k < n → ¬ P k := by
  obtain ⟨n, hn⟩ := h
  induction n using Nat.strongRecOn with
  | ind n ih =>
    by_cases c : ∃ k, k < n ∧ P k
    · obtain ⟨k, hk, h⟩ := c
      exact ih k hk h
    · exact ⟨n, hn, fun k hk h => c ⟨k, hk, h⟩⟩
theorem sm_dvd {n : Nat} {f : Nat → Int} {d : Int} (h : ∀ k, k < n → d ∣ f k) : d ∣ sm n f := by
  induction n with
  | zero => exact Int.dvd_zero _
  | succ n ih => rw [sm_succ]; exact Int.dvd_add (ih fun k hk => h k (by omega)) (h n (by omega))
theorem sm_one {n i : Nat} {f : Nat → Int} {d : Int} (hi : i < n) (h : ∀ k, k < n → k ≠ i → d ∣ f k) : d ∣ sm n f - f i := by
  induction n with
  | zero => omega
  | succ n ih =>
    rw [sm_succ]
    by_cases e : i = n
    · subst e
      rw [Int.add_sub_cancel]
      exact sm_dvd fun k hk => h k (by omega) (by omega)
    · have h1 := ih (by omega) fun k hk hn => h k (by omega) hn
      have h2 := h n (by omega) (Ne.symm e)
      rw [show sm n f + f n - f i = (sm n f - f i) + f n by omega]
      exact Int.dvd_add h1 h2
theorem gauss {f g : List Int} (hf : cont f = 1) (hg : cont g = 1) : cont (pmul f g) = 1 := by
  have ne : ∀ {f : List Int} {p : Int}, prB p = true → cont f = 1 → ∃ i, ¬ p ∣ co f i := by
    intro f p hp hf
    refine Classical.byContradiction fun c => ?_
    have : p ∣ cont f := dvd_cont fun k => Classical.byContradiction fun d => c ⟨k, d⟩
    rw [hf] at this
    have := Int.le_of_dvd (by decide) this
    have := (prB_iff p).1 hp
    omega
  have h0 := cont_nn (pmul f g)
  refine Classical.byContradiction fun hne => ?_
  have hp : ∃ p, prB p = true ∧ p ∣ cont (pmul f g) := by
    rcases Int.lt_or_le 1 (cont (pmul f g)) with a | a
    · exact ex_prime _ a
    · exact ⟨2, by decide, by rw [show cont (pmul f g) = 0 by omega]; exact Int.dvd_zero _⟩
  obtain ⟨p, hp, hd⟩ := hp
  obtain ⟨i, hi, hi2⟩ := least_index (ne hp hf)
  obtain ⟨j, hj, hj2⟩ := least_index (ne hp hg)
  have hif : i < f.length := Nat.lt_of_not_le fun c => hi (by rw [co_ge c]; exact Int.dvd_zero _)
  have h1 : p ∣ co (pmul f g) (i + j) := Int.dvd_trans hd (cont_dvd _ _)
  rw [co_pmul] at h1
  have h2 := sm_one (d := p) (n := f.length) (i := i) (f := fun k => if k ≤ i + j then co f k * co g (i + j - k) else 0) hif fun k hk hki => by
    split
    · rcases Nat.lt_or_ge k i with a | a
      · exact Int.dvd_trans (Classical.byContradiction fun c => hi2 k a c) ⟨_, rfl⟩
      · have h3 : p ∣ co g (i + j - k) := Classical.byContradiction fun c => hj2 (i + j - k) (by omega) c
        exact Int.dvd_trans h3 ⟨co f k, Int.mul_comm ..⟩
    · exact Int.dvd_zero _
  have h3 := Int.dvd_sub h1 h2
  have h4 : cv f g (i + j) - (sm f.length (fun k => if k ≤ i + j then co f k * co g (i + j - k) else 0) - (if i ≤ i + j then co f i * co g (i + j - i) else 0)) = co f i * co g j := by
    show sm _ _ - _ = _
    rw [if_pos (Nat.le_add_right ..), Nat.add_sub_cancel_left]; omega
  rw [h4] at h3
  rcases prime_mul hp h3 with c | c
  · exact hi c
  · exact hj c
/-- scaling both -/
theorem cv_scale {f g f' g' : List Int} {a b : Int} (hf : ∀ k, co f k = a * co f' k) (hg : ∀ k, co g k = b * co g' k) (hl : f.length = f'.length) (t : Nat) : cv f g t = a * b * cv f' g' t := by
  unfold cv
  rw [← sm_mul, hl]
  refine sm_congr fun k _ => ?_
  split
  · rw [hf, hg]; grind
  · rw [Int.mul_zero]
theorem cv_lead {f g : List Int} (hf : f ≠ []) (hg : g ≠ []) : cv f g (f.length - 1 + (g.length - 1)) = co f (f.length - 1) * co g (g.length - 1) := by
  have h1 := List.length_pos_iff.2 hf
  have h2 := List.length_pos_iff.2 hg
  unfold cv
  rw [show f.length = f.length - 1 + 1 by omega, sm_succ, sm_eq0, Int.zero_add, if_pos (by omega)]
  · congr 2; omega
  · intro k hk
    split
    · rw [co_ge (l := g) (by omega), Int.mul_zero]
    · rfl
theorem pmul_length {f g : List Int} (hf : f ≠ []) (hg : g ≠ []) (tf : trim f = f) (tg : trim g = g) : (pmul f g).length = f.length + g.length - 1 := by
  have h1 := List.length_pos_iff.2 hf
  have h2 := List.length_pos_iff.2 hg
  have hne : cv f g (f.length - 1 + (g.length - 1)) ≠ 0 := by
    rw [cv_lead hf hg]
    exact Int.mul_ne_zero (trim_last tf hf) (trim_last tg hg)
  refine Nat.le_antisymm ?_ ?_
  · refine Nat.le_of_not_lt fun c => ?_
    have hn : pmul f g ≠ [] := fun e => by rw [e] at c; simp at c
    refine trim_last (pmul_trim f g) hn ?_
    rw [co_pmul]
    exact cv_big (by omega)
  · refine Nat.le_of_not_lt fun c => hne ?_
    rw [← co_pmul, co_ge (by omega)]
/-- made plain: the number in front and the rest -/
def mpS (f : List Int) : Int := if 0 < co f (f.length - 1) then cont f else -cont f
def mpR (f : List Int) : List Int := f.map fun x => x.fdiv (mpS f)
def lead (f : List Int) : Int := co f (f.length - 1)
theorem fdiv_exact {x s : Int} (hs : s ≠ 0) (h : s ∣ x) : x = s * x.fdiv s := by
  have := Int.fmod_add_mul_fdiv x s
  rw [Int.fmod_eq_zero_of_dvd h] at this
  omega
theorem mpS_ne {f : List Int} (tf : trim f = f) (hf : f ≠ []) : mpS f ≠ 0 := by
  have := cont_pos (trim_last tf hf)
  unfold mpS
  split <;> omega
theorem mpS_dvd (f : List Int) (k : Nat) : mpS f ∣ co f k := by
  unfold mpS
  split
  · exact cont_dvd f k
  · exact Int.neg_dvd.2 (cont_dvd f k)
theorem co_mpR {f : List Int} (tf : trim f = f) (hf : f ≠ []) (k : Nat) : co f k = mpS f * co (mpR f) k := by
  unfold mpR
  rw [co_map _ (fun x => x.fdiv (mpS f)) (Int.zero_fdiv _)]
  exact fdiv_exact (mpS_ne tf hf) (mpS_dvd f k)
theorem mpR_len (f : List Int) : (mpR f).length = f.length := by unfold mpR; simp
theorem mpR_lead {f : List Int} (tf : trim f = f) (hf : f ≠ []) : 0 < co (mpR f) (f.length - 1) := by
  have h1 := co_mpR tf hf (f.length - 1)
  have h2 := trim_last tf hf
  have h3 := cont_pos h2
  by_cases c : 0 < co f (f.length - 1)
  · have hs : mpS f = cont f := if_pos c
    rw [hs] at h1
    refine Int.not_le.1 fun d => ?_
    have : cont f * co (mpR f) (f.length - 1) ≤ cont f * 0 := Int.mul_le_mul_of_nonneg_left d (by omega)
    omega
  · have hs : mpS f = -cont f := if_neg c
    rw [hs, Int.neg_mul] at h1
    refine Int.not_le.1 fun d => ?_
    have : cont f * co (mpR f) (f.length - 1) ≤ cont f * 0 := Int.mul_le_mul_of_nonneg_left d (by omega)
    omega
theorem mpR_trim {f : List Int} (tf : trim f = f) (hf : f ≠ []) : trim (mpR f) = mpR f :=
  trim_of_last fun _ => by rw [mpR_len]; have := mpR_lead tf hf; omega
theorem cont_scale {f g : List Int} {s : Int} (h : ∀ k, co f k = s * co g k) : cont f = s.natAbs * cont g := by
  refine cont_eq (Int.mul_nonneg (by omega) (cont_nn g)) (fun k => ?_) fun d hd => ?_
  · rw [h]
    obtain ⟨c, hc⟩ := cont_dvd g k
    rw [hc]
    rcases Int.natAbs_eq s with e | e
    · exact ⟨c, by rw [← e]; grind⟩
    · exact ⟨-c, by rw [show s = -(s.natAbs : Int) from e] ; simp; grind⟩
  · by_cases hs : s = 0
    · subst hs; simp
    · have hgd : ∀ k, d ∣ s * co g k := fun k => by rw [← h]; exact hd k
      have key : ∀ (l : List Int) (a : Int), d ∣ s * a → (∀ x ∈ l, d ∣ s * x) → d ∣ s * l.foldl (fun a b => (Int.gcd a b : Int)) a := by
        intro l
        induction l with
        | nil => intro a h _; exact h
        | cons y l ih =>
          intro a ha hl
          rw [List.foldl_cons]
          refine ih _ ?_ fun x hx => hl x (by simp [hx])
          have h1 := Int.dvd_coe_gcd ha (hl y (by simp))
          rw [Int.gcd_mul_left] at h1
          rcases Int.natAbs_eq s with e | e
          · rw [e]; simpa using h1
          · rw [e, Int.neg_mul]; exact Int.dvd_neg.2 (by simpa using h1)
      have h2 : d ∣ s * cont g := key g 0 (by simp) fun x hx => by
        obtain ⟨i, hi, rfl⟩ := List.mem_iff_getElem.1 hx
        have := hgd i
        rwa [co_lt hi] at this
      rcases Int.natAbs_eq s with e | e
      · rw [← e]; exact h2
      · rw [e, Int.neg_mul] at h2; exact Int.dvd_neg.1 h2
theorem cont_mpR {f : List Int} (tf : trim f = f) (hf : f ≠ []) : cont (mpR f) = 1 := by
  have h1 := cont_scale (co_mpR tf hf)
  have h3 := cont_pos (trim_last tf hf)
  have h2 : ((mpS f).natAbs : Int) = cont f := by unfold mpS; split <;> omega
  rw [h2] at h1
  have h4 : cont f * (cont (mpR f) - 1) = 0 := by rw [Int.mul_sub]; omega
  rcases Int.mul_eq_zero.1 h4 with a | a <;> omega
theorem mp_mul {f g : List Int} (tf : trim f = f) (tg : trim g = g) (hf : f ≠ []) (hg : g ≠ []) : mpS (pmul f g) = mpS f * mpS g ∧ mpR (pmul f g) = pmul (mpR f) (mpR g) := by
  have hl := pmul_length hf hg tf tg
  have h1 := List.length_pos_iff.2 hf
  have h2 := List.length_pos_iff.2 hg
  have hc : ∀ t, co (pmul f g) t = mpS f * mpS g * co (pmul (mpR f) (mpR g)) t := fun t => by
    rw [co_pmul, co_pmul]
    exact cv_scale (co_mpR tf hf) (co_mpR tg hg) (mpR_len f).symm t
  have hg1 := gauss (cont_mpR tf hf) (cont_mpR tg hg)
  have hcont := cont_scale hc
  rw [hg1, Int.mul_one] at hcont
  have rf : mpR f ≠ [] := fun e => hf (List.length_eq_zero_iff.1 (by rw [← mpR_len, e]; rfl))
  have rg : mpR g ≠ [] := fun e => hg (List.length_eq_zero_iff.1 (by rw [← mpR_len, e]; rfl))
  have hlead : co (pmul (mpR f) (mpR g)) (f.length + g.length - 1 - 1) = co (mpR f) (f.length - 1) * co (mpR g) (g.length - 1) := by
    rw [co_pmul]
    have := cv_lead rf rg
    rw [mpR_len, mpR_len] at this
    rw [show f.length + g.length - 1 - 1 = f.length - 1 + (g.length - 1) by omega, this]
  have hpos : 0 < co (pmul (mpR f) (mpR g)) (f.length + g.length - 1 - 1) := by
    rw [hlead]; exact Int.mul_pos (mpR_lead tf hf) (mpR_lead tg hg)
  have hs0 : mpS f * mpS g ≠ 0 := Int.mul_ne_zero (mpS_ne tf hf) (mpS_ne tg hg)
  have hS : mpS (pmul f g) = mpS f * mpS g := by
    unfold mpS
    rw [hl, hc, hcont]
    rcases Int.lt_or_le 0 (mpS f * mpS g) with a | a
    · rw [if_pos (Int.mul_pos a hpos)]; show ((mpS f * mpS g).natAbs : Int) = mpS f * mpS g; omega
    · rw [if_neg (Int.not_lt.2 (Int.mul_nonpos_of_nonpos_of_nonneg a (by omega)))]; show -((mpS f * mpS g).natAbs : Int) = mpS f * mpS g; omega
  refine ⟨hS, ?_⟩
  have hn : pmul f g ≠ [] := fun e => by rw [e] at hl; simp at hl; omega
  refine co_ext (mpR_trim (pmul_trim f g) hn) (pmul_trim _ _) fun k => ?_
  have e1 := co_mpR (pmul_trim f g) hn k
  rw [hc, hS] at e1
  exact (Int.mul_eq_mul_left_iff hs0).1 e1.symm
end Z
namespace Z
open PySem PySem.Spec PyProof.Rows L2
theorem oEqB_loc0 {m : Mem} {i : Nat} {ys : List Int} (h : m[i]? = some (.lst (ys.map D.int))) : oEqB (.loc i) (.lst []) m = some (decide (ys = [])) := by
  have e : oEqB (.loc i) (.lst []) m = oEqD m (.loc i) (.lst []) := rfl
  rw [e]
  have := oEqB_lst ys [] m
  have e2 : oEqB (.lst (ys.map D.int)) (.lst ([].map D.int)) m = oEqD m (.lst (ys.map D.int)) (.lst []) := rfl
  rw [e2] at this
  unfold oEqD at this ⊢
  simp only [deref, h] at this ⊢
  exact this
theorem oNe_loc0 {m : Mem} {i : Nat} {ys : List Int} (h : m[i]? = some (.lst (ys.map D.int))) : oNe (.loc i) (.lst []) m = some (.bl (!decide (ys = []))) := by
  unfold oNe; rw [oEqB_loc0 h]; rfl
end Z
namespace Z
open PySem PySem.Spec PyProof.Rows L2
def tupI (f : List Int) : D := .tup (f.map D.int)
theorem itemsOf_seq {m : Mem} {d : D} {l : List D} (h : seqO m d = some l) (hn : ∀ i, d ≠ .loc i) : itemsOf d m = some (.ok l m) := by
  cases d with
  | tup l' => cases h; rfl
  | lst l' => cases h; rfl
  | ro l' => cases h; rfl
  | loc i => exact absurd rfl (hn i)
  | _ => cases h
/-- how big products of rows grow -/
theorem prod_bd {a c : Nat} (fs : List (List Int)) (h : ∀ f ∈ fs, Bd a f ∧ f.length ≤ 2 ^ c) : ∀ (acc : List Int) (b k : Nat), Bd b acc → acc.length ≤ (k + 1) * 2 ^ c → k + fs.length ≤ 30 → Bd (b + fs.length * (a + c + 5)) (fs.foldl pmul acc) ∧ (fs.foldl pmul acc).length ≤ (k + fs.length + 1) * 2 ^ c := by
  induction fs with
  | nil => intro acc b k h1 h2 _; exact ⟨by simpa using h1, h2⟩
  | cons f fs ih =>
    intro acc b k h1 h2 h3
    rw [List.length_cons] at h3
    have hf := h f (by simp)
    have hl : acc.length ≤ 2 ^ (c + 5) := by
      have : (k + 1) * 2 ^ c ≤ 32 * 2 ^ c := Nat.mul_le_mul_right _ (by omega)
      rw [Nat.pow_add]; omega
    have h4 := Bd.mul h1 hf.1 hl
    have h5 := pmul_len acc f
    have h6 := ih (fun g hg => h g (by simp [hg])) (pmul acc f) (b + a + (c + 5)) (k + 1) h4 (by
      have : (k + 1 + 1) * 2 ^ c = (k + 1) * 2 ^ c + 2 ^ c := by rw [Nat.succ_mul]
      omega) (by omega)
    refine ⟨?_, ?_⟩
    · have := h6.1
      rw [show b + a + (c + 5) + fs.length * (a + c + 5) = b + (fs.length + 1) * (a + c + 5) by rw [Nat.succ_mul]; omega] at this
      exact this
    · have := h6.2
      rw [List.length_cons, List.foldl_cons]
      rw [show k + 1 + fs.length + 1 = k + (fs.length + 1) + 1 by omega] at this
      exact this
def pslope (f : List Int) : List Int := trim ((rng 1 (f.length - 1)).map fun k => k * co f k.toNat)
def isIntD : D → Bool
  | .int _ => true
  | _ => false
def lastNz (l : List D) : Bool := match l.getLast? with
  | some (.int x) => x != 0
  | _ => true
def isPolyD : D → Bool
  | .tup l => l.all isIntD && lastNz l
  | _ => false
theorem all_int {l : List D} (h : l.all isIntD = true) : ∃ xs : List Int, l = xs.map D.int := by
  induction l with
  | nil => exact ⟨[], rfl⟩
  | cons d l ih =>
    rw [List.all_cons, Bool.and_eq_true] at h
    obtain ⟨xs, rfl⟩ := ih h.2
    cases d with
    | int x => exact ⟨x :: xs, rfl⟩
    | _ => simp [isIntD] at h
theorem lastNz_ints (xs : List Int) (x : Int) : lastNz ((xs ++ [x]).map D.int) = (x != 0) := by
  unfold lastNz
  rw [List.map_append, List.map_singleton, List.getLast?_append]; rfl
theorem blsOf_map {α : Type} (f : α → Bool) (l : List α) : blsOf (l.map fun d => D.bl (f d)) = some (l.map f) := by
  induction l with
  | nil => rfl
  | cons a l ih => simp only [List.map_cons, blsOf, ih]
theorem lead_eq {f : List Int} {x : Int} {l : List Int} (h : f = l ++ [x]) : co f (f.length - 1) = x := by
  subst h
  rw [List.length_append, List.length_singleton, Nat.add_sub_cancel, co_app_r (Nat.le_refl _), Nat.sub_self]; rfl
theorem atI_lead {f : List Int} (hf : f ≠ []) : atI (f.map D.int) (-1) = some (.int (co f (f.length - 1))) := by
  rcases List.eq_nil_or_concat f with rfl | ⟨l, x, e⟩
  · exact absurd rfl hf
  · rw [List.concat_eq_append] at e
    rw [lead_eq e, e, List.map_append]
    exact atI_last _ _
/-- any value of plain data is equal to itself -/
theorem eqv_refl_of : ∀ (p : PyData), p.canLay0 = true → PyData.eqv p p = true
  | .none, _ => by simp [PyData.eqv]
  | .bool _, _ => by simp [PyData.eqv]
  | .int _, _ => by simp [PyData.eqv]
  | .str _, _ => by simp [PyData.eqv]
  | .list xs, h => by simp only [PyData.eqv]; rw [PyData.canLay0] at h; exact eqvAll_refl_of xs h
  | .tuple xs, h => by simp only [PyData.eqv]; rw [PyData.canLay0] at h; exact eqvAll_refl_of xs h
  | .dict _, h => by simp [PyData.canLay0] at h
where
  eqvAll_refl_of : ∀ (l : List PyData), PyData.canLayAll0 l = true → PyData.eqvAll l l = true
  | [], _ => by simp [PyData.eqvAll]
  | x :: l, h => by
    rw [PyData.canLayAll0, Bool.and_eq_true] at h
    simp only [PyData.eqvAll, eqv_refl_of x h.1, eqvAll_refl_of l h.2, Bool.and_self]
theorem oEqD_refl {m : Mem} {d : D} {p : PyData} (h : toPy (deref m d) = some p) (hs : SeqAt.shaped p = true) : oEqD m d d = some true := by
  unfold oEqD
  rw [h]
  simp only [hs, Bool.and_self, if_true]
  unfold SeqAt.shaped at hs
  rw [Bool.and_eq_true] at hs
  rw [eqv_refl_of p hs.1]
end Z
namespace Z
open PySem PySem.Spec PyProof.Rows L2
theorem oEq_tup0 (xs : List Int) (m : Mem) : oEq (.tup (xs.map D.int)) (.tup []) m = some (.bl (decide (xs = []))) := by
  have := oEqB_tup xs [] m
  unfold oEq
  rw [show (.tup [] : D) = .tup (([] : List Int).map D.int) from rfl, this]; rfl
theorem oNe_tup0 (xs : List Int) (m : Mem) : oNe (.tup (xs.map D.int)) (.tup []) m = some (.bl (!decide (xs = []))) := by
  have := oEqB_tup xs [] m
  unfold oNe
  rw [show (.tup [] : D) = .tup (([] : List Int).map D.int) from rfl, this]; rfl
theorem oMul_lst1 (d : D) (k : Nat) (m : Mem) (hk : k ≤ 10000000) : oMul (.lst [d]) (.int k) m = some (.lst (List.replicate k d)) := by
  have h : -(2 ^ 63) ≤ (k : Int) ∧ (k : Int) < 2 ^ 63 ∧ ([d] : List D).length * (k : Int).toNat ≤ SL := ⟨by omega, by omega, slLe (by simp; omega)⟩
  unfold oMul
  simp only [asH]
  rw [if_pos h, Int.toNat_natCast, rep_flat1]
end Z
namespace Z
open PySem PySem.Spec PyProof.Rows L2
theorem oEq_tup (xs ys : List Int) (m : Mem) : oEq (.tup (xs.map D.int)) (.tup (ys.map D.int)) m = some (.bl (decide (xs = ys))) := by
  unfold oEq; rw [oEqB_tup]; rfl
theorem oNe_tup (xs ys : List Int) (m : Mem) : oNe (.tup (xs.map D.int)) (.tup (ys.map D.int)) m = some (.bl (!decide (xs = ys))) := by
  unfold oNe; rw [oEqB_tup]; rfl
theorem bd_mpS {f : List Int} {a : Nat} (tf : trim f = f) (hf : f ≠ []) (h : Bd a f) : (mpS f).natAbs < 2 ^ a := by
  have h1 := mpS_dvd f (f.length - 1)
  have h2 := Int.natAbs_dvd_natAbs.2 h1
  have h3 := Nat.le_of_dvd (by have := trim_last tf hf; omega) h2
  have := h (f.length - 1)
  omega
theorem bd_mpR {f : List Int} {a : Nat} (tf : trim f = f) (hf : f ≠ []) (h : Bd a f) : Bd a (mpR f) := fun k => by
  have h1 := co_mpR tf hf k
  have h2 := h k
  rw [h1, Int.natAbs_mul] at h2
  have h3 : 0 < (mpS f).natAbs := by have := mpS_ne tf hf; omega
  exact Nat.lt_of_le_of_lt (Nat.le_mul_of_pos_left _ h3) h2
theorem sim_tupI {m : Mem} (f : List Int) (n : Nat) (hl : f.length ≤ 1000000) : Sim m (n + 2) (.tup (f.map D.int)) (.tup (f.map D.int)) := sim_ints rfl rfl rfl hl
theorem sim_pair {m : Mem} {x y : D} {n : Nat} (hx : Sim m n x x) (hy : Sim m n y y) : Sim m (n + 1) (.tup [x, y]) (.tup [x, y]) := by
  refine .inr ⟨_, _, rfl, rfl, rfl, rfl, by simp, fun i a b ha hb => ?_⟩
  rw [ha] at hb
  cases hb
  match i, ha with
  | 0, ha => cases ha; exact hx
  | 1, ha => cases ha; exact hy
theorem oEq_pair (s : Int) (f : List Int) (m : Mem) : oEq (.tup [.int s, .tup (f.map D.int)]) (.tup [.int s, .tup (f.map D.int)]) m = some (.bl true) := by
  have h : oEqB (.tup [.int s, .tup (f.map D.int)]) (.tup [.int s, .tup (f.map D.int)]) m = oEqD m (.tup [.int s, .tup (f.map D.int)]) (.tup [.int s, .tup (f.map D.int)]) := rfl
  unfold oEq
  rw [h, oEqD_refl (p := .tuple [.int s, .tuple (f.map PyData.int)]) (by simp [deref, toPy, toPyL, toPyL_ints]) (by simp [SeqAt.shaped, PyData.canLay0, PyData.canLayAll0, PyData.depth, PyData.depthAll, sh_ints])]; rfl
end Z

set_option maxRecDepth 100000
set_option maxHeartbeats 2000000
set_option autoImplicit false
namespace Z
open PySem PySem.Spec PyProof.Rows L2
/-! ### fractions -/
def rD (r : Rat) : D := .tup [.int r.num, .int (r.den : Int)]
theorem rat_parts {p q n d s : Int} (hs : s ≠ 0) (hp : p = s * n) (hq : q = s * d) (hd : 0 < d) (hg : Int.gcd n d = 1) : ((p : Rat) / (q : Rat)).num = n ∧ (((p : Rat) / (q : Rat)).den : Int) = d := by
  obtain ⟨k, rfl⟩ := Int.eq_ofNat_of_zero_le (Int.le_of_lt hd)
  have hk : k ≠ 0 := by omega
  have hc : n.natAbs.Coprime k := by
    show Nat.gcd n.natAbs k = 1
    exact hg
  have e : (p : Rat) / (q : Rat) = Rat.divInt n (k : Int) := by
    rw [← Rat.divInt_eq_div, hp, hq, Rat.divInt_mul_left hs]
  have e2 : Rat.divInt n (k : Int) = Rat.mk' n k hk hc := (Rat.mk_eq_divInt ..).symm
  rw [e, e2]
  exact ⟨rfl, rfl⟩
def frS (p q : Int) : Int := if 0 < q then (Int.gcd p q : Int) else -(Int.gcd p q : Int)
theorem frS_ne {p q : Int} (hq : q ≠ 0) : frS p q ≠ 0 := by
  have : Int.gcd p q ≠ 0 := fun h => hq (Int.gcd_eq_zero_iff.1 h).2
  unfold frS
  split <;> omega
theorem frS_parts {p q : Int} (hq : q ≠ 0) : p = frS p q * p.fdiv (frS p q) ∧ q = frS p q * q.fdiv (frS p q) ∧ 0 < q.fdiv (frS p q) ∧ Int.gcd (p.fdiv (frS p q)) (q.fdiv (frS p q)) = 1 := by
  have hs := frS_ne (p := p) hq
  have d1 : frS p q ∣ p := by
    unfold frS
    split
    · exact Int.gcd_dvd_left ..
    · exact Int.neg_dvd.2 (Int.gcd_dvd_left ..)
  have d2 : frS p q ∣ q := by
    unfold frS
    split
    · exact Int.gcd_dvd_right ..
    · exact Int.neg_dvd.2 (Int.gcd_dvd_right ..)
  have e1 := fdiv_exact hs d1
  have e2 := fdiv_exact hs d2
  have ha : (frS p q).natAbs = Int.gcd p q := by unfold frS; split <;> omega
  have hg0 : Int.gcd p q ≠ 0 := fun h => hq (Int.gcd_eq_zero_iff.1 h).2
  refine ⟨e1, e2, ?_, ?_⟩
  · by_cases c : 0 < q
    · have hf : frS p q = Int.gcd p q := if_pos c
      rw [hf] at e2 ⊢
      refine Int.not_le.1 fun h => ?_
      have : (Int.gcd p q : Int) * q.fdiv (Int.gcd p q) ≤ (Int.gcd p q : Int) * 0 := Int.mul_le_mul_of_nonneg_left h (by omega)
      omega
    · have hf : frS p q = -(Int.gcd p q : Int) := if_neg c
      rw [hf] at e2 ⊢
      refine Int.not_le.1 fun h => ?_
      have : (Int.gcd p q : Int) * q.fdiv (-(Int.gcd p q : Int)) ≤ (Int.gcd p q : Int) * 0 := Int.mul_le_mul_of_nonneg_left h (by omega)
      rw [Int.neg_mul] at e2
      omega
  · have h : Int.gcd (frS p q * p.fdiv (frS p q)) (frS p q * q.fdiv (frS p q)) = Int.gcd p q := by rw [← e1, ← e2]
    rw [Int.gcd_mul_left, ha] at h
    exact Nat.eq_of_mul_eq_mul_left (Nat.pos_of_ne_zero hg0) (by omega)
theorem frS_rat {p q : Int} (hq : q ≠ 0) : ((p : Rat) / (q : Rat)).num = p.fdiv (frS p q) ∧ (((p : Rat) / (q : Rat)).den : Int) = q.fdiv (frS p q) := by
  have h := frS_parts (p := p) hq
  exact rat_parts (frS_ne hq) h.1 h.2.1 h.2.2.1 h.2.2.2
theorem rD_frac {p q : Int} (hq : q ≠ 0) : D.tup [.int (p.fdiv (frS p q)), .int (q.fdiv (frS p q))] = rD ((p : Rat) / (q : Rat)) := by
  have h := frS_rat (p := p) hq
  unfold rD
  rw [h.1, h.2]
theorem frS_bits {p q : Int} {a : Nat} (hq : q ≠ 0) (h : q.natAbs < 2 ^ a) : (frS p q).natAbs < 2 ^ a := by
  have h2 : (frS p q).natAbs ∣ q.natAbs := by
    have := (frS_parts (p := p) hq).2.1
    exact Int.natAbs_dvd_natAbs.2 ⟨_, this⟩
  have := Nat.le_of_dvd (by omega) h2
  omega
theorem rat_eq (r : Rat) : (r.num : Rat) / ((r.den : Int) : Rat) = r := by
  have h := Rat.mk_eq_divInt (num := r.num) (den := r.den) (nz := r.den_nz) (c := r.reduced)
  rw [← Rat.divInt_eq_div]
  exact h.symm
theorem den_ne (r : Rat) : ((r.den : Int) : Rat) ≠ 0 := by
  have := r.den_nz
  intro h
  have h' : (r.den : Int) = 0 := Rat.intCast_inj.1 h
  omega
end Z
namespace Z
open PySem PySem.Spec PyProof.Rows L2
def RB (n : Nat) (r : Rat) : Prop := r.num.natAbs < 2 ^ n ∧ r.den < 2 ^ n
theorem RB.up {n m : Nat} {r : Rat} (h : RB n r) (hm : n ≤ m) : RB m r :=
  have := Nat.pow_le_pow_right (n := 2) (by decide) hm
  ⟨Nat.lt_of_lt_of_le h.1 this, Nat.lt_of_lt_of_le h.2 this⟩
theorem RB.frac {n : Nat} {p q : Int} (hq : q ≠ 0) (h1 : p.natAbs < 2 ^ n) (h2 : q.natAbs < 2 ^ n) : RB n ((p : Rat) / (q : Rat)) := by
  have h := frS_parts (p := p) hq
  have e := frS_rat (p := p) hq
  have hs := frS_ne (p := p) hq
  have a : p.natAbs = (frS p q).natAbs * (p.fdiv (frS p q)).natAbs := by rw [← Int.natAbs_mul, ← h.1]
  have b : q.natAbs = (frS p q).natAbs * (q.fdiv (frS p q)).natAbs := by rw [← Int.natAbs_mul, ← h.2.1]
  have c1 : (p.fdiv (frS p q)).natAbs ≤ p.natAbs := by rw [a]; exact Nat.le_mul_of_pos_left _ (by omega)
  have c2 : (q.fdiv (frS p q)).natAbs ≤ q.natAbs := by rw [b]; exact Nat.le_mul_of_pos_left _ (by omega)
  refine ⟨by rw [e.1]; omega, ?_⟩
  have := e.2
  omega
theorem rat_add (a b : Rat) : ((a.num * b.den + b.num * a.den : Int) : Rat) / ((a.den * b.den : Int) : Rat) = a + b := by
  have h1 := rat_eq a
  have h2 := rat_eq b
  have d1 := den_ne a
  have d2 := den_ne b
  rw [Rat.intCast_add, Rat.intCast_mul, Rat.intCast_mul, Rat.intCast_mul]
  generalize hx : (a.num : Rat) = x at *
  generalize hy : ((a.den : Int) : Rat) = y at *
  generalize hz : (b.num : Rat) = z at *
  generalize hw : ((b.den : Int) : Rat) = w at *
  rw [← h1, ← h2]
  grind
theorem rat_mul (a b : Rat) : ((a.num * b.num : Int) : Rat) / ((a.den * b.den : Int) : Rat) = a * b := by
  have h1 := rat_eq a
  have h2 := rat_eq b
  have d1 := den_ne a
  have d2 := den_ne b
  rw [Rat.intCast_mul, Rat.intCast_mul]
  generalize hx : (a.num : Rat) = x at *
  generalize hy : ((a.den : Int) : Rat) = y at *
  generalize hz : (b.num : Rat) = z at *
  generalize hw : ((b.den : Int) : Rat) = w at *
  rw [← h1, ← h2]
  grind
theorem dd_ne (a b : Rat) : (a.den * b.den : Int) ≠ 0 := Int.mul_ne_zero (by have := a.den_nz; omega) (by have := b.den_nz; omega)
theorem RB.add {n m : Nat} {a b : Rat} (ha : RB n a) (hb : RB m b) : RB (n + m + 1) (a + b) := by
  rw [← rat_add]
  have h1 := mul_bits (x := a.num) (y := b.den) ha.1 (by simpa using hb.2)
  have h2 := mul_bits (x := b.num) (y := a.den) hb.1 (by simpa using ha.2)
  have h3 := mul_bits (x := a.den) (y := b.den) (by simpa using ha.2) (by simpa using hb.2)
  rw [Nat.add_comm m n] at h2
  exact RB.frac (dd_ne a b) (by rw [Nat.pow_succ]; omega) (by rw [Nat.pow_succ]; omega)
theorem RB.mul {n m : Nat} {a b : Rat} (ha : RB n a) (hb : RB m b) : RB (n + m) (a * b) := by
  rw [← rat_mul]
  exact RB.frac (dd_ne a b) (mul_bits ha.1 hb.1) (mul_bits (by simpa using ha.2) (by simpa using hb.2))
theorem rD_int (x : Int) : D.tup [.int x, .int 1] = rD (x : Rat) := rfl
theorem RB.int {x : Int} {n : Nat} (h : x.natAbs < 2 ^ n) (hn : 0 < n) : RB n (x : Rat) := ⟨h, by
  show 1 < 2 ^ n
  exact Nat.one_lt_two_pow (by omega)⟩
/-- the value of a row of numbers -/
def evR : List Int → Rat → Rat
  | [], _ => 0
  | a :: f, r => (a : Rat) + r * evR f r
end Z
namespace Z
open PySem PySem.Spec PyProof.Rows L2
theorem evR_snoc0 (f : List Int) (r : Rat) : evR (f ++ [0]) r = evR f r := by
  induction f with
  | nil =>
    show ((0 : Int) : Rat) + r * 0 = 0
    have : ((0 : Int) : Rat) = 0 := rfl
    rw [this]; grind
  | cons a f ih => show (a : Rat) + r * evR (f ++ [0]) r = _; rw [ih]; rfl
theorem evR_trim (f : List Int) (r : Rat) : evR (trim f) r = evR f r := by
  rcases List.eq_nil_or_concat f with rfl | ⟨l, x, rfl⟩
  · rfl
  · by_cases hx : x = 0
    · subst hx
      rw [List.concat_eq_append, trim_snoc0, evR_snoc0]
      exact evR_trim l r
    · rw [List.concat_eq_append, trim_snoc _ hx]
termination_by f.length
decreasing_by simp_all
theorem evR_ext {f g : List Int} (h : ∀ k, co f k = co g k) (r : Rat) : evR f r = evR g r := by
  rw [← evR_trim f, ← evR_trim g, trim_ext h]
def addL : List Int → List Int → List Int
  | [], g => g
  | f, [] => f
  | a :: f, b :: g => (a + b) :: addL f g
theorem co_addL : ∀ (f g : List Int) (k : Nat), co (addL f g) k = co f k + co g k
  | [], g, k => by rw [addL, co_nil, Int.zero_add]
  | a :: f, [], k => by rw [addL, co_nil, Int.add_zero]; intro h; cases h
  | a :: f, b :: g, 0 => rfl
  | a :: f, b :: g, k + 1 => co_addL f g k
theorem evR_addL : ∀ (f g : List Int) (r : Rat), evR (addL f g) r = evR f r + evR g r
  | [], g, r => by rw [addL]; show evR g r = 0 + evR g r; grind
  | a :: f, [], r => by
    have : addL (a :: f) [] = a :: f := rfl
    rw [this]; show _ = evR (a :: f) r + 0; grind
  | a :: f, b :: g, r => by
    show ((a + b : Int) : Rat) + r * evR (addL f g) r = ((a : Rat) + r * evR f r) + ((b : Rat) + r * evR g r)
    rw [evR_addL f g r, Rat.intCast_add]; grind
theorem evR_padd (f g : List Int) (r : Rat) : evR (padd f g) r = evR f r + evR g r := by
  rw [← evR_addL]
  exact evR_ext (fun k => by rw [co_padd, co_addL]) r
theorem evR_map (a : Int) (f : List Int) (r : Rat) : evR (f.map fun y => a * y) r = (a : Rat) * evR f r := by
  induction f with
  | nil => show (0 : Rat) = _ * 0; simp
  | cons b f ih =>
    show ((a * b : Int) : Rat) + r * evR (f.map fun y => a * y) r = (a : Rat) * ((b : Rat) + r * evR f r)
    rw [ih, Rat.intCast_mul]; grind
theorem evR_psc (a : Int) (f : List Int) (r : Rat) : evR (psc a f) r = (a : Rat) * evR f r := by
  unfold psc; rw [evR_trim, evR_map]
def mulL : List Int → List Int → List Int
  | [], _ => []
  | a :: f, g => addL (g.map fun y => a * y) (0 :: mulL f g)
theorem sm_front (n : Nat) (f : Nat → Int) : sm (n + 1) f = f 0 + sm n fun k => f (k + 1) := by
  induction n with
  | zero => rw [sm_succ, sm_zero, sm_zero]; omega
  | succ n ih => rw [sm_succ, ih, sm_succ]; omega
theorem co_mulL : ∀ (f g : List Int) (t : Nat), co (mulL f g) t = cv f g t
  | [], g, t => by rw [mulL, co_nil]; rfl
  | a :: f, g, t => by
    rw [mulL, co_addL, co_map g (fun y => a * y) (Int.mul_zero a)]
    unfold cv
    rw [List.length_cons, sm_front, if_pos (Nat.zero_le _), Nat.sub_zero, show co (a :: f) 0 = a from rfl]
    congr 1
    cases t with
    | zero =>
      rw [show co (0 :: mulL f g) 0 = 0 from rfl]
      exact (sm_eq0 fun k _ => if_neg (by omega)).symm
    | succ t =>
      rw [show co (0 :: mulL f g) (t + 1) = co (mulL f g) t from rfl, co_mulL f g t]
      refine sm_congr fun k _ => ?_
      rw [show co (a :: f) (k + 1) = co f k from rfl]
      by_cases h : k ≤ t
      · rw [if_pos h, if_pos (by omega), show t + 1 - (k + 1) = t - k by omega]
      · rw [if_neg h, if_neg (by omega)]
theorem evR_mulL : ∀ (f g : List Int) (r : Rat), evR (mulL f g) r = evR f r * evR g r
  | [], g, r => by show (0 : Rat) = 0 * _; simp
  | a :: f, g, r => by
    rw [mulL, evR_addL, evR_map]
    show (a : Rat) * evR g r + (((0 : Int) : Rat) + r * evR (mulL f g) r) = ((a : Rat) + r * evR f r) * evR g r
    rw [evR_mulL f g r]
    have : ((0 : Int) : Rat) = 0 := rfl
    rw [this]
    grind
theorem evR_pmul (f g : List Int) (r : Rat) : evR (pmul f g) r = evR f r * evR g r := by
  rw [← evR_mulL]
  exact evR_ext (fun k => by rw [co_pmul, co_mulL]) r
/-- one put into the other -/
def pin : List Int → List Int → List Int
  | [], _ => []
  | a :: f, g => padd (pmul (pin f g) g) (trim [a])
theorem evR_pin : ∀ (f g : List Int) (r : Rat), evR (pin f g) r = evR f (evR g r)
  | [], g, r => rfl
  | a :: f, g, r => by
    rw [pin, evR_padd, evR_pmul, evR_trim, evR_pin f g r]
    show _ + ((a : Rat) + r * 0) = (a : Rat) + evR g r * evR f (evR g r)
    grind
theorem pin_bd {a b : Nat} {g : List Int} (hg : Bd b g) : ∀ (l : List Int), Bd a l → l.length * (g.length + 1) ≤ 64 → Bd (l.length * (a + b + 7)) (pin l g) ∧ (pin l g).length ≤ l.length * (g.length + 1)
  | [], _, _ => ⟨fun k => by rw [show pin [] g = [] from rfl, co_nil]; exact Nat.two_pow_pos _, by simp [pin]⟩
  | x :: l, hl, h => by
    rw [List.length_cons, Nat.succ_mul] at h
    have hl2 : Bd a l := fun k => hl (k + 1)
    have ih := pin_bd hg l hl2 (by omega)
    have h1 : Bd (l.length * (a + b + 7) + b + 6) (pmul (pin l g) g) := Bd.mul ih.1 hg (by omega)
    have h2 : Bd a (trim [x]) := Bd.trim fun k => by
      cases k with
      | zero => exact hl 0
      | succ k => rw [show co [x] (k + 1) = 0 from rfl]; exact Nat.two_pow_pos _
    have h3 := Bd.add h1 h2
    have h4 := pmul_len (pin l g) g
    have h5 := padd_len (pmul (pin l g) g) (trim [x])
    have h6 := trim_len [x]
    rw [List.length_cons, Nat.succ_mul, Nat.succ_mul]
    refine ⟨?_, ?_⟩
    · rw [pin]; exact h3.up (by omega)
    · rw [pin]; simp at h6; omega
end Z
namespace Z
open PySem PySem.Spec PyProof.Rows L2
theorem pow_bits {x : Int} {a : Nat} (h : x.natAbs < 2 ^ a) : ∀ n, (x ^ n).natAbs < 2 ^ (a * n + 1)
  | 0 => by rw [Int.pow_zero, Nat.mul_zero]; decide
  | n + 1 => by
    rw [Int.pow_succ]
    have := mul_bits (pow_bits h n) h
    rw [show a * n + 1 + a = a * (n + 1) + 1 by rw [Nat.mul_succ]; omega] at this
    exact this
/-- stretched: f at x times p / q, freed of fractions -/
def stL (p q : Int) : List Int → List Int
  | [] => []
  | a :: f => (a * q ^ f.length) :: (stL p q f).map fun y => p * y
theorem stL_len (p q : Int) (f : List Int) : (stL p q f).length = f.length := by
  induction f with
  | nil => rfl
  | cons a f ih => rw [stL, List.length_cons, List.length_map, ih, List.length_cons]
theorem co_stL (p q : Int) : ∀ (f : List Int) (k : Nat), k < f.length → co (stL p q f) k = co f k * p ^ k * q ^ (f.length - 1 - k)
  | [], k, h => by simp at h
  | a :: f, 0, h => by
    rw [show co (stL p q (a :: f)) 0 = a * q ^ f.length from rfl, show co (a :: f) 0 = a from rfl, Int.pow_zero, Int.mul_one]; rfl
  | a :: f, k + 1, h => by
    rw [List.length_cons] at h
    have e : co (stL p q (a :: f)) (k + 1) = co ((stL p q f).map fun y => p * y) k := rfl
    rw [e, co_map _ (fun y => p * y) (Int.mul_zero p), co_stL p q f k (by omega), show co (a :: f) (k + 1) = co f k from rfl, Int.pow_succ, List.length_cons, show f.length + 1 - 1 - (k + 1) = f.length - 1 - k by omega]
    generalize p ^ k = u
    generalize q ^ (f.length - 1 - k) = w
    generalize co f k = c
    grind
theorem evR_stL {p q : Int} (hq : (q : Rat) ≠ 0) (r : Rat) : ∀ (f : List Int), f ≠ [] → evR (stL p q f) r = ((q ^ (f.length - 1) : Int) : Rat) * evR f (r * ((p : Rat) / (q : Rat)))
  | [], h => absurd rfl h
  | [a], _ => by
    show ((a * q ^ 0 : Int) : Rat) + r * 0 = ((q ^ 0 : Int) : Rat) * ((a : Rat) + _ * 0)
    rw [Int.pow_zero, Int.mul_one]
    have : ((1 : Int) : Rat) = 1 := rfl
    rw [this]
    grind
  | a :: b :: f, _ => by
    have ih := evR_stL (p := p) hq r (b :: f) (by simp)
    show ((a * q ^ (b :: f).length : Int) : Rat) + r * evR ((stL p q (b :: f)).map fun y => p * y) r = _
    rw [evR_map, ih]
    show _ = _ * ((a : Rat) + (r * ((p : Rat) / (q : Rat))) * evR (b :: f) (r * ((p : Rat) / (q : Rat))))
    generalize evR (b :: f) (r * ((p : Rat) / (q : Rat))) = v
    rw [show (a :: b :: f).length - 1 = (b :: f).length by simp, show (b :: f).length = f.length + 1 by simp, show f.length + 1 - 1 = f.length by omega, Int.pow_succ, Rat.intCast_mul, Rat.intCast_mul]
    generalize ((q ^ f.length : Int) : Rat) = w
    generalize (q : Rat) = y at *
    grind
/-- turned round: the value at 1 / x -/
theorem evR_snoc (f : List Int) (x : Int) (r : Rat) : evR (f ++ [x]) r = evR f r + (x : Rat) * r ^ f.length := by
  induction f with
  | nil => show (x : Rat) + r * 0 = 0 + (x : Rat) * r ^ 0; grind
  | cons a f ih =>
    show (a : Rat) + r * evR (f ++ [x]) r = ((a : Rat) + r * evR f r) + (x : Rat) * r ^ (f.length + 1)
    rw [ih]
    grind
theorem evR_reverse {r : Rat} (hr : r ≠ 0) : ∀ (f : List Int), f ≠ [] → evR f.reverse r = r ^ (f.length - 1) * evR f (1 / r)
  | [], h => absurd rfl h
  | [a], _ => by show (a : Rat) + r * 0 = r ^ 0 * ((a : Rat) + _ * 0); grind
  | a :: b :: f, _ => by
    have ih := evR_reverse hr (b :: f) (by simp)
    rw [List.reverse_cons, evR_snoc, ih]
    show _ = _ * ((a : Rat) + (1 / r) * evR (b :: f) (1 / r))
    generalize evR (b :: f) (1 / r) = v
    rw [List.length_reverse, show (a :: b :: f).length - 1 = f.length + 1 by simp, show (b :: f).length = f.length + 1 by simp, show f.length + 1 - 1 = f.length by omega]
    have : r ^ (f.length + 1) = r ^ f.length * r := by grind
    rw [this]
    generalize r ^ f.length = w
    grind
end Z

set_option maxRecDepth 100000
set_option maxHeartbeats 4000000
set_option autoImplicit false
namespace Z
open PySem PySem.Spec PyProof.Rows L2

/-! ### a written dict of numbers by words, read at once -/
def kvsC (tbl : List (Str × Int)) : List (L2.Key × V) := tbl.map fun kv => (Sum.inr kv.1, V.int kv.2)
def lookD (tbl : List (Str × Int)) (z : Str) : Option Int := (tbl.find? fun kv => decide (kv.1 = z)).map (·.2)
def trsC (tbl : List (Str × Int)) : List (TE × TE) := tbl.map fun kv => (tC (.str kv.1), tC (.int kv.2))
def strV (o : Option (Option D)) (k : Str → Option (Out D)) : Option (Out D) := match o with
  | some (some (.str z)) => k z
  | _ => none
def pGetV (tbl : List (Str × Int)) (i : Nat) (d : Int) : PEF := fun e m => strV e[i]? fun z => some (.ok (.int ((lookD tbl z).getD d)) m)
def pInC (tbl : List (Str × Int)) (i : Nat) : PEF := fun e m => strV e[i]? fun z => some (.ok (.bl (lookD tbl z).isSome) m)
def pIxC (tbl : List (Str × Int)) (i : Nat) : PEF := fun e m => strV e[i]? fun z => match lookD tbl z with
  | some v => some (.ok (.int v) m)
  | none => none
theorem strV_some {o : Option (Option D)} {k : Str → Option (Out D)} {r : Out D} (h : strV o k = some r) : ∃ z, o = some (some (.str z)) ∧ k z = some r := by
  unfold strV at h
  split at h
  · exact ⟨_, rfl, h⟩
  · cases h
theorem tPairs_C : ∀ (tbl : List (Str × Int)) {σ : L2.St} {H : Hp} {R : List (V × V) → Hp → Prop}, R (tbl.map fun kv => (V.str kv.1, V.int kv.2)) H → tPairs (trsC tbl) σ H R
  | [], _, _, _, h => h
  | kv :: tbl, σ, H, R, h => by
    show tPairs (trsC tbl) σ H fun ps H3 => R ((V.str kv.1, V.int kv.2) :: ps) H3
    exact tPairs_C tbl h
theorem valV_C (tbl : List (Str × Int)) (z : Str) : valV (kvsC tbl) (Sum.inr z) = (lookD tbl z).map V.int := by
  induction tbl with
  | nil => rfl
  | cons kv tbl ih =>
    by_cases h : kv.1 = z
    · rw [show kvsC (kv :: tbl) = (Sum.inr kv.1, V.int kv.2) :: kvsC tbl from rfl, valV_pos (by rw [h])]
      simp [lookD, h]
    · rw [show kvsC (kv :: tbl) = (Sum.inr kv.1, V.int kv.2) :: kvsC tbl from rfl, valV_neg (fun e => h (Sum.inr.inj e)), ih]
      simp [lookD, h]
section
variable {X : Cx} {W : WX}
theorem me_getV {i : Nat} {x : Str} {p1 dpos apos cpos : Pos} {keys : List (Option Expr)} {vals : List Expr} {f : Expr} {tbl : List (Str × Int)} {d : Int}
    (hu : X.A.units + 1 < cLine) (hp : PPs X dpos keys vals (trsC tbl)) (hf : PE X f (tC (.int d)))
    (hN : X.N[i]? = some x := by rfl) (hv : Vis X.env.scope x := by first | exact Or.inl rfl | exact Or.inr (Or.inl rfl) | exact Or.inr (Or.inr rfl)) (hd : (x == ("__debug__" : Str)) = false := by decide)
    (hcd : (x == ("__classdict__" : Str)) = false := by decide) (hall : keys.all (·.isSome) = true := by rfl) (hl : keys.length = vals.length := by rfl) (h0 : keys ≠ [] := by exact fun z => by cases z) (h15 : keys.length ≤ 15 := by decide)
    (hmg : mergeK [] (kvsC tbl) = kvsC tbl := by kernel_rfl) (ht : tbl.length ≤ 15 := by decide) (m : M2 X (.Dict keys vals dpos) "get" apos (.Name x p1) f cpos := by exact ⟨rfl, rfl, rfl, rfl⟩) :
    ME X W (.Call (.Attribute (.Dict keys vals dpos) "get" apos) [.Name x p1, f] [] cpos) (pGetV tbl i d) :=
  PE.imp (pe_dget2 hu (pe_disp hp hall hl h0 h15) (pe_var hN hv hd hcd) hf m) fun σ H Q ⟨w, m, e, r, g, ev, h, q⟩ => by
    obtain ⟨z, hz, h⟩ := strV_some h
    cases h
    obtain ⟨v, h1, h2⟩ := ev.2 i _ hz
    obtain rfl := rep_str h2
    intro p hp
    refine tPairs_C tbl ⟨upd_same, kvsC tbl, ?_, ?_, ?_⟩
    · simp [kvsC, kV]
    · simpa [kvsC] using ht
    · rw [hmg, upd_upd]
      refine ⟨p, rfl, .inl ⟨_, .inl upd_same⟩, _, h1, _, DGet.k (k := Sum.inr z) upd_same, ?_⟩
      rw [valV_C]
      have e : ((lookD tbl z).map V.int).getD (.int d) = V.int ((lookD tbl z).getD d) := by cases lookD tbl z <;> rfl
      rw [e]
      exact q w _ _ (g.new hp) (Ext.new g hp) (by simp only [Rep])
/-- the module's written dict -/
structure ConD (K : PySem.W.Frag) (w0 : World) (mg : Str → Option Value) (x : Str) (tbl : List (Str × Int)) : Prop where
  ex : ∃ (a : Addr) (es : Array DictEntry) (n : Nat), mg x = some (.ref a) ∧ KDict K w0 a es n ∧ ∀ z, (∀ i, lookD tbl z = some i → ∃ u, PySem.W.nsIn K a z = some (some u) ∧ RelV (.int i) u) ∧ (lookD tbl z = none → PySem.W.nsIn K a z = some none)
theorem me_inC {i : Nat} {x g : Str} {p1 p2 pos : Pos} {tbl : List (Str × Int)} (c : ConD X.K X.w X.mg g tbl) (hg : Gl X g)
    (hN : X.N[i]? = some x := by rfl) (hv : Vis X.env.scope x := by first | exact Or.inl rfl | exact Or.inr (Or.inl rfl) | exact Or.inr (Or.inr rfl)) (hd : (x == ("__debug__" : Str)) = false := by decide)
    (hcd : (x == ("__classdict__" : Str)) = false := by decide) (hd2 : (g == ("__debug__" : Str)) = false := by decide) (hm : behindInMarks .In (.Name g p2) = false := by rfl) :
    ME X W (.Compare (.Name x p1) [.In] [.Name g p2] pos) (pInC tbl i) := by
  obtain ⟨a, es, n, hmg, kd, hk⟩ := c.ex
  refine PE.imp (pe_cmpR (op_in_kd kd) (pe_var hN hv hd hcd) (pe_glob hg hmg (v := .ref a) rfl hd2) hm) fun σ H Q ⟨w, m, e, r, gd, ev, h, q⟩ => ?_
  obtain ⟨z, hz, h⟩ := strV_some h
  cases h
  obtain ⟨v, h1, h2⟩ := ev.2 i _ hz
  obtain rfl := rep_str h2
  refine ⟨_, h1, ?_⟩
  cases hl : lookD tbl z with
  | none => exact ⟨z, none, rfl, rfl, (hk z).2 hl, q w _ H gd Ext.refl (by simp only [Rep, hl]; rfl)⟩
  | some k =>
    obtain ⟨u, hu, _⟩ := (hk z).1 k hl
    exact ⟨z, some u, rfl, rfl, hu, q w _ H gd Ext.refl (by simp only [Rep, hl]; rfl)⟩
theorem me_ixC {i : Nat} {x g : Str} {p1 p2 pos : Pos} {tbl : List (Str × Int)} (c : ConD X.K X.w X.mg g tbl) (hg : Gl X g)
    (hN : X.N[i]? = some x := by rfl) (hv : Vis X.env.scope x := by first | exact Or.inl rfl | exact Or.inr (Or.inl rfl) | exact Or.inr (Or.inr rfl)) (hd : (x == ("__debug__" : Str)) = false := by decide)
    (hcd : (x == ("__classdict__" : Str)) = false := by decide) (hd2 : (g == ("__debug__" : Str)) = false := by decide) (hs : PlainIx (.Name x p1) := by exact fun _ _ => rfl) :
    ME X W (.Subscript (.Name g p2) (.Name x p1) pos) (pIxC tbl i) := by
  obtain ⟨a, es, n, hmg, kd, hk⟩ := c.ex
  refine PE.imp (pe_ix ix_kdict (pe_glob hg hmg (v := .ref a) rfl hd2) (pe_var hN hv hd hcd) hs) fun σ H Q ⟨w, m, e, r, gd, ev, h, q⟩ => ?_
  obtain ⟨z, hz, h⟩ := strV_some h
  obtain ⟨v, h1, h2⟩ := ev.2 i _ hz
  obtain rfl := rep_str h2
  cases hl : lookD tbl z with
  | none => rw [hl] at h; cases h
  | some k =>
    rw [hl] at h
    cases h
    obtain ⟨u, hu, hr⟩ := (hk z).1 k hl
    exact ⟨_, h1, a, z, _, rfl, rfl, ⟨es, n, u, kd.at_, kd.lit, hu, hr⟩, q w _ H gd Ext.refl (by simp only [Rep])⟩
theorem pe_negC {k : Int} {j} {p1 pos : Pos} : PE X (.UnaryOp .USub (.Constant (.int k) j p1) pos) (tC (.int (-k))) := PE.imp (pe_un un_neg pe_int) fun σ H Q h => ⟨k, rfl, h⟩
end
/-! simp rows -/
@[simp] theorem strV_str (z : Str) (k : Str → Option (Out D)) : strV (some (some (.str z))) k = k z := id rfl
@[simp] theorem pGetV_app (tbl : List (Str × Int)) (i : Nat) (d : Int) (e : Ev) (m : Mem) : pGetV tbl i d e m = strV e[i]? fun z => some (.ok (.int ((lookD tbl z).getD d)) m) := id rfl
@[simp] theorem pInC_app (tbl : List (Str × Int)) (i : Nat) (e : Ev) (m : Mem) : pInC tbl i e m = strV e[i]? fun z => some (.ok (.bl (lookD tbl z).isSome) m) := id rfl
def ixO (o : Option Int) (m : Mem) : Option (Out D) := match o with
  | some v => some (.ok (.int v) m)
  | none => none
@[simp] theorem ixO_s (v : Int) (m : Mem) : ixO (some v) m = some (.ok (.int v) m) := id rfl
@[simp] theorem pIxC_app (tbl : List (Str × Int)) (i : Nat) (e : Ev) (m : Mem) : pIxC tbl i e m = strV e[i]? fun z => ixO (lookD tbl z) m := id rfl
end Z
namespace Z
open PySem PySem.Spec PyProof.Rows L2
section
variable {X : Cx} {W : WX}
theorem mt_inC {i : Nat} {x g : Str} {p1 p2 pos : Pos} {tbl : List (Str × Int)} (c : ConD X.K X.w X.mg g tbl) (hg : Gl X g)
    (hN : X.N[i]? = some x := by rfl) (hv : Vis X.env.scope x := by first | exact Or.inl rfl | exact Or.inr (Or.inl rfl) | exact Or.inr (Or.inr rfl)) (hd : (x == ("__debug__" : Str)) = false := by decide)
    (hcd : (x == ("__classdict__" : Str)) = false := by decide) (hd2 : (g == ("__debug__" : Str)) = false := by decide) (hm : behindInMarks .In (.Name g p2) = false := by rfl) :
    MT X W (.Compare (.Name x p1) [.In] [.Name g p2] pos) (pTst (pInC tbl i)) := by
  obtain ⟨a, es, n, hmg, kd, hk⟩ := c.ex
  refine PT.imp (pt_cmpR (op_in_kd kd) (pe_var hN hv hd hcd) (pe_glob hg hmg (v := .ref a) rfl hd2) hm) fun σ H Q ⟨w, m, e, r, gd, ev, h, q⟩ => ?_
  unfold pTst at h
  cases hz : e[i]? with
  | none => rw [pInC, hz] at h; cases h
  | some o =>
    cases o with
    | none => rw [pInC, hz] at h; cases h
    | some d =>
      rw [pInC, hz] at h
      cases d with
      | str z =>
        cases h
        obtain ⟨v, h1, h2⟩ := ev.2 i _ hz
        obtain rfl := rep_str h2
        refine ⟨_, h1, ?_⟩
        cases hl : lookD tbl z with
        | none =>
          rw [hl] at q
          exact ⟨z, none, rfl, rfl, (hk z).2 hl, _, rfl, q w H gd Ext.refl⟩
        | some k =>
          rw [hl] at q
          obtain ⟨u, hu, _⟩ := (hk z).1 k hl
          exact ⟨z, some u, rfl, rfl, hu, _, rfl, q w H gd Ext.refl⟩
      | _ => cases h
def pNone : PEF := fun _ _ => none
def sNone : PSF := fun _ _ => none
/-- what is not reached -/
theorem me_none {e : Expr} : ME X W e pNone := ⟨fun pins s σ H Q I ⟨_, _, _, _, _, _, h, _⟩ => by cases h⟩
theorem ms_none {st : Stmt} : MS X W st sNone := ⟨fun pins s σ H D I ⟨_, _, _, _, _, _, h, _⟩ => by cases h⟩
end
def keyS (e : DictEntry) : Option Str := match e.key with
  | .str x _ => some x
  | _ => none
def keysB (K : PySem.W.Frag) (a : Addr) (ks : List Str) : Bool := match K.lookup a with
  | some ⟨_, _, .dict es _, _⟩ => decide (es.toList.map keyS = ks.map some)
  | _ => false
theorem nsIn_out {K : PySem.W.Frag} {a : Addr} {ks : List Str} {z : Str} (h : keysB K a ks = true) (hz : z ∉ ks) : PySem.W.nsIn K a z = some none := by
  unfold keysB at h
  unfold PySem.W.nsIn
  split at h
  · rename_i es n sl q
    rw [q]
    have h := of_decide_eq_true h
    have key : ∀ e ∈ es.toList, ∃ x t, e.key = .str x t ∧ x ∈ ks := fun e he => by
      have h1 : keyS e ∈ es.toList.map keyS := List.mem_map_of_mem he
      rw [h] at h1
      obtain ⟨x, hx, h2⟩ := List.mem_map.1 h1
      unfold keyS at h2
      split at h2
      · rename_i y t hy
        cases h2
        exact ⟨_, _, hy, hx⟩
      · cases h2
    have f0 : es.toList.find? (·.key.isStr z) = none := by
      rw [List.find?_eq_none]
      intro e he hs
      obtain ⟨x, t, hx, hk⟩ := key e he
      rw [hx] at hs
      have : x = z := by simpa [Value.isStr] using hs
      exact hz (this ▸ hk)
    have r0 : es.toList.any (·.refKey) = false := by
      rw [List.any_eq_false]
      intro e he
      obtain ⟨x, t, hx, hk⟩ := key e he
      simp [DictEntry.refKey, hx]
    simp [f0, r0]
  · cases h
theorem conD_of {K : PySem.W.Frag} {w0 : World} {mg : Str → Option Value} {x : Str} {tbl : List (Str × Int)} (hm : mg x = some (.ref (He.ga K x))) (hk : ∃ es n, KDict K w0 (He.ga K x) es n)
    (h1 : keysB K (He.ga K x) (tbl.map (·.1)) = true) (h2 : He.valsB K (He.ga K x) (tbl.map fun kv => (kv.1, He.Dv.int kv.2)) = true) : ConD K w0 mg x tbl := by
  obtain ⟨es, n, hk⟩ := hk
  refine ⟨_, es, n, hm, hk, fun z => ⟨fun i hi => ?_, fun hn => ?_⟩⟩
  · unfold lookD at hi
    cases hf : tbl.find? (fun kv => decide (kv.1 = z)) with
    | none => rw [hf] at hi; cases hi
    | some kv =>
      rw [hf] at hi
      cases hi
      have hz : kv.1 = z := by have := List.find?_some hf; simpa using this
      have hmem := List.mem_of_find?_eq_some hf
      obtain ⟨u, hu, hr⟩ := He.valsB_ok h2 (List.mem_map_of_mem (f := fun kv : Str × Int => (kv.1, He.Dv.int kv.2)) hmem)
      rw [← hz]
      exact ⟨u, hu, hr⟩
  · refine nsIn_out h1 fun hz => ?_
    obtain ⟨kv, hmem, rfl⟩ := List.mem_map.1 hz
    unfold lookD at hn
    have : tbl.find? (fun k => decide (k.1 = kv.1)) = none := by
      cases hf : tbl.find? (fun k => decide (k.1 = kv.1)) with
      | none => rfl
      | some _ => rw [hf] at hn; cases hn
    rw [List.find?_eq_none] at this
    exact this kv hmem (decide_eq_true rfl)
theorem hu1 {k : Nat} {A : Around} (r : Room k A) : A.units + 1 < cLine := by have := r.un; omega
/-! rows for slices, words -/
theorem cutD_1 (a : D) (r : List D) : cutD (a :: r) (some 1) none = r := by
  unfold cutD
  have h : HT.sIx (a :: r).length 0 (some 1) = 1 := by
    simp [HT.sIx]
    try omega
  have h2 : HT.sIx (a :: r).length (a :: r).length none = (a :: r).length := rfl
  rw [h, h2]
  simp
end Z

set_option maxRecDepth 100000
set_option maxHeartbeats 4000000
set_option autoImplicit false
namespace Z
open PySem PySem.Spec PyProof.Rows L2

/-! ### values at large: how deep, how long -/
def Ok (A : D → Prop) (L : Nat) : Nat → D → Prop
  | n + 1, .tup l => l.length ≤ L ∧ ∀ x ∈ l, Ok A L n x
  | n + 1, .lst l => l.length ≤ L ∧ ∀ x ∈ l, Ok A L n x
  | 0, .tup _ => False
  | 0, .lst _ => False
  | _, .ro _ => False
  | _, .loc _ => False
  | _, .non => A .non
  | _, .bl b => A (.bl b)
  | _, .int i => A (.int i)
  | _, .str s => A (.str s)
section
variable {A B : D → Prop} {L M : Nat}
theorem Ok.tup {n : Nat} {l : List D} (h : Ok A L n (.tup l)) : l.length ≤ L ∧ ∃ k, n = k + 1 ∧ ∀ x ∈ l, Ok A L k x := by
  cases n with
  | zero => exact h.elim
  | succ n => exact ⟨h.1, n, rfl, h.2⟩
theorem Ok.lst {n : Nat} {l : List D} (h : Ok A L n (.lst l)) : l.length ≤ L ∧ ∃ k, n = k + 1 ∧ ∀ x ∈ l, Ok A L k x := by
  cases n with
  | zero => exact h.elim
  | succ n => exact ⟨h.1, n, rfl, h.2⟩
theorem Ok.mono (hA : ∀ d, A d → B d) (hL : L ≤ M) : ∀ {n k : Nat} {d : D}, n ≤ k → Ok A L n d → Ok B M k d
  | n, k, .tup l, hn, h => by
    obtain ⟨h1, j, rfl, h2⟩ := h.tup
    obtain ⟨i, rfl⟩ : ∃ i, k = i + 1 := ⟨k - 1, by omega⟩
    exact ⟨by omega, fun x hx => Ok.mono hA hL (by omega) (h2 x hx)⟩
  | n, k, .lst l, hn, h => by
    obtain ⟨h1, j, rfl, h2⟩ := h.lst
    obtain ⟨i, rfl⟩ : ∃ i, k = i + 1 := ⟨k - 1, by omega⟩
    exact ⟨by omega, fun x hx => Ok.mono hA hL (by omega) (h2 x hx)⟩
  | n, k, .ro _, hn, h => by cases n <;> exact h.elim
  | n, k, .loc _, hn, h => by cases n <;> exact h.elim
  | n, k, .non, hn, h => by cases n <;> cases k <;> exact hA _ h
  | n, k, .bl _, hn, h => by cases n <;> cases k <;> exact hA _ h
  | n, k, .int _, hn, h => by cases n <;> cases k <;> exact hA _ h
  | n, k, .str _, hn, h => by cases n <;> cases k <;> exact hA _ h
theorem Ok.int {n : Nat} {i : Int} : Ok A L n (.int i) ↔ A (.int i) := by cases n <;> exact Iff.rfl
theorem Ok.str {n : Nat} {i : Str} : Ok A L n (.str i) ↔ A (.str i) := by cases n <;> exact Iff.rfl
theorem Ok.non {n : Nat} : Ok A L n .non ↔ A .non := by cases n <;> exact Iff.rfl
theorem Ok.bl {n : Nat} {b : Bool} : Ok A L n (.bl b) ↔ A (.bl b) := by cases n <;> exact Iff.rfl
theorem Ok.mk {n : Nat} {l : List D} (h : l.length ≤ L) (hx : ∀ x ∈ l, Ok A L n x) : Ok A L (n + 1) (.tup l) := ⟨h, hx⟩
theorem Ok.mkL {n : Nat} {l : List D} (h : l.length ≤ L) (hx : ∀ x ∈ l, Ok A L n x) : Ok A L (n + 1) (.lst l) := ⟨h, hx⟩
end
/-- going in: small numbers, short texts; coming out -/
def Ai : D → Prop
  | .int i => i.natAbs < 2 ^ 1000
  | .str s => PyData.strOk s = true ∧ s.length ≤ 1000
  | _ => True
def At : D → Prop
  | .str s => PyData.strOk s = true
  | _ => True
theorem Ai.at {d : D} (h : Ai d) : At d := by
  cases d with
  | str s => exact h.1
  | _ => trivial
theorem strOk_of (s : String) : PyData.strOk (Str.ofString s) = true := by
  rw [Str.ofString_eq_toList]
  unfold PyData.strOk
  rw [Array.all_eq_true']
  intro c hc
  obtain ⟨ch, _, rfl⟩ := List.mem_map.1 (List.mem_toArray.1 hc)
  have := ch.valid
  have h : ch.toNat = ch.val.toNat := rfl
  rw [h]
  rcases this with h | h <;> simp <;> omega
theorem strOk_app {a b : Str} (ha : PyData.strOk a = true) (hb : PyData.strOk b = true) : PyData.strOk (a ++ b) = true := by
  unfold PyData.strOk at *
  show (a.cps ++ b.cps).all _ = true
  rw [Array.all_append, ha, hb]; rfl
mutual
theorem Ok.py {L : Nat} : ∀ {n : Nat} {d : D}, Ok At L n d → ∃ p, toPy d = some p ∧ p.canLay0 = true ∧ p.depth ≤ n
  | n, .tup l, h => by
    obtain ⟨_, k, rfl, h2⟩ := h.tup
    obtain ⟨ps, h3, h4, h5⟩ := okL_py h2
    exact ⟨.tuple ps, by simp only [toPy, h3], h4, by simp only [PyData.depth]; omega⟩
  | n, .lst l, h => by
    obtain ⟨_, k, rfl, h2⟩ := h.lst
    obtain ⟨ps, h3, h4, h5⟩ := okL_py h2
    exact ⟨.list ps, by simp only [toPy, h3], h4, by simp only [PyData.depth]; omega⟩
  | n, .ro _, h => by cases n <;> exact h.elim
  | n, .loc _, h => by cases n <;> exact h.elim
  | n, .non, h => ⟨_, rfl, rfl, by simp [PyData.depth]⟩
  | n, .bl _, h => ⟨_, rfl, rfl, by simp [PyData.depth]⟩
  | n, .int _, h => ⟨_, rfl, rfl, by simp [PyData.depth]⟩
  | n, .str _, h => ⟨_, rfl, by have := Ok.str.1 h; exact this, by simp [PyData.depth]⟩
theorem okL_py {L : Nat} : ∀ {n : Nat} {l : List D}, (∀ x ∈ l, Ok At L n x) → ∃ ps, toPyL l = some ps ∧ PyData.canLayAll0 ps = true ∧ PyData.depthAll ps ≤ n
  | n, [], h => ⟨[], rfl, rfl, by simp [PyData.depthAll]⟩
  | n, d :: l, h => by
    obtain ⟨p, h1, h2, h3⟩ := Ok.py (h d (List.mem_cons_self ..))
    obtain ⟨ps, h4, h5, h6⟩ := okL_py fun x hx => h x (List.mem_cons_of_mem _ hx)
    exact ⟨p :: ps, by simp only [toPyL, h1, h4], by simp only [PyData.canLayAll0, h2, h5]; rfl, by simp only [PyData.depthAll]; omega⟩
end
theorem cutD_len (l : List D) (lo hi : Option Int) : (cutD l lo hi).length ≤ l.length := by
  unfold cutD
  rw [List.length_take, List.length_drop]
  omega
theorem cutD_mem {l : List D} {lo hi : Option Int} {x : D} (h : x ∈ cutD l lo hi) : x ∈ l := List.mem_of_mem_drop (List.mem_of_mem_take h)
def mpD (f : List Int) : D := if f = [] then .tup [.int 0, .tup []] else .tup [.int (mpS f), tupI (mpR f)]
end Z

set_option maxRecDepth 100000
set_option maxHeartbeats 4000000
set_option autoImplicit false
namespace Z
open PySem PySem.Spec PyProof.Rows L2
theorem oIsNot_int (k : Int) (m : Mem) : oIsNot (.int k) .non m = some (.bl true) := rfl
theorem oIsNot_non (m : Mem) : oIsNot .non .non m = some (.bl false) := rfl
def isNonD : D → Bool
  | .non => true
  | _ => false
theorem oIs_non (d : D) (m : Mem) : oIs d .non m = some (.bl (isNonD d)) := by cases d <;> rfl
def nnD : D → Bool
  | .int i => decide (0 ≤ i)
  | _ => false
theorem all_lc (f : D → Bool) (l : List D) (m : Mem) : oAll [.lst ((l.filter fun _ => true).map fun d => .bl (f d))] m = some (.bl (l.all f)) := by
  rw [List.filter_eq_self.2 (fun _ _ => rfl)]
  simp only [oAll, asL, blsOf_map, List.all_map]; rfl
theorem cnt_lc (f : D → Bool) (l : List D) : decide ((((l.filter fun d => !f d).map fun d => d).length : Int) = 0) = l.all f := by
  rw [List.map_id']
  by_cases h : l.all f = true
  · rw [h]
    have h0 : (l.filter fun d => !f d) = [] := List.filter_eq_nil_iff.2 fun d hd => by
      have := List.all_eq_true.1 h d hd
      simp [this]
    rw [h0]; rfl
  · have h1 : (l.filter fun d => !f d) ≠ [] := fun c => h (List.all_eq_true.2 fun d hd => by
      have := List.filter_eq_nil_iff.1 c d hd
      simpa using this)
    have h2 := List.length_pos_iff.2 h1
    have h3 : l.all f = false := by simpa using h
    rw [h3, decide_eq_false]
    omega
def numsD (k : Int) : D → Bool
  | .tup l => decide ((l.length : Int) = k) && l.all isIntD
  | _ => false
def frD : D → Bool
  | .tup [.int p, .int q] => decide (0 < q) && decide (Int.gcd p q = 1)
  | _ => false
theorem oNe_str (a b : Str) (m : Mem) : oNe (.str a) (.str b) m = some (.bl (!decide (a = b))) := rfl
theorem dec_comm (a b : Str) : decide (a = b) = decide (b = a) := by rw [Bool.eq_iff_iff]; simp; exact eq_comm
theorem beq_dec (a b : Str) : (a == b) = decide (a = b) := by rw [Bool.eq_iff_iff]; simp
theorem oIn_str2 (w a b : Str) (m : Mem) (hw : PyData.strOk w = true) (ha : PyData.strOk a = true) (hb : PyData.strOk b = true) : oIn (.str w) (.tup [.str a, .str b]) m = some (.bl (decide (w = a) || decide (w = b))) := by
  unfold oIn oInB
  simp only [deref, toPy, toPyL, inL]
  simp [PyData.canLay0, PyData.canLayAll0, hw, ha, hb, PyData.depth, PyData.eqv, toBl, beq_dec]
  rw [dec_comm a w, dec_comm b w]
theorem oInt_bl (b : Bool) (m : Mem) : oInt [.bl b] m = some (.int (b2i b)) := by cases b <;> rfl
theorem cut01 (a : D) (r : List D) : cutD (a :: r) none (some 1) = [a] := by
  have := cutD_take (a :: r) 1
  simpa using this
theorem polyD_of {f : List Int} (tf : trim f = f) : isPolyD (.tup (f.map D.int)) = true := by
  have ha : (f.map D.int).all isIntD = true := by simp [isIntD]
  simp only [isPolyD, ha, Bool.true_and]
  rcases List.eq_nil_or_concat f with rfl | ⟨zs, z, rfl⟩
  · rfl
  · rw [List.concat_eq_append] at *
    have hz := trim_last tf (by simp)
    have : co (zs ++ [z]) ((zs ++ [z]).length - 1) = z := by simp [co]
    rw [this] at hz
    rw [lastNz_ints]
    simpa using hz
theorem lt1000 {n : Nat} (h : n < 2 ^ 10) : n < 2 ^ 1000 := Nat.lt_of_lt_of_le h (Nat.pow_le_pow_right (by decide) (by decide))
theorem aiS (s : String) (h : (Str.ofString s).length ≤ 1000) {L n : Nat} : Ok Ai L n (.str (Str.ofString s)) := Ok.str.2 ⟨strOk_of s, h⟩
theorem aiI {i : Int} (h : i.natAbs < 2 ^ 10) {L n : Nat} : Ok Ai L n (.int i) := Ok.int.2 (Nat.lt_of_lt_of_le h (Nat.pow_le_pow_right (by decide) (by decide)))
theorem ok_tup {L n : Nat} {l : List D} (h : l.length ≤ L) (hx : ∀ x ∈ l, Ok Ai L n x) : Ok Ai L (n + 1) (.tup l) := ⟨h, hx⟩

def Ab : D → Prop
  | .int i => i.natAbs < 2 ^ 2000
  | .str s => PyData.strOk s = true
  | _ => True
theorem Ai.ab {d : D} (h : Ai d) : Ab d := by
  cases d with
  | int i => exact Nat.lt_of_lt_of_le h (Nat.pow_le_pow_right (by decide) (by decide))
  | str s => exact h.1
  | _ => trivial
theorem Ab.at {d : D} (h : Ab d) : At d := by
  cases d with
  | str s => exact h
  | _ => trivial
theorem ab_near {i j : Int} (h : i.natAbs < 2 ^ 1000) (hj : j.natAbs ≤ i.natAbs + 9) : j.natAbs < 2 ^ 2000 := by
  have h2 : 2 ^ 1000 + 9 ≤ 2 ^ 2000 := by
    have : (2 : Nat) ^ 2000 = 2 ^ 1000 * 2 ^ 1000 := by rw [← Nat.pow_add]
    rw [this]
    generalize hx : (2 : Nat) ^ 1000 = x
    have h9 : 2 ^ 10 ≤ x := by rw [← hx]; exact Nat.pow_le_pow_right (by decide) (by decide)
    have := Nat.mul_le_mul_right x h9
    omega
  omega
theorem ab_small {j : Int} (hj : j.natAbs ≤ 1000) : j.natAbs < 2 ^ 2000 := Nat.lt_of_lt_of_le (show j.natAbs < 2 ^ 10 by omega) (Nat.pow_le_pow_right (by decide) (by decide))
theorem ab_mul {i j : Int} (h : Ab (.int i)) (k : Ab (.int j)) : mulFits i j = true := mulF_b (n := 2000) (by decide) h k

/-! != of a list and the empty one, whatever the list holds -/
def oNeL : VK2 := fun a b m => match asL m a, b with
  | some l, .lst [] => some (.bl (!l.isEmpty))
  | _, _ => none
section
variable {X : Cx}
theorem op_oNeL (hu : X.A.units < cLine) : OpR X (compareOp .NotEq) (r2of X oNeL) := by
  intro pins s σ H x y v u Q I rx ry h
  obtain ⟨w, m, d, e, r, g, hx, hy, h, q⟩ := h
  unfold oNeL at h
  split at h
  · rename_i l hl
    cases h
    obtain ⟨a, xs, rfl, ha, hr⟩ := asL_rep g hx hl
    obtain ⟨b, ys, rfl, hb, hr2⟩ := asL_rep g hy (l := []) rfl
    cases rx
    cases ry
    obtain ⟨its, r1, p1, z1⟩ := I.list ha
    obtain ⟨its2, r2, p2, z2⟩ := I.list hb
    have l1 := hr.len
    have l2 := hr2.len
    have n1 := r1.length
    have n2 := r2.length
    have hq := q w _ H g Ext.refl (by simp only [Rep]; rfl)
    have e2 : its2.toArray.size = 0 := by simp only [List.size_toArray, List.length_nil] at *; omega
    cases l with
    | nil =>
      exact SeqAt.RcNeAt.lists (e := fun _ => true) p1.isList p2.isList (by simp only [List.size_toArray, List.length_nil] at *; omega) hu (fun j h1 h2 => absurd h2 (by rw [e2]; omega)) _ _ _ _ ⟨.bl false, H, I, by
        have : its.toArray.size = 0 := by simp only [List.size_toArray, List.length_nil] at *; omega
        rw [this]; rfl, hq⟩
    | cons c l =>
      exact SeqAt.RcNeAt.lists_lengths p1.isList p2.isList (by simp only [List.size_toArray, List.length_nil, List.length_cons] at *; simp; omega) hu _ _ _ _ ⟨.bl true, H, I, rfl, hq⟩
  · cases h
end
mutual
def szD : D → Nat
  | .tup l => szL l + 1
  | .lst l => szL l + 1
  | .ro l => szL l + 1
  | _ => 1
def szL : List D → Nat
  | [] => 0
  | d :: l => szD d + szL l
end
def wlFuel (i : Nat) : Ev → Mem → Nat := fun e m => match e[i]? with
  | some (some (.loc j)) => (match m[j]? with
    | some (.lst l) => szL l + 1
    | _ => 0)
  | _ => 0
theorem szL_app (a b : List D) : szL (a ++ b) = szL a + szL b := by
  induction a with
  | nil => simp [szL]
  | cons d a ih => simp only [List.cons_append, szL, ih]; omega
theorem szD_pos (d : D) : 0 < szD d := by cases d <;> simp [szD]
end Z

set_option maxRecDepth 100000
set_option maxHeartbeats 4000000
set_option autoImplicit false
namespace Z
open PySem PySem.Spec PyProof.Rows L2
/-! < of pairs of a number and a row of numbers -/
def keyLt (i : Int) (ns : List Int) (j : Int) (ms : List Int) : Bool := if i = j then HT.lexLt ns ms else decide (i < j)
def oLtK : VK2 := fun a b _ => match a, b with
  | .tup [.int i, .tup l], .tup [.int j, .tup r] => match intsOf l, intsOf r with
    | some ns, some ms => some (.bl (keyLt i ns j ms))
    | _, _ => none
  | _, _ => none
theorem lexLt_self : ∀ ns : List Int, HT.lexLt ns ns = false
  | [] => rfl
  | x :: xs => by simp only [HT.lexLt, if_true]; exact lexLt_self xs
section
variable {X : Cx}
theorem op_oLtK (hu : X.A.units + 64 < cLine) : OpR X (compareOp .Lt) (r2of X oLtK) := by
  intro pins s σ H x y v u Q I rx ry h
  obtain ⟨w, m, d, e, r, g, hx, hy, h, q⟩ := h
  unfold oLtK at h
  split at h
  · rename_i i l j r'
    split at h
    · rename_i ns ms h1 h2
      cases h
      obtain ⟨a, xs, rfl, ha, hl⟩ := asT_rep hx rfl
      obtain ⟨b, ys, rfl, hb, hr⟩ := asT_rep hy rfl
      obtain ⟨v1, v2, rfl, rv1, rv2⟩ := repL2 hl
      obtain ⟨u1, u2, rfl, ru1, ru2⟩ := repL2 hr
      obtain rfl := rep_int rv1
      obtain rfl := rep_int ru1
      have dp1 : Dp X.K H v2 (.tuple (ns.map PyData.int)) := toPy_dp rv2 (by rw [intsOf_eq h1]; simp only [toPy, toPyL_ints])
      have dp2 : Dp X.K H u2 (.tuple (ms.map PyData.int)) := toPy_dp ru2 (by rw [intsOf_eq h2]; simp only [toPy, toPyL_ints])
      obtain ⟨a2, xs2, rfl, ha2, hl2⟩ := asT_rep rv2 rfl
      obtain ⟨b2, ys2, rfl, hb2, hr2⟩ := asT_rep ru2 rfl
      rw [intsOf_eq h1] at hl2
      rw [intsOf_eq h2] at hr2
      rw [hl2.ints] at ha2
      rw [hr2.ints] at hb2
      cases rx
      cases ry
      obtain ⟨its, r1, p1, _⟩ := I.tuple ha
      obtain ⟨its2, r2, p2, _⟩ := I.tuple hb
      obtain ⟨itsA, rA, pA, _⟩ := I.tuple ha2
      obtain ⟨itsB, rB, pB, _⟩ := I.tuple hb2
      have iA : IntsAre itsA.toArray.toList ns := intsAre_of rA
      have iB : IntsAre itsB.toArray.toList ms := intsAre_of rB
      cases r1 with
      | cons c1 r1 =>
        cases r1 with
        | cons c2 r1 =>
          cases r1
          cases r2 with
          | cons d1 r2 =>
            cases r2 with
            | cons d2 r2 =>
              cases r2
              obtain ⟨t1, rfl⟩ := c1
              obtain ⟨t2, rfl⟩ := d1
              obtain rfl := c2
              obtain rfl := d2
              have hu1 : X.A.in1.units < cLine := by show X.A.units + 1 < cLine; omega
              obtain ⟨as1, rd1⟩ := Dp.reads I _ _ _ dp1 (show RelV (.ref a2) (.ref a2) from rfl)
              obtain ⟨as2, rd2⟩ := Dp.reads I _ _ _ dp2 (show RelV (.ref b2) (.ref b2) from rfl)
              have hev : PyData.eqv (.tuple (ns.map PyData.int)) (.tuple (ms.map PyData.int)) = decide (ns = ms) := by simp [PyData.eqv, eqv_ints]
              have c1 : PyData.canLay0 (.tuple (ns.map PyData.int)) = true := by simp [PyData.canLay0, sh_ints]
              have c2 : PyData.canLay0 (.tuple (ms.map PyData.int)) = true := by simp [PyData.canLay0, sh_ints]
              have e1 : SeqAt.EqAt X.A.in1 s (.ref a2) (.ref b2) (decide (ns = ms)) := by
                rw [← hev]
                have hdp : min (PyData.depth (.tuple (ns.map PyData.int))) (PyData.depth (.tuple (ms.map PyData.int))) ≤ 1 := by
                  simp [PyData.depth, sh_ints]
                exact SeqAt.eqAt_reads _ _ _ _ _ _ _ _ rd1 rd2 c1 c2 (by
                  show X.A.units + 1 + min (PyData.depth (.tuple (ns.map PyData.int))) (PyData.depth (.tuple (ms.map PyData.int))) < cLine
                  omega)
              have res := Ob.RcOp.tuples_lt (A := X.A) (s := s) (e := fun k => if k = 0 then decide (i = j) else decide (ns = ms)) (r := fun k => if k = 0 then decide (i < j) else HT.lexLt ns ms) p1 p2 (by omega)
                (fun k h1 h2 => match k, h1, h2 with
                  | 0, _, _ => SeqAt.EqAt.int_int i t1 j t2
                  | 1, _, _ => e1
                  | k + 2, h, _ => absurd h (by simp))
                (fun k h1 h2 _ => match k, h1, h2 with
                  | 0, _, _ => Ob.RcOp.lt_int i j t1 t2
                  | 1, _, _ => fun prog w E Q h => HT.lt_tupInts pA pB iA iB hu1 h
                  | k + 2, h, _ => absurd h (by simp))
              refine res _ _ _ _ ⟨.bl (keyLt i ns j ms), H, I, ?_, q w _ H g Ext.refl (by simp only [Rep])⟩
              show Value.bool _ = Value.bool _
              congr 1
              simp only [keyLt]
              by_cases hij : i = j
              · by_cases hnm : ns = ms
                · subst hij hnm
                  simp [Ob.lexAt, lexLt_self]
                · simp [Ob.lexAt, hij, hnm]
              · simp [Ob.lexAt, hij]
    · cases h
  · cases h
end
end Z

set_option maxRecDepth 100000
set_option maxHeartbeats 4000000
set_option autoImplicit false
namespace Z
open PySem PySem.Spec PyProof.Rows L2

/-! ### raise -/
/-- a class of errors without own __init__ -/
structure ExcT (K : PySem.W.Frag) (mg : Str → Option Value) (c : Str) : Prop where
  ex : ∃ C, mg c = some (.ref C) ∧ PySem.W.excIn K C He.veBase "ValueError.__new__" = true ∧ PySem.W.keepIn K (.ref C) = true ∧ PySem.W.subIn K (.ref C) (.type "BaseException") = some true ∧ PySem.W.typeIn K (.ref C) = some (.type "type")
/-- c's errors are caught by 'except p' -/
structure ExcM (K : PySem.W.Frag) (mg : Str → Option Value) (c p : Str) (b : Bool) : Prop where
  ex : ∃ C P, mg c = some (.ref C) ∧ mg p = some (.ref P) ∧ PySem.W.exmOne K (.ref C) (.ref P) = some b
/-- isinstance of one of c's errors -/
structure ExcQ (K : PySem.W.Frag) (mg : Str → Option Value) (c d : Str) (b : Bool) : Prop where
  ex : ∃ C D, mg c = some (.ref C) ∧ mg d = some (.ref D) ∧ ExcC K C ∧ PySem.W.kitOne K (.ref C) (.ref D) = some b
def excCB (K : PySem.W.Frag) (D : Addr) : Bool :=
  decide (PySem.W.findIn K (.ref D) "__getattribute__" = some (some (.builtin "BaseException.__getattribute__"))) && (decide (PySem.W.findIn K (.ref D) "__getattr__" = some none) && (decide (PySem.W.subIn K (.ref D) (.type "BaseException") = some true) && (PySem.W.hasDictIn K D &&
    (decide (PySem.W.findIn K (.ref D) "__class__" = some (some (.builtin "object.__class__"))) && (decide (PySem.W.specialIn K (.builtin "object.__class__") "__get__" = some (some (.builtin "getset_descriptor.__get__"))) &&
      (decide (PySem.W.takesIn K (.builtin "object.__class__") = some true) && decide (PySem.W.mroIn K D (.type "object") = some true)))))))
theorem excCB_ok {K : PySem.W.Frag} {D : Addr} (h : excCB K D = true) : ExcC K D := by
  unfold excCB at h
  obtain ⟨h1, h⟩ := He.ba h
  obtain ⟨h2, h⟩ := He.ba h
  obtain ⟨h3, h⟩ := He.ba h
  obtain ⟨h4, h⟩ := He.ba h
  obtain ⟨h5, h⟩ := He.ba h
  obtain ⟨h6, h⟩ := He.ba h
  obtain ⟨h7, h8⟩ := He.ba h
  exact ⟨of_decide_eq_true h1, of_decide_eq_true h2, of_decide_eq_true h3, h4, of_decide_eq_true h5, of_decide_eq_true h6, of_decide_eq_true h7, of_decide_eq_true h8⟩
def excQB (K : PySem.W.Frag) (c d : Str) (b : Bool) : Bool := excCB K (He.ga K c) && decide (PySem.W.kitOne K (.ref (He.ga K c)) (.ref (He.ga K d)) = some b)
theorem excQ_of {K : PySem.W.Frag} {mg : Str → Option Value} {c d : Str} {b : Bool} (h1 : mg c = some (.ref (He.ga K c))) (h2 : mg d = some (.ref (He.ga K d))) (h : excQB K c d b = true) : ExcQ K mg c d b := by
  obtain ⟨q1, q2⟩ := He.ba h
  exact ⟨_, _, h1, h2, excCB_ok q1, of_decide_eq_true q2⟩
theorem excT_of {K : PySem.W.Frag} {mg : Str → Option Value} {c : Str} (h1 : mg c = some (.ref (He.ga K c))) (h : (He.Fa.exc c).ok K = true) : ExcT K mg c := by
  obtain ⟨q1, q2, q3, q4⟩ := He.exc_ok h
  exact ⟨_, h1, q1, q2, q3, q4⟩
theorem excM_of {K : PySem.W.Frag} {mg : Str → Option Value} {c p : Str} {b : Bool} (h1 : mg c = some (.ref (He.ga K c))) (h2 : mg p = some (.ref (He.ga K p))) (h : (He.Fa.exm c p b).ok K = true) : ExcM K mg c p b := ⟨_, _, h1, h2, He.exm_ok h⟩
def sRaise (c : Str) (p : PEF) : PSF := fun e m => bndS (p e m) e fun _ m1 => some (.exc c e m1)
section
variable {X : Cx} {W : WX} {e : Expr} {pe : PEF}
theorem ms_raise {c : Str} {p pos pos2 : Pos} (T : ExcT X.K X.mg c) (hc : X.calm = true) (tk : Takes X W) (hg : Gl X c) (he : ME X W e pe) (hs : starEach [e] X.env = (false, eval e X.env) :: starEach [] X.env := by rfl) (hdb : (c == ("__debug__" : Str)) = false := by decide) :
    MS X W (.Raise (some (.Call (.Name c p) [e] [] pos2)) none pos) (sRaise c pe) := by
  obtain ⟨C, h1, h2, h3, h4, h5⟩ := T.ex
  refine PS.imp (ps_raise hc tk (SkE.pmk_own1 PySem.F.excBase_ValueError h2 h1 h3 (raises_own h4 h5) hg he hs hdb)) fun D σ H ⟨w, m, ev', r, g, ev, h, q⟩ => ?_
  refine tM_bndS g ev h q fun d1 m1 w1 v1 H1 hh1 g1 x1 r1 ev1 q1 => ?_
  cases hh1
  exact q1 w1 σ H1 C g1 Ext.refl ev1 h1
end

/-! ### try .. except x as n: return [..] -/
def sv : D → V
  | .bl b => .bl b
  | .int i => .int i
  | .str s => .str s
  | _ => .non
def isSc : D → Bool
  | .bl _ => true
  | .int _ => true
  | .str _ => true
  | .non => true
  | _ => false
theorem sv_rep {K : PySem.W.Frag} {w : Wd} {H : Hp} : ∀ {d : D}, isSc d = true → Rep K w H d (sv d)
  | .bl _, _ => by simp only [Rep, sv]
  | .int _, _ => by simp only [Rep, sv]
  | .str _, _ => by simp only [Rep, sv]
  | .non, _ => by simp only [Rep, sv]
  | .tup _, h => nomatch h
  | .lst _, h => nomatch h
  | .ro _, h => nomatch h
  | .loc _, h => nomatch h
theorem sv_repL {K : PySem.W.Frag} {w : Wd} {H : Hp} : ∀ {l : List D}, l.all isSc = true → RepL K w H l (l.map sv)
  | [], _ => RepL.nil
  | d :: l, h => by
    rw [List.all_cons, Bool.and_eq_true] at h
    exact RepL.cons (sv_rep h.1) (sv_repL h.2)
/-- an expression of the suite whose value is known; the caught error a stands in slot i -/
abbrev tSV (i : Nat) (a : Addr) (v : V) : TE := fun σ H Q => σ[i]? = some (some (.ref a)) ∧ Q v H
abbrev tSVs (i : Nat) (a : Addr) (vs : List V) : TA := fun σ H Q => σ[i]? = some (some (.ref a)) ∧ Q vs H
abbrev tSR (i : Nat) (a : Addr) (vs : List V) : TS := fun D σ H => σ[i]? = some (some (.ref a)) ∧ ∀ p, H p = none → D.rt (.ref p) (upd H p (.lst vs))
section
variable {X : Cx} {i : Nat} {a : Addr}
theorem su_str {x : Str} {j} {pos : Pos} : PE X (.Constant (.str x) j pos) (tSV i a (.str x)) := PE.imp pe_str fun _ _ _ h => h.2
theorem su_bl {x : Bool} {j} {pos : Pos} : PE X (.Constant (.bool x) j pos) (tSV i a (.bl x)) := PE.imp pe_bl fun _ _ _ h => h.2
theorem su_isE {pn : List (Addr × Obj)} {oe : Obj} {c d n : Str} {b : Bool} {p1 p2 p3 pos : Pos} (Q : ExcQ X.K X.mg c d b) {C : Addr} (hC : X.mg c = some (.ref C)) (hz : Zc (.ref C) none oe) (hf : ∃ vs, oe.data = .fields vs)
    (hN : X.N[i]? = some n) (hg : Gl X "isinstance") (hm : X.mg "isinstance" = none) (hgd : Gl X d) (hv : Vis X.env.scope n := by first | exact Or.inl rfl | exact Or.inr (Or.inl rfl) | exact Or.inr (Or.inr rfl)) (hd : (n == ("__debug__" : Str)) = false := by decide)
    (hcd : (n == ("__classdict__" : Str)) = false := by decide) (hdb : (d == ("__debug__" : Str)) = false := by decide)
    (he : starEach [.Name n p1, .Name d p2] X.env = (false, eval (.Name n p1) X.env) :: starEach [.Name d p2] X.env := by rfl) (hpl : (backTo pos (starEach [.Name d p2] X.env)).any (·.1) = false := by rfl) :
    PE (X.suite a ((a, oe) :: pn)) (.Call (.Name "isinstance" p3) [.Name n p1, .Name d p2] [] pos) (tSV i a (.bl b)) := by
  obtain ⟨C', D, q1, q2, q3, q4⟩ := Q.ex
  rw [hC] at q1
  cases q1
  refine PE.imp (pe_callB (X := X.suite a ((a, oe) :: pn)) (call_isE (X := X) (pn := pn) q3 hz hf) hg hm PyProof.Rows.boot_isinstance (pa_cons (X := X.suite a ((a, oe) :: pn)) (pe_var (X := X.suite a ((a, oe) :: pn)) hN hv hd hcd) (pa_cons (X := X.suite a ((a, oe) :: pn)) (pe_glob (X := X.suite a ((a, oe) :: pn)) (v := .ref D) hgd q2 rfl hdb) pa_nil) he) (by decide) (by decide) he hpl) fun σ H Q h => ?_
  exact ⟨.ref a, h.1, .ref D, .ref D, b, rfl, fun u hu => hu, q4, h.2⟩
theorem su_nil : PA X [] (tSVs i a []) := ⟨fun pos pins s σ H Q I h => pa_nil.run pos pins s σ H Q I h.2⟩
theorem su_cons {e : Expr} {es : List Expr} {v : V} {vs : List V} (ha : PE X e (tSV i a v)) (hr : PA X es (tSVs i a vs)) (hs : starEach (e :: es) X.env = (false, eval e X.env) :: starEach es X.env := by rfl) : PA X (e :: es) (tSVs i a (v :: vs)) :=
  PA.imp (pa_cons ha hr hs) fun σ H Q h => ⟨h.1, h.1, h.2⟩
theorem su_ret {es : List Expr} {vs : List V} {pos pos' : Pos} (h : PA X es (tSVs i a vs)) (hl : vs.length ≤ 100) : PSs X [.Return (some (.List es pos)) pos'] (tSR i a vs) :=
  PSs.imp (pss_one (ps_ret (pe_lst h))) fun D σ H q => ⟨q.1, Nat.le_trans hl (by rw [← SL_eq]; decide), q.2⟩
end
/-- what each class's error is answered with -/
def Rows (X : Cx) (P : Str) (i : Nat) (st : List Stmt) : List (Str × List D) → Prop
  | [] => True
  | (c, l) :: r => (l.all isSc = true ∧ ExcM X.K X.mg c P true ∧ ∀ (C a : Addr) (oe : Obj) (pn : List (Addr × Obj)), X.mg c = some (.ref C) → Zc (.ref C) none oe → (∃ vs, oe.data = .fields vs) → PSs (X.suite a ((a, oe) :: pn)) st (tSR i a (l.map sv))) ∧ Rows X P i st r
theorem Rows.of {X : Cx} {P : Str} {i : Nat} {st : List Stmt} {c : Str} {l : List D} : ∀ {t : List (Str × List D)}, Rows X P i st t → t.lookup c = some l →
    l.all isSc = true ∧ ExcM X.K X.mg c P true ∧ ∀ (C a : Addr) (oe : Obj) (pn : List (Addr × Obj)), X.mg c = some (.ref C) → Zc (.ref C) none oe → (∃ vs, oe.data = .fields vs) → PSs (X.suite a ((a, oe) :: pn)) st (tSR i a (l.map sv))
  | [], _, h => by cases h
  | (c', l') :: r, h, e => by
    rw [List.lookup_cons] at e
    split at e
    · rename_i hc
      cases e
      have : c = c' := eq_of_beq hc
      subst this
      exact h.1
    · exact Rows.of h.2 e
def sTry (t : List (Str × List D)) (p : PSF) : PSF := fun e m => match p e m with
  | some (.exc c e' m') => match t.lookup c with
    | some l => some (.rt (.lst l) m')
    | none => none
  | r => r
section
variable {X : Cx} {W : WX} {p : PSF}
theorem ms_try {i : Nat} {x n : Str} {body suite : List Stmt} {b₀ : Stmt} {np pos pos' : Pos} {t : List (Str × List D)} (hs : X.stack = X.env :: X.outer) (hf : X.env.frame = some X.env.locals) (hN : X.N.Nodup) (hi : X.N[i]? = some n) (hln : X.env.kindOf n = some .local)
    (hgx : Gl X x) (tk : Takes X W) (hx : ∃ P, X.mg x = some (.ref P))
    (hb : ∀ (W' : WX) (pn : List (Addr × Obj)) (xe : Value → Shared → Prop), Takes (X.tr pn xe) W' → PassesOwn (model X.prog X.w) X.A X.env xe → MSs (X.tr pn xe) W' body p)
    (hr : Rows X x i (b₀ :: suite) t) (hdb : (x == ("__debug__" : Str)) = false := by decide) :
    MS X W (.Try body [.ExceptHandler (some (.Name x np)) (some n) (b₀ :: suite) pos'] [] [] pos) (sTry t p) := by
  obtain ⟨P, hP⟩ := hx
  refine PS.imp (ps_try_as (tb := fun W' => tS X W' p)
    (ts := fun a cls d D σ H => ∃ (C : Addr) (c : Str) (l : List Z.D) (σ0 : L2.St), cls = .ref C ∧ d = none ∧ X.mg c = some (.ref C) ∧ t.lookup c = some l ∧ σ = σ0.set i (some (.ref a)) ∧ ∀ q, H q = none → D.rt (.ref q) (upd H q (.lst (l.map sv))))
    hs hf hN hi hln ⟨hgx, hdb, .inl hP⟩ tk (fun W' pn xe h1 h2 => hb W' pn xe h1 h2) fun a oe cls d pn hz hfl => ⟨fun pins s σ H Q I h => ?_⟩) fun D σ H ⟨w, m, ev', r, g, ev, h, q⟩ => ?_
  · obtain ⟨C, c, l, σ0, rfl, rfl, hc, hl, rfl, q⟩ := h
    obtain ⟨_, _, h3⟩ := hr.of hl
    refine (h3 C a oe pn hc hz hfl).run pins s _ H Q I ⟨?_, q⟩
    have hlen : (σ0.set i (some (V.ref a))).length = X.N.length := I.len
    rw [List.length_set] at hlen
    exact List.getElem?_set_self (by rw [hlen]; exact (List.getElem?_eq_some_iff.mp hi).1)
  · unfold sTry at h
    show tS X (wAs X.K (.ref P) i _ W D) p D σ H
    cases hp : p ev' m with
    | none => rw [hp] at h; cases h
    | some u =>
      rw [hp] at h
      cases u with
      | nx e1 m1 => cases h; exact ⟨w, m, ev', _, g, ev, hp, q⟩
      | rt d m1 => cases h; exact ⟨w, m, ev', _, g, ev, hp, q⟩
      | bk e1 m1 => cases h; exact ⟨w, m, ev', _, g, ev, hp, q⟩
      | ct e1 m1 => cases h; exact ⟨w, m, ev', _, g, ev, hp, q⟩
      | exc c e1 m1 =>
        refine ⟨w, m, ev', _, g, ev, hp, fun w' σ' H' C g' x' ev2 hc => ?_⟩
        simp only at h
        split at h
        · rename_i l hl
          cases h
          obtain ⟨h1, h2, _⟩ := hr.of hl
          obtain ⟨C', P', z1, z2, z3⟩ := h2.ex
          rw [hc] at z1; cases z1
          rw [hP] at z2; cases z2
          refine ⟨true, z3, fun _ a na => ⟨C, c, l, σ', rfl, rfl, hc, hl, rfl, fun q' hq => ?_⟩, fun z => nomatch z⟩
          exact q (w'.fzn q') _ _ (g'.newF hq) (x'.trans ((Ext.new g' hq).trans Ext.fzn)) (new_lst g' hq (sv_repL h1))
        · cases h
end
end Z

set_option maxRecDepth 100000
set_option maxHeartbeats 4000000
set_option autoImplicit false
namespace Z
open PySem PySem.Spec PyProof.Rows L2

/-! ### methods of texts -/
def strsOf : List D → Option (List Str)
  | [] => some []
  | .str s :: l => match strsOf l with
    | some r => some (s :: r)
    | none => none
  | _ => none
theorem strsOf_eq : ∀ {l : List D} {ys : List Str}, strsOf l = some ys → l = ys.map D.str
  | [], _, h => by simp only [strsOf] at h; cases h; rfl
  | d :: l, ys, h => by
    cases d with
    | str s =>
      simp only [strsOf] at h
      split at h
      · rename_i r hr
        cases h
        rw [List.map_cons, ← strsOf_eq hr]
      · cases h
    | _ => simp only [strsOf] at h; cases h
theorem strsOf_map : ∀ ys : List Str, strsOf (ys.map D.str) = some ys
  | [] => rfl
  | y :: r => by simp only [List.map_cons, strsOf, strsOf_map r]
theorem repL_strs {K : PySem.W.Frag} {w : Wd} {H : Hp} : ∀ {ys : List Str} {xs : List V}, RepL K w H (ys.map D.str) xs → xs = ys.map V.str
  | [], _, h => RepL.nil_iff.mp h
  | n :: r, _, h => by
    obtain ⟨v, t, rfl, h1, h2⟩ := RepL.cons_iff.mp h
    rw [List.map_cons, ← repL_strs h2, rep_str h1]
theorem repL_of_strs {K : PySem.W.Frag} {w : Wd} {H : Hp} : ∀ {ys : List Str}, RepL K w H (ys.map D.str) (ys.map V.str)
  | [] => RepL.nil
  | n :: r => RepL.cons (by simp only [Rep]) repL_of_strs
def pM1 (o : VK2) (p q : PEF) : PEF := fun e m => bnd (p e m) fun d1 m1 => match d1 with
  | .str a => bnd (q e m1) fun d2 m2 => lift1 (o (.str a) d2 m2) m2
  | _ => none
def oPart : VK2 := fun a b _ => match a, b with
  | .str x, .str y => if y.length ≠ 0 ∧ x.length ≤ SL then some (.tup [.str (Txt.partition x y).1, .str (Txt.partition x y).2.1, .str (Txt.partition x y).2.2]) else none
  | _, _ => none
def oSplit : VK2 := fun a b _ => match a, b with
  | .str x, .str y => if y.length ≠ 0 ∧ x.length + 2 ≤ SL then some (.lst ((Txt.split x y).map D.str)) else none
  | _, _ => none
def oSIdx : VK2 := fun a b _ => match a, b with
  | .str x, .str y => match Builtin.Str.occurrences x y 0 x.length 1 with
    | i :: _ => some (.int (i : Nat))
    | [] => none
  | _, _ => none
def asLT (m : Mem) (d : D) : Option (List D) := match d with
  | .tup l => some l
  | d => asL m d
def oJoin : VK2 := fun a b m => match a with
  | .str x => match asLT m b with
    | some l => match strsOf l with
      | some ys => if (ys.map (·.length)).sum + ys.length * x.length ≤ SL then some (.str (Txt.join x ys)) else none
      | none => none
    | none => none
  | _ => none
section
variable {X : Cx} {W : WX} {a b : Expr} {p q : PEF} {pos apos : Pos}
theorem m1_of {o : VK2} {r : V → List V → Hp → VK → Prop}
    (hr : ∀ w H m x d2 v2 u Q, Good X.K w H m → Rep X.K w H d2 v2 → o (.str x) d2 m = some u → (∀ w' v H', Good X.K w' H' m → Ext X.K w H w' H' → Rep X.K w' H' u v → Q v H') → r (.str x) [v2] H Q)
    {σ : L2.St} {H : Hp} {Q : VK} (h : tM X W (pM1 o p q) σ H Q) : tM1 r (tM X W p) (tM X W q) σ H Q := by
  obtain ⟨w, m, e, u, g, ev, h, qq⟩ := h
  refine tM_bnd g ev h qq fun d1 m1 w1 v1 H1 h1 g1 x1 r1 ev1 q1 => ?_
  cases d1 with
  | str s =>
    obtain rfl := rep_str r1
    refine ⟨⟨s, rfl⟩, tM_bnd g1 ev1 h1 q1 fun d2 m2 w2 v2 H2 h2 g2 x2 r2 ev2 q2 => ?_⟩
    obtain ⟨d, hd, rfl⟩ := lift1_some h2
    exact hr w2 H2 m2 s d2 v2 d Q g2 r2 hd q2
  | _ => cases h1
theorem me_partition (ha : ME X W a p) (hb : ME X W b q) (hs : starEach [b] X.env = [(false, eval b X.env)] := by rfl) (hbase : attributeBase a "partition" X.env (eval a X.env) = eval a X.env := by rfl) (hline : (apos.endLine == pos.line) = true := by rfl) :
    ME X W (.Call (.Attribute a "partition" apos) [b] [] pos) (pM1 oPart p q) := by
  refine PE.imp (pe_partition ha hb hs hbase hline) fun _ _ _ h => m1_of (fun w H m x d2 v2 u Q g r2 h q => ?_) h
  unfold oPart at h
  split at h
  · rename_i x' y e
    cases e
    obtain rfl := rep_str r2
    split at h
    · rename_i hz
      cases h
      refine ⟨_, _, rfl, rfl, by simpa using hz.1, by rw [← SL_eq]; exact hz.2, fun p hp => q w _ _ (g.new hp) (Ext.new g hp) (new_tup g hp ?_)⟩
      exact RepL.cons (by simp only [Rep]) (RepL.cons (by simp only [Rep]) (RepL.cons (by simp only [Rep]) RepL.nil))
    · cases h
  · cases h
theorem me_split (ha : ME X W a p) (hb : ME X W b q) (hs : starEach [b] X.env = [(false, eval b X.env)] := by rfl) (hbase : attributeBase a "split" X.env (eval a X.env) = eval a X.env := by rfl) (hline : (apos.endLine == pos.line) = true := by rfl) :
    ME X W (.Call (.Attribute a "split" apos) [b] [] pos) (pM1 oSplit p q) := by
  refine PE.imp (pe_split ha hb hs hbase hline) fun _ _ _ h => m1_of (fun w H m x d2 v2 u Q g r2 h q => ?_) h
  unfold oSplit at h
  split at h
  · rename_i x' y e
    cases e
    obtain rfl := rep_str r2
    split at h
    · rename_i hz
      cases h
      exact ⟨_, _, rfl, rfl, by simpa using hz.1, by rw [← SL_eq]; exact hz.2, fun p hp => q (w.fzn p) _ _ (g.newF hp) ((Ext.new g hp).trans Ext.fzn) (new_lst g hp repL_of_strs)⟩
    · cases h
  · cases h
theorem me_sindex (ha : ME X W a p) (hb : ME X W b q) (hs : starEach [b] X.env = [(false, eval b X.env)] := by rfl) (hbase : attributeBase a "index" X.env (eval a X.env) = eval a X.env := by rfl) (hline : (apos.endLine == pos.line) = true := by rfl) :
    ME X W (.Call (.Attribute a "index" apos) [b] [] pos) (pM1 oSIdx p q) := by
  refine PE.imp (pe_m1 PySem.F.slot_str_index PySem.F.type_str_index mt_sindex ha hb hs hbase hline) fun _ _ _ h => m1_of (fun w H m x d2 v2 u Q g r2 h q => ?_) h
  unfold oSIdx at h
  split at h
  · rename_i x' y e
    cases e
    obtain rfl := rep_str r2
    split at h
    · rename_i i rest hz
      cases h
      exact ⟨_, _, _, _, rfl, rfl, hz, q w _ H g Ext.refl (by simp only [Rep])⟩
    · cases h
  · cases h
theorem me_join (ha : ME X W a p) (hb : ME X W b q) (hs : starEach [b] X.env = [(false, eval b X.env)] := by rfl) (hbase : attributeBase a "join" X.env (eval a X.env) = eval a X.env := by rfl) (hline : (apos.endLine == pos.line) = true := by rfl) :
    ME X W (.Call (.Attribute a "join" apos) [b] [] pos) (pM1 oJoin p q) := by
  refine PE.imp (pe_join ha hb hs hbase hline) fun _ _ _ h => m1_of (fun w H m x d2 v2 u Q g r2 h q => ?_) h
  unfold oJoin at h
  dsimp only at h
  · split at h
    · rename_i l hl
      split at h
      · rename_i ys hys
        split at h
        · rename_i hz
          cases h
          have hz' : (ys.map (·.length)).sum + ys.length * x.length ≤ 16777216 := hz
          have key : ∃ p', v2 = .ref p' ∧ (SqL X.K H p' (ys.map V.str) ∨ SqT X.K H p' (ys.map V.str)) := by
            cases d2 with
            | tup l' =>
              cases hl
              obtain ⟨p', xs, rfl, h1, h2⟩ := asT_rep r2 rfl
              rw [strsOf_eq hys] at h2
              rw [repL_strs h2] at h1
              exact ⟨p', rfl, .inr h1⟩
            | non => cases hl
            | bl _ => cases hl
            | int _ => cases hl
            | str _ => cases hl
            | lst l' =>
              obtain ⟨p', xs, rfl, h1, h2⟩ := asL_rep g r2 hl
              rw [strsOf_eq hys] at h2
              rw [repL_strs h2] at h1
              exact ⟨p', rfl, .inl h1⟩
            | ro l' =>
              obtain ⟨p', xs, rfl, h1, h2⟩ := asL_rep g r2 hl
              rw [strsOf_eq hys] at h2
              rw [repL_strs h2] at h1
              exact ⟨p', rfl, .inl h1⟩
            | loc i =>
              obtain ⟨p', xs, rfl, h1, h2⟩ := asL_rep g r2 hl
              rw [strsOf_eq hys] at h2
              rw [repL_strs h2] at h1
              exact ⟨p', rfl, .inl h1⟩
          obtain ⟨p', rfl, h3⟩ := key
          exact ⟨_, _, ys, rfl, rfl, h3, hz', q w _ H g Ext.refl (by simp only [Rep])⟩
        · cases h
      · cases h
    · cases h
end
/-! int(text), str(text) -/
def oIntS (ds : List D) (_ : Mem) : Option D := match ds with
  | [.str x] => if x.length ≤ 640 then (match PySem.intText? x with
    | some n => some (.int n)
    | none => none) else none
  | _ => none
def oStrS (ds : List D) (m : Mem) : Option D := match ds with
  | [.str x] => some (.str x)
  | ds => oStr ds m
theorem cr_oIntS {X : Cx} : CallR X (.type "int") (rcOf X oIntS) := by
  intro pins s σ H xs us Q I r h
  obtain ⟨w, m, ds, d, g, hd, h, q⟩ := h
  unfold oIntS at h
  split at h
  · rename_i x
    split at h
    · rename_i hl
      split at h
      · rename_i n hn
        cases h
        obtain ⟨v, rfl, rv⟩ := repL1 hd
        obtain rfl := rep_str rv
        exact call_int_str pins s σ H _ us Q I r ⟨_, _, rfl, hn, hl, q w _ H g Ext.refl (by simp only [Rep])⟩
      · cases h
    · cases h
  · cases h
theorem cr_oStrS {X : Cx} : CallR X (.type "str") (rcOf X oStrS) := by
  intro pins s σ H xs us Q I r h
  obtain ⟨w, m, ds, d, g, hd, h, q⟩ := h
  unfold oStrS at h
  split at h
  · rename_i x
    cases h
    obtain ⟨v, rfl, rv⟩ := repL1 hd
    obtain rfl := rep_str rv
    exact SkE.call_str_str pins s σ H _ us Q I r ⟨_, rfl, q w _ H g Ext.refl (by simp only [Rep])⟩
  · exact cr_oStr pins s σ H xs us Q I r ⟨w, m, ds, d, g, hd, h, q⟩
end Z

set_option maxRecDepth 100000
set_option maxHeartbeats 4000000
set_option autoImplicit false
namespace Z
open PySem PySem.Spec PyProof.Rows L2
open NumText
/-! ### texts by their signs -/
def sO (l : List Nat) : Str := ⟨l.toArray⟩
theorem sO_len (l : List Nat) : (sO l).length = l.length := by show l.toArray.size = _; simp
theorem sO_tl (z : Str) : sO z.cps.toList = z := by cases z; rfl
theorem tl_sO (l : List Nat) : (sO l).cps.toList = l := rfl
theorem sO_inj {a b : List Nat} : sO a = sO b ↔ a = b := ⟨fun h => by have := congrArg (fun z : Str => z.cps.toList) h; exact this, fun h => by rw [h]⟩
theorem exSO (z : Str) : ∃ l, z = sO l := ⟨_, (sO_tl z).symm⟩
theorem sO_app (a b : List Nat) : sO a ++ sO b = sO (a ++ b) := by
  have h := TL.tl_append (sO a) (sO b)
  rw [← sO_tl (sO a ++ sO b)]
  exact congrArg sO h
theorem ofS (s : String) : Str.ofString s = sO (s.toList.map Char.toNat) := by
  rw [← sO_tl (Str.ofString s)]
  exact congrArg sO (TL.tl_ofString s)
theorem cut_take (l : List Nat) (k : Nat) : cutS (sO l) none (some (k : Int)) = sO (l.take k) := by
  unfold cutS
  rw [HT.sIx_none, HT.sIx_nat, sO_len, tl_sO, List.drop_zero, Nat.sub_zero]
  refine congrArg (fun z : List Nat => (⟨z.toArray⟩ : Str)) ?_
  by_cases h : k ≤ l.length
  · rw [Nat.min_eq_left h]
  · rw [Nat.min_eq_right (by omega), List.take_length, List.take_of_length_le (by omega)]
theorem cut_drop (l : List Nat) (k : Nat) : cutS (sO l) (some (k : Int)) none = sO (l.drop k) := by
  unfold cutS
  rw [HT.sIx_none, HT.sIx_nat, sO_len, tl_sO]
  refine congrArg (fun z : List Nat => (⟨z.toArray⟩ : Str)) ?_
  by_cases h : k ≤ l.length
  · rw [Nat.min_eq_left h, List.take_of_length_le (by rw [List.length_drop]; exact Nat.le_refl _)]
  · rw [Nat.min_eq_right (by omega), List.drop_of_length_le (Nat.le_refl _), List.drop_of_length_le (by omega), List.take_nil]

/-! ### numbers as they are written -/
theorem num_head : ∀ n : Nat, n ≠ 0 → ∃ c r, TL.numL n = c :: r ∧ c ≠ 48 := by
  intro n
  induction n using Nat.strongRecOn with
  | _ n ih =>
    intro h
    by_cases h9 : n < 10
    · exact ⟨_, _, TL.numL_lt h9, by omega⟩
    · obtain ⟨c, r, e, hc⟩ := ih (n / 10) (by omega) (by omega)
      exact ⟨c, r ++ [48 + n % 10], by rw [TL.numL_step (by omega), e]; rfl, hc⟩
/-- the signs of a number without needless zeros -/
def canB (l : List Nat) : Prop := l ≠ [] ∧ AllDigits l ∧ (l.head? = some 48 → l = [48])
theorem canB_num (n : Nat) : canB (TL.numL n) := by
  refine ⟨TL.numL_ne n, TL.numL_digits n, fun h => ?_⟩
  by_cases h0 : n = 0
  · subst h0; exact TL.numL_lt (by decide)
  · obtain ⟨c, r, e, hc⟩ := num_head n h0
    rw [e] at h
    exact absurd (by simpa using h) hc
theorem num_val {l : List Nat} (h1 : l ≠ []) (hd : AllDigits l) (h2 : l.head? = some 48 → l = [48]) : TL.numL (digitsVal l) = l := by
  generalize hn : l.length = n
  induction n generalizing l with
  | zero => exact absurd (List.eq_nil_of_length_eq_zero hn) h1
  | succ n ih =>
    rcases List.eq_nil_or_concat l with e | ⟨l', c, e⟩
    · exact absurd e h1
    · rw [List.concat_eq_append] at e
      subst e
      have hc : 48 ≤ c ∧ c ≤ 57 := hd c (by simp)
      rw [digitsVal_snoc]
      by_cases h0 : l' = []
      · subst h0
        show TL.numL (0 * 10 + (c - 48)) = [c]
        rw [Nat.zero_mul, Nat.zero_add, TL.numL_lt (by omega)]
        congr 1
        omega
      · have hh : (l' ++ [c]).head? = l'.head? := by cases l' with
          | nil => exact absurd rfl h0
          | cons a b => rfl
        have h3 : l'.head? ≠ some 48 := fun e => by
          have := h2 (by rw [hh]; exact e)
          have := congrArg List.length this
          cases l' with
          | nil => exact h0 rfl
          | cons a b => simp at this
        have ih' := ih (l := l') h0 (fun x hx => hd x (by simp [hx])) (fun e => absurd e h3) (by simpa using hn)
        have hv : digitsVal l' ≠ 0 := fun e => by
          rw [e, TL.numL_lt (by decide)] at ih'
          exact h3 (by rw [← ih']; rfl)
        rw [TL.numL_step (by omega), show (digitsVal l' * 10 + (c - 48)) / 10 = digitsVal l' by omega, ih']
        congr 2
        omega
theorem num_val_iff {l : List Nat} (h1 : l ≠ []) (hd : AllDigits l) : TL.numL (digitsVal l) = l ↔ (l.head? = some 48 → l = [48]) :=
  ⟨fun h => by rw [← h]; exact (canB_num _).2.2, num_val h1 hd⟩
/-- the signs of an integer -/
def intL (i : Int) : List Nat := if i < 0 then 45 :: TL.numL i.natAbs else TL.numL i.natAbs
theorem str_int (i : Int) : Str.ofString (toString i) = sO (intL i) := by
  unfold intL
  by_cases h : i < 0
  · rw [if_pos h, ofS, toString_neg h]
    refine congrArg sO ?_
    have e : (0 - i : Int) = ((i.natAbs : Nat) : Int) := by omega
    have h2 := TL.tl_num i.natAbs
    rw [e, String.toList_append, List.map_append]
    rw [TL.tl_ofString] at h2
    rw [h2]
    rfl
  · rw [if_neg h]
    have e : i = ((i.natAbs : Nat) : Int) := by omega
    have h2 := TL.tl_num i.natAbs
    rw [← e] at h2
    rw [← sO_tl (Str.ofString (toString i))]
    exact congrArg sO h2
theorem val_lt : ∀ {l : List Nat}, AllDigits l → digitsVal l < 10 ^ l.length := by
  intro l
  generalize hn : l.length = n
  induction n generalizing l with
  | zero => intro _; rw [List.eq_nil_of_length_eq_zero hn]; decide
  | succ n ih =>
    intro hd
    rcases List.eq_nil_or_concat l with e | ⟨l', c, e⟩
    · subst e; cases hn
    · rw [List.concat_eq_append] at e
      subst e
      have hc : 48 ≤ c ∧ c ≤ 57 := hd c (by simp)
      have := ih (l := l') (by simpa using hn) (fun x hx => hd x (by simp [hx]))
      rw [digitsVal_snoc, Nat.pow_succ]
      omega
/-- a text as an integer of at most 60 digits -/
def wOk (b : List Nat) : Prop := canB b ∧ b.length ≤ 60
open Classical in
noncomputable def wholeL (l : List Nat) : Option Int := if l.head? = some 45 then (if wOk l.tail ∧ l.tail ≠ [48] then some (-((digitsVal l.tail : Nat) : Int)) else none) else if wOk l then some ((digitsVal l : Nat) : Int) else none
theorem whole_neg {b : List Nat} (h : wOk b) (h2 : b ≠ [48]) : wholeL (45 :: b) = some (-((digitsVal b : Nat) : Int)) := by
  unfold wholeL
  rw [if_pos (show (45 :: b).head? = some 45 from rfl)]
  exact if_pos ⟨h, h2⟩
theorem whole_pos {b : List Nat} (h : wOk b) : wholeL b = some ((digitsVal b : Nat) : Int) := by
  unfold wholeL
  rw [if_neg, if_pos h]
  intro e
  cases b with
  | nil => cases e
  | cons c r =>
    have := h.1.2.1.head
    have : c = 45 := by simpa using e
    omega
theorem whole_str {l : List Nat} {i : Int} (h : wholeL l = some i) : intL i = l := by
  unfold wholeL at h
  split at h
  · rename_i hh
    split at h
    · rename_i ho
      cases h
      obtain ⟨⟨⟨h1, h2, h3⟩, h4⟩, h5⟩ := ho
      have hv := num_val h1 h2 h3
      have h0 : digitsVal l.tail ≠ 0 := fun e => by
        rw [e, TL.numL_lt (by decide)] at hv
        exact h5 hv.symm
      have e : (-((digitsVal l.tail : Nat) : Int)).natAbs = digitsVal l.tail := by omega
      unfold intL
      rw [if_pos (by omega), e, hv]
      cases l with
      | nil => cases hh
      | cons a b =>
        have : a = 45 := by simpa using hh
        rw [this]; rfl
    · cases h
  · split at h
    · rename_i ho
      cases h
      obtain ⟨⟨h1, h2, h3⟩, h4⟩ := ho
      unfold intL
      rw [if_neg (by omega), Int.natAbs_natCast]
      exact num_val h1 h2 h3
    · cases h
theorem whole_lt {l : List Nat} {i : Int} (h : wholeL l = some i) : i.natAbs < 10 ^ 60 := by
  unfold wholeL at h
  split at h
  · split at h
    · rename_i ho
      cases h
      have := val_lt ho.1.1.2.1
      have := Nat.pow_le_pow_right (n := 10) (by decide) ho.1.2
      omega
    · cases h
  · split at h
    · rename_i ho
      cases h
      have := val_lt ho.1.2.1
      have := Nat.pow_le_pow_right (n := 10) (by decide) ho.2
      omega
    · cases h
/-- where a sign is none -/
theorem whole_no {l : List Nat} {c : Nat} (hc : c ∈ l) (h1 : c ≠ 45) (h2 : ¬ (48 ≤ c ∧ c ≤ 57)) : wholeL l = none := by
  unfold wholeL
  split
  · rename_i hh
    refine if_neg fun h => ?_
    have : c ∈ l.tail := by
      cases l with
      | nil => cases hc
      | cons a b =>
        have : a = 45 := by simpa using hh
        rcases List.mem_cons.1 hc with e | e
        · exact absurd (e.trans this) h1
        · exact e
    exact h2 (h.1.1.2.1 c this)
  · exact if_neg fun h => h2 (h.1.2.1 c hc)
/-- a text cut at a sign -/
theorem parts_of (s : Nat) : ∀ l : List Nat, ∃ ps : List (List Nat), ps ≠ [] ∧ (∀ p ∈ ps, s ∉ p) ∧ l = TL.joinL [s] ps
  | [] => ⟨[[]], by simp, by simp, rfl⟩
  | c :: l => by
    obtain ⟨ps, h1, h2, h3⟩ := parts_of s l
    by_cases h : c = s
    · subst h
      cases ps with
      | nil => exact absurd rfl h1
      | cons p r => exact ⟨[] :: p :: r, by simp, fun q hq => by rcases List.mem_cons.1 hq with e | e; · rw [e]; simp
                                                                 · exact h2 q e, by rw [h3]; rfl⟩
    · cases ps with
      | nil => exact absurd rfl h1
      | cons p r =>
        refine ⟨(c :: p) :: r, by simp, fun q hq => ?_, ?_⟩
        · rcases List.mem_cons.1 hq with e | e
          · rw [e]
            intro hm
            rcases List.mem_cons.1 hm with e | e
            · exact h e.symm
            · exact h2 p (List.mem_cons_self ..) e
          · exact h2 q (List.mem_cons_of_mem _ e)
        · rw [h3]
          cases r with
          | nil => rfl
          | cons q r => rfl
theorem joinO (y : List Nat) (ps : List (List Nat)) : Txt.join (sO y) (ps.map sO) = sO (TL.joinL y ps) := by
  rw [TL.join_eq, ← sO_tl (Str.join _ _)]
  refine congrArg sO ?_
  have := TL.tl_join (sO y) (ps.map sO)
  rw [List.map_map] at this
  rw [show (TL.tl ∘ sO) = id from funext fun l => rfl, List.map_id] at this
  exact this
theorem splitO {s : Nat} (hs : s < 256) {ps : List (List Nat)} (h1 : ps ≠ []) (h2 : ∀ p ∈ ps, s ∉ p) : Txt.split (sO (TL.joinL [s] ps)) (sO [s]) = ps.map sO := by
  rw [← joinO]
  refine TL.split_join (y := sO [s]) (s := s) (S := []) rfl (by simp [sO, hs]) (by simpa using h1) fun p hp => ?_
  obtain ⟨q, hq, rfl⟩ := List.mem_map.1 hp
  exact h2 q hq
theorem partO {s : Nat} {a b : List Nat} (h : s ∉ a) : Txt.partition (sO (a ++ s :: b)) (sO [s]) = (sO a, sO [s], sO b) := by
  have := TL.partition_app (y := sO [s]) (s := s) (S := []) rfl (a := sO a) (b := sO b) h
  rw [sO_app, sO_app] at this
  rw [← this]
  simp
theorem partO0 {s : Nat} {a : List Nat} (h : s ∉ a) : Txt.partition (sO a) (sO [s]) = (sO a, sO [], sO []) :=
  TL.partition_none (y := sO [s]) (s := s) (S := []) rfl (a := sO a) h
end Z

set_option maxRecDepth 100000
set_option maxHeartbeats 4000000
set_option autoImplicit false
namespace Z
open PySem PySem.Spec PyProof.Rows L2

/-! ### texts exchanged: a token must be out, and behind a parameter one is -/
abbrev MET (X : Cx) (W : WX) (e : Expr) (p : PEF) : Prop := PET X e (tM X W p)
def pRepl (y z : Str) (p : PEF) : PEF := fun e m => bnd (p e m) fun d m1 => match d with
  | .str x => if x.length + (x.length + 1) * z.length ≤ 16777216 then some (.ok (.str (Txt.replace x y z)) m1) else none
  | _ => none
section
variable {X : Cx} {W : WX} {a b : Expr} {p q : PEF}
theorem PETimp {e : Expr} {t t' : TE} (h : PET X e t) (i : ∀ σ H Q, t' σ H Q → t σ H Q) : PET X e t' := fun pins s σ H Q h0 I r => h pins s σ H Q h0 I (i _ _ _ r)
theorem repl_of {y z : Str} {σ : L2.St} {H : Hp} {Q : VK} (h : tM X W (pRepl y z p) σ H Q) : CwR.tReplC (tM X W p) y z σ H Q := by
  obtain ⟨w, m, e, u, g, ev, h, qq⟩ := h
  refine tM_bnd g ev h qq fun d1 m1 w1 v1 H1 h1 g1 x1 r1 ev1 q1 => ?_
  cases d1 with
  | str s =>
    obtain rfl := rep_str r1
    simp only at h1
    split at h1
    · rename_i hb
      cases h1
      exact ⟨s, rfl, hb, q1.now g1 (by simp only [Rep])⟩
    · cases h1
  | _ => cases h1
theorem met_repl1 {y z : Str} {j k : Nat} {c0 c1 apos pos : Pos} (ha : ME X W a p) (hyz : (y == z) = false := by decide)
    (h1 : starEach [.Constant (.str y) j c0, .Constant (.str z) k c1] X.env = [(false, eval (.Constant (.str y) j c0) X.env), (false, eval (.Constant (.str z) k c1) X.env)] := by rfl)
    (h2 : attributeBase a "replace" X.env (eval a X.env) = eval a X.env := by rfl) (h3 : (apos.endLine == pos.line) = true := by rfl) :
    MET X W (.Call (.Attribute a "replace" apos) [.Constant (.str y) j c0, .Constant (.str z) k c1] [] pos) (pRepl y z p) := PETimp (CwR.pet_replC ha hyz h1 h2 h3) fun _ _ _ h => repl_of h
theorem met_repl2 {y z : Str} {j k : Nat} {c0 c1 apos pos : Pos} (ha : MET X W a p) (hyz : (y == z) = false := by decide)
    (h1 : starEach [.Constant (.str y) j c0, .Constant (.str z) k c1] X.env = [(false, eval (.Constant (.str y) j c0) X.env), (false, eval (.Constant (.str z) k c1) X.env)] := by rfl)
    (h2 : attributeBase a "replace" X.env (eval a X.env) = eval a X.env := by rfl) (h3 : (apos.endLine == pos.line) = true := by rfl) :
    MET X W (.Call (.Attribute a "replace" apos) [.Constant (.str y) j c0, .Constant (.str z) k c1] [] pos) (pRepl y z p) := PETimp (CwR.pet_replT ha hyz h1 h2 h3) fun _ _ _ h => repl_of h
/-- a method of one argument whose text wants a token -/
theorem pet_meth1 {id : String} {name : Str} {apos pos : Pos} {r : V → List V → Hp → VK → Prop} {ta tb : TE} (sl : Slot "str" name id) (ty : typeOf (.builtin id) = pure (.type "method_descriptor")) (rl : MtR X id r) (ha : PET X a ta) (hb : PE X b tb)
    (h1 : starEach [b] X.env = [(false, eval b X.env)]) (h2 : attributeBase a name X.env (eval a X.env) = eval a X.env) (h3 : (apos.endLine == pos.line) = true) : PET X (.Call (.Attribute a name apos) [b] [] pos) (tM1 r ta tb) := by
  intro pins s σ H Q h0 I h
  refine PySem.Call_method1 h2 h1 h3 (thn (ha pins s σ H _ h0 I h) fun v s1 z => ?_)
  obtain ⟨_, H1, I1, r1, ⟨c, rfl⟩, q1⟩ := z
  have rv := r1
  obtain ⟨tk, rfl⟩ := rv
  refine ⟨"str", _, PySem.F.plainAttrs_str, sl, ty, typeIs_str _ _ _, nofun, Calls.callWith_builtin rfl (Calls.evalArgs_plain (Calls.spliced_cons ?_))⟩
  refine thn (hb.run pins s1 σ H1 _ I1 q1) fun u s2 z2 => ?_
  obtain ⟨y, H2, I2, r2, q2⟩ := z2
  exact Calls.spliced_nil (rl pins s2 σ H2 _ [y] _ [u] Q I2 r1 (.cons r2 .nil) q2)
theorem met_split {apos pos : Pos} (ha : MET X W a p) (hb : ME X W b q) (h1 : starEach [b] X.env = [(false, eval b X.env)] := by rfl) (h2 : attributeBase a "split" X.env (eval a X.env) = eval a X.env := by rfl) (h3 : (apos.endLine == pos.line) = true := by rfl) :
    MET X W (.Call (.Attribute a "split" apos) [b] [] pos) (pM1 oSplit p q) := by
  refine PETimp (pet_meth1 PySem.F.slot_str_split PySem.F.type_str_split mt_split ha hb h1 h2 h3) fun _ _ _ h => m1_of (fun w H m x d2 v2 u Q g r2 h q => ?_) h
  unfold oSplit at h
  split at h
  · rename_i x' y e
    cases e
    obtain rfl := rep_str r2
    split at h
    · rename_i hz
      cases h
      exact ⟨_, _, rfl, rfl, by simpa using hz.1, by rw [← SL_eq]; exact hz.2, fun p hp => q (w.fzn p) _ _ (g.newF hp) ((Ext.new g hp).trans Ext.fzn) (new_lst g hp repL_of_strs)⟩
    · cases h
  · cases h
theorem msst_ret {e : Expr} {pe : PEF} {pos : Pos} (he : MET X W e pe) : PSsT X [.Return (some e) pos] (tS X W (sRet pe)) := by
  refine fun pins s σ H D h0 I h => CwR.psst_one (CwR.pst_ret he) pins s σ H D h0 I ?_
  obtain ⟨w, m, ev', r, g, ev, h, q⟩ := h
  refine tM_bndS g ev h q fun d1 m1 w1 v1 H1 h1 g1 x1 r1 ev1 q1 => ?_
  cases h1
  exact q1 w1 v1 H1 g1 Ext.refl r1
end
section
variable {P : Program} {w : World} {K : PySem.W.Frag} {mg : Str → Option Value} {base : Heap} {x : Str} {st : Stmt} {N ps : List Str} {k : Nat} {b : PSF}
theorem fn_okT (T : Txt1 K mg x st) (S : FnScope N ps (defScope st)) (hnc : ∀ y ∈ (defScope st).names, y.2 ≠ .cell) (hps : 1 ≤ ps.length)
    (hbd : ∀ (kV doc pm : Value) (an : Option Addr) (cdv ct : Value) (us : List Value), us.length = ps.length → bindArgs (PySem.W.fnOf x x (defArgs st) (defBody st) (defScope st) .none kV doc pm an cdv ct) ⟨us, []⟩ = pure (ps.zip us))
    (hb : ∀ (f : Addr) (cdv : Value) (A : Around) (outer : List Env) (s : Shared) (H : Hp) (E : XK), Room k (A.deeper (envOfC x (defScope st) s.heap.objs.size f cdv)) → PSsT (bodyCx P w K mg base N x st f cdv A outer s H E) (defBody st) (tS (bodyCx P w K mg base N x st f cdv A outer s H E) (WE0 E) b)) :
    FnA P w K mg base x (k + 1) ps.length (pFn N.length b) := by
  obtain ⟨a, fd, F, hm⟩ := T.ex
  refine ⟨a, fd, ps, ?_, hm, F.kp, FunD.bindsN F hbd⟩
  obtain ⟨oc, od, dV, kV, doc, pm, an, cdv, ct, osl, rfl, lk, hcd, _, _⟩ := F.ex
  refine fn_ofT lk hcd S hnc hps (fun vs H Q E ⟨w', m, ds, r, g, hd, hl, h, q⟩ => by rw [hd.len]; exact hl) fun A outer s H vs Q E hr ⟨w', m, ds, r, g, hd, hl, h, q⟩ => ⟨_, hb a cdv A outer s H E hr, ?_⟩
  unfold pFn at h
  have ev : EvR K w' H (startE N.length ds) (L2.start N vs) := EvR.start hd
  cases hbv : b (startE N.length ds) m with
  | none => rw [hbv] at h; cases h
  | some u =>
    rw [hbv] at h
    refine ⟨w', m, startE N.length ds, u, g, ev, hbv, ?_⟩
    cases u with
    | rt d m1 => cases h; exact fun w1 v1 H1 g1 x1 r1 => q w1 v1 H1 g1 x1 r1
    | nx e m1 => cases h; exact fun w1 σ1 H1 g1 x1 r1 => q w1 .non H1 g1 x1 (by simp only [Rep])
    | exc c e m1 => cases h; exact fun w1 σ1 H1 C g1 x1 _ hc => q w1 H1 C g1 x1 hc
    | bk _ _ => cases h
    | ct _ _ => cases h
end
end Z

set_option maxRecDepth 100000
set_option maxHeartbeats 4000000
set_option autoImplicit false
namespace Z
open PySem PySem.Spec PyProof.Rows L2
/-! ### what a mirror ends with, where it may raise -/
section
variable {α β : Type}
@[irreducible] def wpX (o : Option (Out α)) (Q : α → Mem → Prop) (E : Str → Mem → Prop) : Prop := match o with
  | some (.ok a m) => Q a m
  | some (.exc c m) => E c m
  | none => False
@[irreducible] def wpY (o : Option SOut) (N : Ev → Mem → Prop) (R : D → Mem → Prop) (E : Str → Mem → Prop) : Prop := match o with
  | some (.nx e m) => N e m
  | some (.rt d m) => R d m
  | some (.exc c _ m) => E c m
  | _ => False
variable {Q Q' : α → Mem → Prop} {N N' : Ev → Mem → Prop} {R R' : D → Mem → Prop} {E E' : Str → Mem → Prop} {m : Mem} {e : Ev}
theorem wpX.mono {o : Option (Out α)} (h : wpX o Q E) (q : ∀ a m, Q a m → Q' a m) (x : ∀ c m, E c m → E' c m) : wpX o Q' E' := by
  unfold wpX at h ⊢
  split at h
  · exact q _ _ h
  · exact x _ _ h
  · exact h.elim
theorem wpY.mono {o : Option SOut} (h : wpY o N R E) (q : ∀ e m, N e m → N' e m) (r : ∀ d m, R d m → R' d m) (x : ∀ c m, E c m → E' c m) : wpY o N' R' E' := by
  unfold wpY at h ⊢
  split at h
  · exact q _ _ h
  · exact r _ _ h
  · exact x _ _ h
  · exact h.elim
theorem wpE.toX {o : Option (Out α)} (h : wpE o Q) : wpX o Q E := by
  obtain ⟨a, m, rfl, q⟩ := h.out
  unfold wpX
  exact q
theorem wpS.toY {o : Option SOut} (h : wpS o N R) : wpY o N R E := by
  unfold wpS at h; unfold wpY
  split at h
  · exact h
  · exact h
  · exact h.elim
theorem wpX.of {o : Option (Out α)} {r : Out α} (h : o = some r) (q : wpX (some r) Q E) : wpX o Q E := by rw [h]; exact q
@[simp] theorem wpX_ok (a : α) : wpX (some (.ok a m)) Q E = Q a m := by unfold wpX; rfl
@[simp] theorem wpX_exc (c : Str) : wpX (some (.exc c m) : Option (Out α)) Q E = E c m := by unfold wpX; rfl
@[simp] theorem wpX_bnd (o : Option (Out β)) (k : β → Mem → Option (Out α)) : wpX (bnd o k) Q E = wpX o (fun a m => wpX (k a m) Q E) E := by
  unfold wpX
  cases o with
  | none => rfl
  | some o => cases o <;> rfl
@[simp] theorem wpX_ite {P : Prop} [Decidable P] (a b : Option (Out α)) : wpX (if P then a else b) Q E = if P then wpX a Q E else wpX b Q E := by split <;> rfl
@[simp] theorem wpY_nx : wpY (some (.nx e m)) N R E = N e m := by unfold wpY; rfl
@[simp] theorem wpY_rt (d : D) : wpY (some (.rt d m)) N R E = R d m := by unfold wpY; rfl
@[simp] theorem wpY_exc (c : Str) : wpY (some (.exc c e m)) N R E = E c m := by unfold wpY; rfl
@[simp] theorem wpY_thenS (o : Option SOut) (k : Ev → Mem → Option SOut) : wpY (thenS o k) N R E = wpY o (fun e m => wpY (k e m) N R E) R E := by
  unfold wpY
  cases o with
  | none => rfl
  | some o => cases o <;> rfl
@[simp] theorem wpY_bndS (o : Option (Out β)) (k : β → Mem → Option SOut) : wpY (bndS o e k) N R E = wpX o (fun a m => wpY (k a m) N R E) E := by
  unfold wpX wpY
  cases o with
  | none => rfl
  | some o => cases o <;> rfl
@[simp] theorem wpY_ite {P : Prop} [Decidable P] (a b : Option SOut) : wpY (if P then a else b) N R E = if P then wpY a N R E else wpY b N R E := by split <;> rfl
@[simp] theorem sRaise_app (c : Str) (p : PEF) : sRaise c p e m = bndS (p e m) e fun _ m1 => some (.exc c e m1) := id rfl
@[simp] theorem pM1_app (o : VK2) (p q : PEF) : pM1 o p q e m = bnd (p e m) fun d1 m1 => match d1 with
  | .str a => bnd (q e m1) fun d2 m2 => lift1 (o (.str a) d2 m2) m2
  | _ => none := id rfl
theorem wp_fnX {n : Nat} {b : PSF} {ds : List D} {Q : D → Mem → Prop} (h : wpY (b (startE n ds) m) (fun _ m1 => Q .non m1) Q E) : wpX (pFn n b ds m) Q E := by
  unfold wpY at h
  unfold pFn wpX
  cases h1 : b (startE n ds) m with
  | none => rw [h1] at h; exact h.elim
  | some o =>
    rw [h1] at h
    cases o with
    | nx e m1 => exact h
    | rt d m1 => exact h
    | exc c e m1 => exact h
    | _ => exact h.elim
/-- try: what is caught -/
theorem wp_try {t : List (Str × List D)} {p : PSF} (h : wpY (p e m) N R fun c m1 => ∃ l, t.lookup c = some l ∧ R (.lst l) m1) : wpS (sTry t p e m) N R := by
  unfold wpY at h
  unfold sTry wpS
  cases h1 : p e m with
  | none => rw [h1] at h; exact h.elim
  | some o =>
    rw [h1] at h
    cases o with
    | exc c e m1 =>
      obtain ⟨l, h2, h3⟩ := h
      simp only [h2]
      exact h3
    | nx e m1 => exact h
    | rt d m1 => exact h
    | _ => exact h.elim
/-- for, where the body may raise -/
theorem wp_loopX {g : PGF} {s : PSF} {R : D → Mem → Prop} (I : List D → Ev → Mem → Prop)
    (st : ∀ d ds e m, I (d :: ds) e m → ∃ e1 m1, g d e m = some (.ok e1 m1) ∧ wpY (s e1 m1) (I ds) R E) (en : ∀ e m, I [] e m → N e m) :
    ∀ (ds : List D) (e : Ev) (m : Mem), I ds e m → wpY (loopF g s ds e m) N R E
  | [], e, m, i => by rw [loopF_nil, wpY_nx]; exact en e m i
  | d :: ds, e, m, i => by
    obtain ⟨e1, m1, h1, h⟩ := st d ds e m i
    rw [loopF_cons, h1, inG_ok]
    unfold wpY at h
    split at h
    · rename_i e2 m2 h2
      rw [h2, ctn_nx]
      exact wp_loopX I st en ds e2 m2 h
    · rename_i d m2 h2
      rw [h2, ctn_rt, wpY_rt]
      exact h
    · rename_i c e2 m2 h2
      rw [h2]
      show wpY (some (SOut.exc c e2 m2)) N R E
      rw [wpY_exc]
      exact h
    · exact h.elim
end
section
variable {Q : D → Mem → Prop} {E : Str → Mem → Prop} {m : Mem} {d : D} {P : Prop} [Decidable P]
@[simp] theorem wpX_l1_if : wpX (lift1 (if P then some d else none) m) Q E = (P ∧ Q d m) := by
  unfold wpX
  by_cases h : P <;> simp [h, lift1]
@[simp] theorem wpX_if_no {α : Type} {Q : α → Mem → Prop} (o : Option (Out α)) : wpX (if P then o else none) Q E = (P ∧ wpX o Q E) := by
  by_cases h : P
  · simp [h]
  · simp only [h, if_false, false_and]
    unfold wpX
    rfl
end
end Z

set_option maxRecDepth 100000
set_option maxHeartbeats 4000000
set_option autoImplicit false
namespace Z
open PySem PySem.Spec PyProof.Rows L2

/-! ### an error that leaves a comprehension's element -/
theorem un_both {fs ex : List Addr} {H H1 H2 : Hp} {h h1 B h2 : Heap} (hfs : ∀ b ∈ fs, H b = none) (u : Un fs ex H H1 h h1) (v : UB fs H1 H2 h1 B h2) {G : Heap} {C : Addr} (hC : ∀ b o, h.get? b = some o → b ≠ C) (nex : ∀ b ∈ fs, b ∉ ex)
    (gB : ∀ b o, B.get? b = some o → b ≠ C → G.get? b = some o) (gF : ∀ b o sl, b ∈ fs → h.get? b = some o → h2.get? b = some { o with slots := sl } → ∃ sl', G.get? b = some { o with slots := sl' }) : Un fs ex H H2 h G where
  keep := fun b o e n hb hx => gB b o (v.keep b o (u.keep b o e n hb hx) (u.free b o e n hx) hb) (hC b o e)
  slot := fun b o e n hb hx => by
    obtain ⟨sl, e1⟩ := u.slot b o e n hb hx
    obtain ⟨sl2, e2⟩ := v.slot b _ e1 hb
    exact gF b o sl2 hb e e2
  free := fun b o e n hx => by
    have n1 := u.free b o e n hx
    obtain ⟨sl, e1⟩ := u.any e n hx
    exact v.free b _ e1 n1
  there := fun b o e hx => by
    by_cases hb : b ∈ fs
    · obtain ⟨sl, e1⟩ := u.slot b o e (hfs b hb) hb hx
      obtain ⟨sl2, e2⟩ := v.slot b _ e1 hb
      obtain ⟨sl3, e3⟩ := gF b o sl2 hb e e2
      exact ⟨_, e3⟩
    · obtain ⟨o1, e1⟩ := u.there b o e hx
      obtain ⟨o2, e2⟩ := v.there b o1 e1 hb
      exact ⟨o2, gB b o2 e2 (hC b o e)⟩
  tups := fun b xs e => v.tups b xs (u.tups b xs e)
  frzs := fun b o xs e => v.frzs b o xs (u.frzs b o xs e)
  tbls := fun b ps e => by
    obtain ⟨m1, e1⟩ := u.tbls b ps e
    obtain ⟨m2, e2⟩ := v.tbls b _ e1
    exact ⟨m1 ++ m2, by rw [e2, Array.append_assoc]⟩
section
variable {X : Cx} {W : WX}
/-- the element's call let an error out: it is noted by the def's frame and goes on behind the block -/
theorem comp_catch {pins pinsB : List (Addr × Obj)} {σ σ1 : L2.St} {H3 H1 : Hp} {s3 s1 s' : Shared} {scope : Scope} {ce : Env} {fp : List Addr} {pn : List (Addr × Obj)} {xe : Value → Shared → Prop} {e : Value}
    (tk : Takes X W) (hs : X.stack = X.env :: X.outer) (hf : X.env.frame = some X.env.locals) (hcf : ce.frame = X.env.frame) (cL : ce.locals = s3.heap.objs.size)
    (I3 : Inv X pins σ H3 s3) (hfp : ∀ b ∈ fp, FpOk X pins H3 b) (I1 : Inv ((X.blk s3 H3 scope ce fp).tr pn xe) pinsB σ1 H1 s1)
    (c : CX X.prog X.w X.stack H1 s1 (fun cls d H' => W cls d σ H') e s') :
    notedBy (model X.prog X.w) X.A ce (CompFails (model X.prog X.w) X.A X.xe ce) e s' := by
  obtain ⟨a, B, H2, cls, d, rfl, fl, hok, ub, na, hos, ag, hw⟩ := c
  have hfr : X.A.frames = some (X.env :: X.outer) := by rw [I3.ok.frames, hs]
  show wpAny _ _ (noteFrame (.ref a) ce) _ _ s'
  rw [noteFrame_env _ hcf]
  have fl' : HandSPX.FlyingZ B (X.env :: X.outer) a (Zc cls d) s'.heap := by rw [← hs]; exact fl
  refine HandSPX.looks_onZ Zc.steady hfr hf fl' fun h1 hh up1 => ?_
  obtain ⟨st1, na1, ff1, oe, vs, T, oT, ts, ga, hz, hd, hv1, hnT, hTe, gT, hdT, hts3⟩ := hh
  -- the block's names
  obtain ⟨m, hns, _⟩ := I1.loc
  have hns : s1.heap.Ns ce.locals m := hns
  obtain ⟨oC, es, ep, gC, rC⟩ := hns
  have hC1 : H1 ce.locals = none := I1.free
  have nfC : ce.locals ∉ frs X.stack := fun hm => by
    obtain ⟨_, o, ho, _⟩ := I3.stack.mem hm
    have := Heap.lt_size ho
    rw [cL] at this
    exact absurd this (Nat.lt_irrefl _)
  have bC : B.get? ce.locals = some oC := ub.keep _ _ gC hC1 nfC
  have aC : a ≠ ce.locals := fun z => by rw [z, bC] at na1; cases na1
  have tC : T ≠ ce.locals := fun z => by rw [z, bC] at hnT; cases hnT
  refine ⟨m, ⟨oC, es, ep, st1 _ _ bC, rC⟩, fun h2 m2 hn2 sb2 => ?_⟩
  have g2 : ∀ b, b ≠ ce.locals → h2.get? b = h1.get? b := fun b hb => sb2.2 b hb
  -- the ground without the block
  have keepB : ∀ b o, (PySem.W.hideAll B [ce.locals]).get? b = some o → B.get? b = some o ∧ b ≠ ce.locals := fun b o q => ⟨PySem.W.of_hideAll _ q, fun z => by
    rw [PySem.W.hideAll_none _ (by rw [z]; simp)] at q; cases q⟩
  have inB : ∀ b o, B.get? b = some o → b ≠ ce.locals → (PySem.W.hideAll B [ce.locals]).get? b = some o := fun b o q hb => PySem.W.hideAll_get _ q (by simpa using hb)
  have held : HandSPX.HeldZ (PySem.W.hideAll B [ce.locals]) (X.env :: X.outer) a (Zc cls d) X.env.locals h2 := by
    refine ⟨fun b o q => ?_, ?_, ?_, oe, vs, T, oT, ts, (g2 a aC).trans ga, hz, hd, hv1, ?_, hTe, (g2 T tC).trans gT, hdT, hts3⟩
    · obtain ⟨q1, q2⟩ := keepB b o q
      exact (g2 b q2).trans (st1 b o q1)
    · cases q : (PySem.W.hideAll B [ce.locals]).get? a with
      | none => rfl
      | some o => rw [(keepB a o q).1] at na1; cases na1
    · refine funFrames_none (Heap.FunFrames.sameBut sb2 hn2 ff1) fun b hb => ?_
      cases q : (PySem.W.hideAll B [ce.locals]).get? b with
      | none => rfl
      | some o =>
        obtain ⟨q1, _⟩ := keepB b o q
        have := (ff1.mem hb).1
        rw [q1] at this
        cases this
    · cases q : (PySem.W.hideAll B [ce.locals]).get? T with
      | none => rfl
      | some o => rw [(keepB T o q).1] at hnT; cases hnT
  unfold PySem.passOn
  refine wpAny_bind (wpAny_field ((g2 a aC).trans ga) hd hv1 ?_)
  rw [if_neg (show ¬ ((Value.ref T == Value.none) = true) from by simp), hcf, hf]
  have fin : ∀ h4, HandSPX.HeldZ (PySem.W.hideAll B [ce.locals]) (X.env :: X.outer) a (Zc cls d) X.env.locals h4 → h2.UpToSlots h4 → X.xe (.ref a) { s' with heap := h4 } := fun h4 held4 up4 => by
    refine tk _ _ ?_
    obtain ⟨G, k1, k2⟩ := restrict h4 fun b => ((PySem.W.hideAll B [ce.locals]).get? b).isSome || decide (b ∈ frs X.stack)
    have gB : ∀ b o, B.get? b = some o → b ≠ ce.locals → G.get? b = some o := fun b o q hb => by
      have q' := inB b o q hb
      rw [k1 b (by simp [q'])]
      exact held4.1 b o q'
    have gF : ∀ b, b ∈ frs X.stack → G.get? b = h4.get? b := fun b hb => k1 b (by simp [hb])
    have og : ∀ b o, G.get? b = some o → h4.get? b = some o ∧ (((PySem.W.hideAll B [ce.locals]).get? b).isSome = true ∨ b ∈ frs X.stack) := fun b o q => by
      cases z : (((PySem.W.hideAll B [ce.locals]).get? b).isSome || decide (b ∈ frs X.stack)) with
      | false => rw [k2 b z] at q; cases q
      | true =>
        rw [k1 b z] at q
        exact ⟨q, by simpa [Bool.or_eq_true] using z⟩
    have ltC : ∀ b o, s3.heap.get? b = some o → b ≠ ce.locals := fun b o q z => by
      have := Heap.lt_size q
      rw [z, cL] at this
      exact absurd this (Nat.lt_irrefl _)
    have C2 : H2 ce.locals = none := ub.free _ _ gC hC1
    have u1 : Un (frs X.stack) fp H3 H1 s3.heap s1.heap := I1.base
    have nex : ∀ b ∈ frs X.stack, b ∉ fp := fun b hb hp => by
      rcases List.mem_cons.mp (I3.stkSub b hb) with z | z
      · exact (hfp b hp).2.1 z
      · exact (hfp b hp).2.2.1 z
    have u2 : Un (frs X.stack) fp H3 H2 s3.heap G := un_both I3.stkFree u1 ub ltC nex gB fun b o sl hb q q2 => by
      obtain ⟨_, o', q3, hnf⟩ := I3.stack.mem hb
      rw [q] at q3; cases q3
      obtain ⟨sl3, q4⟩ := up1 b _ q2 hnf
      have q5 : h2.get? b = some { o with slots := sl3 } := (g2 b (ltC b o q)).trans q4
      obtain ⟨sl4, q6⟩ := up4 b _ q5 hnf
      exact ⟨sl4, by rw [gF b hb]; exact q6⟩
    have hokG : HOk X.prog X.w H2 G := fun b o q => (hok b o q).stay (fun x u hx q2 => gB x u q2 fun z => by
      rcases hx with hx | hx
      · rw [hx] at z; rw [z, C2] at q; cases q
      · rw [z, C2] at hx; cases hx) (fun _ z => z) fun _ _ z => z
    refine ⟨a, PySem.W.hideAll B [ce.locals], { s3 with heap := G, gens := s'.gens, drawn := s'.drawn, toks := s'.toks }, pins, σ, H2, cls, d, rfl, ?_, fun b o q hb => ?_, Heap.UpToSlots.of_keeps fun b o q => (og b o q).1, .inr (.inr (by rw [hs]; exact held4)), na, hos.trans I1.os, ag, hw⟩
    · exact I3.call (ch := fp) u2 hokG ag fun b hb => ⟨(hfp b hb).2.2.2.1, (hfp b hb).2.1, (hfp b hb).2.2.2.2.1, (hfp b hb).2.2.2.2.2⟩
    · obtain ⟨q1, q2⟩ := og b o q
      rcases q2 with q2 | q2
      · obtain ⟨o', q3⟩ := Option.isSome_iff_exists.mp q2
        have q4 := held4.1 b o' q3
        rw [q1] at q4; cases q4
        exact q3
      · exact absurd q2 hb
  have fin2 : wpAny (model X.prog X.w) X.A (setFlight (.ref a) (some X.env.locals)) (fun _ s4 => wpAny (model X.prog X.w) X.A (throw (.ref a) : Sem Value) (fun _ _ => False) X.xe s4) X.xe { s' with heap := h2 } :=
    HandSPX.setFlight_onZ (s := { s' with heap := h2 }) held fun h4 held4 up4 => wpAny_throw (fin h4 held4 up4)
  first
    | exact wpAny_bind (wpAny_pure (wpAny_bind fin2))
    | exact wpAny_bind fin2
end
end Z

set_option maxRecDepth 100000
set_option maxHeartbeats 4000000
set_option autoImplicit false
namespace Z
open PySem PySem.Spec PyProof.Rows L2

/-! ### a list comprehension whose element may raise -/
/-- the block's element: every context whose errors are taken -/
abbrev ElX (X : Cx) (scope : Scope) (elt : Expr) (te : WX → TE) : Prop :=
  ∀ (s : Shared) (H : Hp) (C : Addr) (cl : List (Str × Addr)) (fp : List Addr) (pn : List (Addr × Obj)) (xe : Value → Shared → Prop) (W' : WX),
    (∀ σ, PassesAt (CX X.prog X.w) ((X.blk s H scope (compEnvC scope cl C X.env) fp).tr pn xe) σ (WE W' σ)) → PE ((X.blk s H scope (compEnvC scope cl C X.env) fp).tr pn xe) elt (te W')
section
variable {X : Cx} {W : WX} {elt tg iter : Expr} {ifs : List Expr} {scope : Scope} {own : List (Str × Nat)} {pos : Pos} {wi : TI} {g : TG} {tt : TT} {te : WX → TE}
theorem pe_lcX (tk : Takes X W) (hst : X.stack = X.env :: X.outer) (hfr : X.env.frame = some X.env.locals) (hc : X.calm = true) (hN : X.N.Nodup) (hi : PI X tg iter wi) (ok : BlkOk X.N X.env.scope scope own)
    (hg : ∀ (s : Shared) (H : Hp) (C : Addr) (cl : List (Str × Addr)) (fp : List Addr), PG (X.blk s H scope (compEnvC scope cl C X.env) fp) tg g)
    (ht : ∀ (s : Shared) (H : Hp) (C : Addr) (cl : List (Str × Addr)) (fp : List Addr), PTs (X.blk s H scope (compEnvC scope cl C X.env) fp) ifs tt)
    (he : ElX X scope elt te) (hfold : ∀ x, foldedSetIterable iter X.env x = pure x := by intro _; rfl) :
    PE X (.ListComp elt [⟨tg, iter, ifs, 0⟩] scope pos) (fun σ H Q => tLc wi g tt (te fun cls d _ H' => W cls d σ H') (own.map (·.2)) σ H Q) := by
  refine ⟨fun pins s σ H Q I0 want => ?_⟩
  rw [eval_ListComp]
  have free1 : ∀ y ∈ scope.names, y.2 = .free → ∃ c, X.env.cells.lookup y.1 = some c := fun y hy z =>
    (ok.free y hy z).elim (fun k => I0.ok.has _ (.inl k)) (fun k => I0.ok.has _ (.inr k))
  refine comprehension_at (use := none) rfl hfold (closure_ok free1) ok.kind (fun y hy z => by rw [ok.uniq y hy, z]) ?_
  refine thn (hi.run pins s σ H _ I0 want) fun xv sa hxa => thn hxa fun itv sb hb => ?_
  obtain ⟨it, fp, tn, J, Hb, rfl, Ib, T, tn0, fpb, goal⟩ := hb
  refine wpAny_newObj_type (newEnv_comp ?_) (by show 0 ≤ sizeLine; decide)
  generalize hL : sb.heap.objs.size = L
  have freshL : Hb L = none := Ib.hok.fresh (Nat.le_of_eq hL)
  obtain ⟨Wv, ⟨n0, start⟩, turns⟩ := goal L freshL
  generalize hsc : ({ sb with heap := sb.heap.push { cls := .type "list", data := .seq ([] : List Value).toArray } } : Shared) = sc
  have hpc : sc.heap = sb.heap.push { cls := .type "list", data := .seq ([] : List Value).toArray } := by rw [← hsc]
  have Ic : Inv X pins σ (upd Hb L (.lst [])) sc := by
    rw [← hsc]
    exact Ib.laid (t' := sb.toks) (fun b o z => Heap.get?_push_of_some _ z) (Nat.le_of_eq hL) ⟨Nat.zero_le _, [], 0, .nil, by rw [← hL]; exact Heap.get?_push_size _ rfl⟩
  have below : ∀ b ∈ fp, b < sb.heap.objs.size := fun b hb => by
    obtain ⟨_, z, _⟩ := T.obj _ _ tn0 b hb
    exact Heap.lt_size z
  have fpc : ∀ b ∈ fp, FpOk X pins (upd Hb L (.lst [])) b ∧ b < sc.heap.objs.size := fun b hb => by
    have lt := below b hb
    obtain ⟨q1, q2⟩ := fpb b hb
    refine ⟨⟨?_, q2⟩, ?_⟩
    · rw [upd_ne (fun z => absurd (hL ▸ z ▸ lt) (Nat.lt_irrefl _))]; exact q1
    · rw [hpc, Heap.size_push]; exact Nat.lt_succ_of_lt lt
  have tnc : tn 0 sc.heap := T.keep _ _ _ tn0 fun b _ o z => by rw [hpc]; exact Heap.get?_push_of_some _ z
  have Id := block_start Ic ok hN fpc
  generalize hcl : cellsFrom (sc.heap.objs.size + 1) scope.names (cloFrom X.env.cells scope.names []) = cl at Id
  have ruleG := hg sc (upd Hb L (.lst [])) sc.heap.objs.size cl fp
  have ruleT := ht sc (upd Hb L (.lst [])) sc.heap.objs.size cl fp
  have ruleE := he sc (upd Hb L (.lst [])) sc.heap.objs.size cl fp
  have noneFp : ∀ b ∈ fp, (upd Hb L (.lst [])) b = none := fun b hb => (fpc b hb).1.1
  generalize hHc : upd Hb L (.lst []) = Hc at Ic Id ruleG ruleT ruleE start noneFp fpc
  generalize hce : compEnvC scope cl sc.heap.objs.size X.env = ce at Id ruleG ruleT ruleE
  have ceL : ce.locals = sc.heap.objs.size := by subst hce; rfl
  have ceF : ce.frame = X.env.frame := by subst hce; rfl
  generalize hsd : ({ sc with heap := pushCells (sc.heap.push { cls := .type "dict", data := .dict #[] }) scope.names } : Shared) = sd at Id
  have tnd : tn 0 sd.heap := T.keep _ _ _ tnc fun b _ o z => by rw [← hsd]; exact pushCells_keeps _ _ _ _ (Heap.get?_push_of_some _ z)
  show codeAny (model X.prog X.w) X.A (.compStart (.ListComp elt [⟨tg, iter, ifs, 0⟩] scope pos) 0 (.ref it) (.ref L) (compEnvC scope cl sc.heap.objs.size X.env)) (compEnds (model X.prog X.w) X.A X.xe none (EP X pins σ Q) (.ref L) (compEnvC scope cl sc.heap.objs.size X.env)) sd
  rw [hce]
  have away : ∀ {σ' : L2.St} {H' : Hp} {s' : Shared}, Inv (X.blk sc Hc scope ce fp) [] σ' H' s' → (∀ b ∈ fp, H' b = none) → ∀ b ∈ fp, FpOk (X.blk sc Hc scope ce fp) [] H' b := fun {σ' H' s'} I' hn b hb =>
    ⟨hn b hb, (I'.ok.exf b hb).1, I'.ok.exfs b hb, .inl hb, fun x c z => (I'.ok.exf b hb).2 x c z, fun p hp => by cases hp⟩
  have go : codeAny (model X.prog X.w) X.A (.compLoop (.ListComp elt [⟨tg, iter, ifs, 0⟩] scope pos) 0 (.ref it) (.ref L) ce) (compEnds (model X.prog X.w) X.A X.xe none (EP X pins σ Q) (.ref L) ce) sd := by
    refine compLoop_any (fun n s' => ∃ i H', Inv (X.blk sc Hc scope ce fp) [] (L2.wipe σ (own.map (·.2))) H' s' ∧ tn i s'.heap ∧ (∀ b ∈ fp, H' b = none) ∧ Wv i n H') ?_ n0 ⟨0, Hc, Id, tnd, noneFp, start⟩
    rintro n s5 ⟨i, H5, I5, tn5, none5, w5⟩
    rcases turns i n H5 w5 with ⟨stop, fin⟩ | ⟨more, Nx, hNx, step⟩
    · refine thnF (T.done (X.blk sc Hc scope ce fp) rfl rfl rfl hc i [] s5 _ H5 (fun _ _ => False) I5 (away I5 none5) tn5 stop) fun r s6 q6 => ?_
      obtain ⟨rfl, I6⟩ := q6
      have I7 : Inv X pins σ H5 s6 := Ic.call' (ch := fp) I6.os I6.base I6.hok I6.bare fun b hb => ⟨(fpc b hb).1.2.2.2.1, (fpc b hb).1.2.1, (fpc b hb).1.2.2.2.2.1, (fpc b hb).1.2.2.2.2.2⟩
      have nC : H5 sc.heap.objs.size = none := by
        have z : H5 ce.locals = none := I6.free
        rwa [ceL] at z
      obtain ⟨m6, ns6, _⟩ := I6.loc
      have ns6 : s6.heap.Ns ce.locals m6 := ns6
      refine ⟨m6, ns6, fun h7 sb7 => ?_⟩
      rw [ceL] at sb7
      obtain ⟨f0, f1, _, f3, f4, f5⟩ := Ic.fpOk (H' := H5) (Nat.le_refl _) nC
      exact ⟨.ref L, H5, I7.turned (t' := s6.toks) (fun b o hb z => (sb7.2 b hb).trans z) f0 f1 f3 f4 f5, rfl, fin⟩
    · refine thnF (T.item (X.blk sc Hc scope ce fp) rfl rfl rfl hc i [] s5 _ H5 (fun _ _ => False) I5 (away I5 none5) tn5 more) fun r s6 q6 => ?_
      obtain ⟨u, rfl, q6⟩ := q6
      refine thnF q6 fun _ s7 q7 => ?_
      obtain ⟨x, H7, I7, r7, y7, tn7, none7⟩ := q7
      have I7p := I7.pinned (away I7 none7) (T.obj _ _ tn7)
      refine thnF (ruleG.run _ s7 _ H7 x u _ I7p r7 (step x H7 y7)) fun _ s8 q8 => ?_
      obtain ⟨σ8, H8, I8, wp8, q8⟩ := q8
      refine thnF (ruleT.run _ s8 σ8 H8 _ I8 q8) fun b s9 q9 => ?_
      obtain ⟨H9, I9, q9⟩ := q9
      have again : ∀ {s' : Shared} {H' : Hp}, Inv (X.blk sc Hc scope ce fp) ([] ++ pinsAt fp s7.heap) σ8 H' s' → Nx H' → ∃ m, m < n ∧ ∃ i H', Inv (X.blk sc Hc scope ce fp) [] (L2.wipe σ (own.map (·.2))) H' s' ∧ tn i s'.heap ∧ (∀ b ∈ fp, H' b = none) ∧ Wv i m H' := fun {s' H'} I' nx => by
        obtain ⟨n', less, w'⟩ := hNx H' nx
        have stay : ∀ b ∈ fp, ∀ o, s7.heap.get? b = some o → s'.heap.get? b = some o ∧ H' b = none := fun b hb o z => by
          obtain ⟨z1, z2, _⟩ := I'.pin (b, o) (List.mem_append_right _ (List.mem_append_right _ (mem_pinsAt hb z)))
          exact ⟨z1, z2⟩
        refine ⟨n', less, i + 1, H', (I'.unpinned (pins := [])).weak (by rw [← wp8, wipe_length]) fun j v z => ?_, T.keep _ _ _ tn7 fun b hb o z => (stay b hb o z).1, fun b hb => ?_, w'⟩
        · rw [← wp8] at z
          exact (wipe_some z).1
        · obtain ⟨o, z, _⟩ := T.obj _ _ tn7 b hb
          exact (stay b hb o z).2
      cases b with
      | false =>
        simp only [Bool.false_eq_true, if_false] at q9 ⊢
        exact again I9 q9
      | true =>
        simp only [if_true] at q9 ⊢
        have okB := I9.ok
        have pe1 := ruleE ((X.blk sc Hc scope ce fp).pn ++ ([] ++ pinsAt fp s7.heap)) (notedBy (model X.prog X.w) X.A ce (CompFails (model X.prog X.w) X.A X.xe ce)) (fun cls d _ H' => W cls d σ H')
          (fun σx pinsx Hx sx ex sy Ix cx => comp_catch tk hst hfr ceF ceL Ic (fun b hb => (fpc b hb).1) Ix cx)
        refine wpAny_mono (pe1.run [] s9 σ8 H9 _ (I9.toTry _) q9) (fun z s10 q10 => ?_) fun _ _ z => z
        obtain ⟨yv, H10, I10, r10, acc, hL10, hz10, nx⟩ := q10
        have I10' := I10.ofTry okB
        exact app_ok (X := X.blk sc Hc scope ce fp) I10' hL10 hz10 r10 fun s11 I11 => again I11 nx
  exact codeAny_compStart_list go (T.self X.A 0 _ _ _ tnd go)
end
end Z

set_option maxRecDepth 100000
set_option maxHeartbeats 4000000
set_option autoImplicit false
namespace Z
open PySem PySem.Spec PyProof.Rows L2
theorem Good.dropP {K : PySem.W.Frag} {w : Wd} {H : Hp} {m : Mem} {p : Addr} (g : Good K w H m) : Good K (w.drop p) H m :=
  ⟨g.len, g.nd, fun i c a hc ha => repC_pv (g.at' i c a hc ha), g.fz, fun a ha => g.pv a ha.2⟩
def lcX (T : Tgt) (t : PTF) (el : PEF) (e : Ev) : List D → Mem → Option (Out (List D))
  | [], m => some (.ok [] m)
  | d :: ds, m => match tgtE T d e with
    | some e1 => match t e1 m with
      | some (.ok true m2) => match el e1 m2 with
        | some (.ok y m3) => match lcX T t el e ds m3 with
          | some (.ok ys m4) => some (.ok (y :: ys) m4)
          | some (.exc c m4) => some (.exc c m4)
          | none => none
        | some (.exc c m3) => some (.exc c m3)
        | none => none
      | some (.ok false m2) => lcX T t el e ds m2
      | _ => none
    | none => none
def pLcX (vs : List Nat) (pi : PIF) (T : Tgt) (t : PTF) (el : PEF) : PEF := fun e m => bnd (pi e m) fun ds m1 => if ds.length ≤ SL then (match lcX T t el (wipeE e vs) ds m1 with
  | some (.ok ys m2) => some (.ok (.lst ys) m2)
  | some (.exc c m2) => some (.exc c m2)
  | none => none) else none
/-- what is left to come, behind what is there -/
def fin2 (acc : List D) : Out (List D) → Out D
  | .ok ys m => .ok (.lst (acc ++ ys)) m
  | .exc c m => .exc c m
section
variable {X : Cx} {W : WX}
theorem lc_ofX {vs : List Nat} {pi : PIF} {T : Tgt} {t : PTF} {el : PEF} {σ : L2.St} {H : Hp} {Q : VK} (hT : ∀ i ∈ T.slots, i ∈ vs) (h : tM X W (pLcX vs pi T t el) σ H Q) : tLc (tI X W pi) (tgtG X.K T) (tT X W0 t) (tM X (fun cls d _ H' => W cls d σ H') el) vs σ H Q := by
  obtain ⟨w, m, e, r, g0, ev, h, qq⟩ := h
  show tI X W pi σ H _
  unfold pLcX at h
  cases hp : pi e m with
  | none => rw [hp] at h; cases h
  | some o =>
    rw [hp] at h
    cases o with
    | exc c m1 => cases h; exact ⟨w, m, e, _, g0, ev, hp, qq⟩
    | ok ds m1 =>
      refine ⟨w, m, e, _, g0, ev, hp, fun w1 H1 J g1 x1 y1 p hpn => ?_⟩
      have h : (if ds.length ≤ SL then (match lcX T t el (wipeE e vs) ds m1 with
        | some (.ok ys m2) => some (.ok (.lst ys) m2)
        | some (.exc c m2) => some (.exc c m2)
        | none => none) else none) = some r := h
      split at h
      · rename_i hz
        cases hl : lcX T t el (wipeE e vs) ds m1 with
        | none => rw [hl] at h; cases h
        | some o =>
            rw [hl] at h
            have h : r = fin2 [] o := by
              cases o with
              | exc _ _ => cases h; rfl
              | ok all m2 => cases h; rfl
            obtain ⟨g2, x2, ev2⟩ := g1.hold0 hpn
            have evw : EvR X.K (w1.hold p) (upd H1 p (.lst [])) (wipeE e vs) (L2.wipe σ vs) := (ev2 (ev.mono x1)).wipe vs
            refine ⟨fun i n H' => n = ds.length - i ∧ i ≤ ds.length ∧ ∃ w' m' acc xs rem, Good X.K w' H' m' ∧ w'.pv p ∧ H' p = some (.lst xs) ∧ RepL X.K w' H' acc xs ∧ Ext X.K w1 H1 (w'.drop p) H' ∧ EvR X.K w' H' (wipeE e vs) (L2.wipe σ vs) ∧
              lcX T t el (wipeE e vs) (ds.drop i) m' = some rem ∧ r = fin2 acc rem ∧ acc.length ≤ i, ⟨ds.length, by simp, Nat.zero_le _, w1.hold p, m1, [], [], o, g2, .inl rfl, upd_same, RepL.nil, x2, evw, hl, h, Nat.le_refl _⟩, ?_⟩
            rintro i n H' ⟨rfl, hi, w', m', acc, xs, rem, g', pv', hx', ra, x', ev', hl', hall, hacc⟩
            by_cases hlt : i < ds.length
            · refine .inr ⟨y1.go i _ H' x' hlt, fun H2 => ∃ w2 m3 acc2 xs2 rem2, Good X.K w2 H2 m3 ∧ w2.pv p ∧ H2 p = some (.lst xs2) ∧ RepL X.K w2 H2 acc2 xs2 ∧ Ext X.K w1 H1 (w2.drop p) H2 ∧ EvR X.K w2 H2 (wipeE e vs) (L2.wipe σ vs) ∧
                lcX T t el (wipeE e vs) (ds.drop (i + 1)) m3 = some rem2 ∧ r = fin2 acc2 rem2 ∧ acc2.length ≤ i + 1, fun H2 hN => ⟨ds.length - (i + 1), by omega, rfl, hlt, hN⟩, fun x H2 hy => ?_⟩
              have hd : ds[i]? = some ds[i] := List.getElem?_eq_getElem hlt
              -- the item comes at a world that holds p too
              obtain ⟨w2, g2', x2', rd⟩ : ∃ w2, Good X.K w2 H2 m' ∧ Ext X.K w' H' w2 H2 ∧ Rep X.K w2 H2 ds[i] x := by
                have xy : Ext X.K w1 H1 w' H' := ⟨x'.ρ, x'.fz, x'.tup, x'.lst, x'.ro, fun a ha => ⟨(x'.pv a ha).1.2, (x'.pv a ha).2⟩⟩
                exact y1.yld i x w' H' H2 m' g' xy hy _ hd
              rw [List.drop_eq_getElem_cons hlt] at hl'
              unfold lcX at hl'
              cases htg : tgtE T ds[i] (wipeE e vs) with
              | none => rw [htg] at hl'; cases hl'
              | some e1 =>
                rw [htg] at hl'
                refine tgt_run hT rd (ev'.mono x2') htg fun σ2 ev3 hw => ⟨?_, ?_⟩
                · rw [hw]
                  exact wipe_wipe fun _ h => h
                have ev4 : EvR X.K w2 H2 (wipeE e vs) (L2.wipe σ vs) := ev'.mono x2'
                have hp2 : w2.pv p ∧ H2 p = some (.lst xs) := ⟨(x2'.pv p pv').1, ((x2'.pv p pv').2).trans hx'⟩
                have xx2 : Ext X.K w1 H1 (w2.drop p) H2 := x'.trans x2'.drop
                -- the test
                cases ht : t e1 m' with
                | none => simp only [ht] at hl'; cases hl'
                | some o =>
                  cases o with
                  | exc _ _ => simp only [ht] at hl'; cases hl'
                  | ok b m3 =>
                    refine ⟨w2, m', e1, _, g2', ev3, ht, fun w3 H3 g3 x3 => ?_⟩
                    have hp3 : w3.pv p ∧ H3 p = some (.lst xs) := ⟨(x3.pv p hp2.1).1, ((x3.pv p hp2.1).2).trans hp2.2⟩
                    cases b with
                    | false =>
                      simp only [ht] at hl'
                      refine iteF ?_
                      exact ⟨w3, m3, acc, xs, rem, g3, hp3.1, hp3.2, (ra.mono x2').mono x3, xx2.trans x3.drop, ev4.mono x3, hl', hall, by omega⟩
                    | true =>
                      simp only [ht] at hl'
                      refine iteT ?_
                      cases he : el e1 m3 with
                      | none => simp only [he] at hl'; cases hl'
                      | some o2 =>
                        cases o2 with
                        | exc c m4 =>
                          simp only [he] at hl'
                          cases hl'
                          refine ⟨w3, m3, e1, _, g3, ev3.mono x3, he, fun w4 H4 C g4 x4 hc => ?_⟩
                          subst hall
                          exact qq (w4.drop p) H4 C g4.dropP (x1.trans ((xx2.trans x3.drop).trans x4.drop)) hc
                        | ok y m4 =>
                          simp only [he] at hl'
                          refine ⟨w3, m3, e1, _, g3, ev3.mono x3, he, fun w4 v4 H4 g4 x4 r4 => ?_⟩
                          have hp4 : w4.pv p ∧ H4 p = some (.lst xs) := ⟨(x4.pv p hp3.1).1, ((x4.pv p hp3.1).2).trans hp3.2⟩
                          have ra4 := ((ra.mono x2').mono x3).mono x4
                          refine ⟨xs, hp4.2, by rw [ra.len, ← SL_eq]; omega, ?_⟩
                          obtain ⟨g5, x5⟩ := g4.grow (ys := xs ++ [v4]) hp4.1 hp4.2
                          cases hrest : lcX T t el (wipeE e vs) (ds.drop (i + 1)) m4 with
                          | none => rw [hrest] at hl'; cases hl'
                          | some o3 =>
                            rw [hrest] at hl'
                            have q6 : RepL X.K w4 (upd H4 p (.lst (xs ++ [v4]))) (acc ++ [y]) (xs ++ [v4]) := by
                              have h1 : RepL X.K (w4.drop p) H4 (acc ++ [y]) (xs ++ [v4]) := repL_pv (ra4.append (RepL.cons r4 RepL.nil))
                              exact repL_pv (w := w4.drop p) (f := w4.pv) (h1.mono x5)
                            have ev6 : EvR X.K w4 (upd H4 p (.lst (xs ++ [v4]))) (wipeE e vs) (L2.wipe σ vs) := by
                              have h1 : EvR X.K (w4.drop p) H4 (wipeE e vs) (L2.wipe σ vs) := evR_pv ((ev4.mono x3).mono x4)
                              exact evR_pv (w := w4.drop p) (f := w4.pv) (h1.mono x5)
                            refine ⟨w4, m4, acc ++ [y], xs ++ [v4], o3, g5, hp4.1, upd_same, q6, ((xx2.trans x3.drop).trans x4.drop).trans x5, ev6, hrest, ?_, ?_⟩
                            · cases o3 with
                              | exc _ _ => cases hl'; exact hall
                              | ok ys' m5 => cases hl'; rw [hall]; simp only [fin2, List.append_assoc]; rfl
                            · rw [List.length_append, List.length_singleton]; omega
            · have e0 : i = ds.length := by omega
              subst e0
              rw [List.drop_length] at hl'
              cases hl'
              simp only [fin2, List.append_nil] at hall
              subst hall
              obtain ⟨w9, g3, x9, r3⟩ := fin_F.ok _ _ _ _ _ _ g' pv' hx' ra
              exact .inl ⟨y1.stop _ H' x', qq w9 _ H' g3 ((x1.trans x').trans x9) r3⟩
      · cases h
theorem me_lcX {elt tg iter : Expr} {ifs : List Expr} {scope : Scope} {own : List (Str × Nat)} {pos : Pos} {pi : PIF} {T : Tgt} {t : PTF} {el : PEF} (tk : Takes X W) (hst : X.stack = X.env :: X.outer) (hfr : X.env.frame = some X.env.locals) (hc : X.calm = true) (hN : X.N.Nodup) (hi : MI X W tg iter pi)
    (ok : BlkOk X.N X.env.scope scope own) {vs : List Nat} (hv : own.map (·.2) = vs) (hT : ∀ i ∈ T.slots, i ∈ vs)
    (hg : ∀ (s : Shared) (H : Hp) (C : Addr) (cl : List (Str × Addr)) (fp : List Addr), PG (X.blk s H scope (compEnvC scope cl C X.env) fp) tg (tgtG X.K T)) (ht : ∀ (s : Shared) (H : Hp) (C : Addr) (cl : List (Str × Addr)) (fp : List Addr), MTs (X.blk s H scope (compEnvC scope cl C X.env) fp) W0 ifs t)
    (he : ∀ (s : Shared) (H : Hp) (C : Addr) (cl : List (Str × Addr)) (fp : List Addr) (pn : List (Addr × Obj)) (xe : Value → Shared → Prop) (W' : WX), Tk ((X.blk s H scope (compEnvC scope cl C X.env) fp).tr pn xe) W' → ME ((X.blk s H scope (compEnvC scope cl C X.env) fp).tr pn xe) W' elt el)
    (hs : ∀ x, foldedSetIterable iter X.env x = pure x := by intro _; rfl) : ME X W (.ListComp elt [⟨tg, iter, ifs, 0⟩] scope pos) (pLcX vs pi T t el) := by
  subst hv
  exact PE.imp (pe_lcX (te := fun W' => tM X W' el) (tt := tT X W0 t) tk hst hfr hc hN hi ok hg ht (fun s H C cl fp pn xe W' h => he s H C cl fp pn xe W' h) hs) fun _ _ _ h => lc_ofX hT h
end
end Z

set_option maxRecDepth 100000
set_option maxHeartbeats 4000000
set_option autoImplicit false
namespace Z
open PySem PySem.Spec PyProof.Rows L2
/-! an except suite's or of two tests -/
section
variable {X : Cx} {i : Nat} {a : Addr}
theorem su_orT {ea eb : Expr} {v : V} {pos : Pos} (ha : PE X ea (tSV i a (.bl true))) (hb : PE X eb (tSV i a v)) : PE X (.BoolOp .Or [ea, eb] pos) (tSV i a (.bl true)) :=
  PE.imp (pe_or ha (pe_one hb)) fun σ H Q h => ⟨h.1, true, rfl, by simpa using h.2⟩
theorem su_orF {ea eb : Expr} {v : V} {pos : Pos} (ha : PE X ea (tSV i a (.bl false))) (hb : PE X eb (tSV i a v)) : PE X (.BoolOp .Or [ea, eb] pos) (tSV i a v) :=
  PE.imp (pe_or ha (pe_one hb)) fun σ H Q h => ⟨h.1, false, rfl, by simpa using h⟩
end
end Z

set_option maxRecDepth 100000
set_option maxHeartbeats 4000000
set_option autoImplicit false
namespace Z
open PySem PySem.Spec PyProof.Rows L2
open PolA (Po Dv len mono Dom)
/-! rows of numbers as polynomials of the plain theory -/
def P (l : List Int) : Po Int := ⟨co l, l.length, fun n hn => co_ge hn⟩
theorem c_P (l : List Int) (k : Nat) : (P l).c k = co l k := rfl
theorem P_ext {l r : List Int} : P l = P r ↔ ∀ k, co l k = co r k := ⟨fun h k => by have := congrArg (fun p => Po.c p k) h; exact this, fun h => Po.ext h⟩
theorem P_inj {l r : List Int} (hl : trim l = l) (hr : trim r = r) (h : P l = P r) : l = r := co_ext hl hr (P_ext.1 h)
theorem P_trim (l : List Int) : P (trim l) = P l := P_ext.2 fun k => co_trim l k
theorem P_nil : P [] = 0 := Po.ext fun k => by rw [PolA.c_zero]; rfl
theorem P_padd (f g : List Int) : P (padd f g) = P f + P g := Po.ext fun k => by rw [PolA.c_add, c_P, c_P, c_P, co_padd]
theorem P_psc (x : Int) (f : List Int) : P (psc x f) = Po.C x * P f := Po.ext fun k => by rw [PolA.c_Cmul, c_P, c_P, co_psc]
theorem co_mulL_cvl : ∀ (f g : List Int) (t : Nat), co (mulL f g) t = PolA.cvl (co f) (co g) t
  | [], g, t => by
    have : PolA.cvl (co []) (co g) t = 0 := PolA.cvl_eq0 fun i _ => .inl rfl
    rw [this]; rfl
  | x :: f, g, t => by
    rw [mulL, co_addL, co_map g (fun y => x * y) (Int.mul_zero x)]
    cases t with
    | zero =>
      rw [PolA.cvl_zero]
      show x * co g 0 + 0 = x * co g 0
      omega
    | succ t =>
      rw [PolA.cvl_succ]
      show x * co g (t + 1) + co (mulL f g) t = x * co g (t + 1) + PolA.cvl (co f) (co g) t
      rw [co_mulL_cvl f g t]
theorem P_pmul (f g : List Int) : P (pmul f g) = P f * P g := Po.ext fun k => by rw [PolA.c_mul, c_P, co_pmul, ← co_mulL, co_mulL_cvl]; rfl
theorem P_ne {f : List Int} (tf : trim f = f) (hf : f ≠ []) : P f ≠ 0 := fun e => hf (P_inj tf rfl (e.trans P_nil.symm))
theorem P_eq0 {f : List Int} (tf : trim f = f) : P f = 0 ↔ f = [] := ⟨fun h => P_inj tf rfl (h.trans P_nil.symm), fun h => by rw [h, P_nil]⟩
theorem P_len {f : List Int} (tf : trim f = f) : len (P f) = f.length := by
  by_cases hf : f = []
  · subst hf; rw [P_nil, PolA.len_0]; rfl
  · have h1 := trim_last tf hf
    have h2 := List.length_pos_iff.2 hf
    have := PolA.len_of (f := P f) (n := f.length - 1) h1 fun k hk => co_ge (by omega)
    omega
theorem P_ld {f : List Int} (tf : trim f = f) : PolA.ld (P f) = lead f := by
  unfold PolA.ld
  rw [P_len tf]; rfl
/-- .. and back -/
noncomputable def toL (f : Po Int) : List Int := (List.range (len f)).map f.c
theorem co_toL (f : Po Int) (k : Nat) : co (toL f) k = f.c k := by
  unfold toL
  rw [co_map_range]
  split
  · rfl
  · exact (PolA.c_big (by omega)).symm
theorem P_toL (f : Po Int) : P (toL f) = f := Po.ext fun k => co_toL f k
theorem toL_len (f : Po Int) : (toL f).length = len f := by unfold toL; simp
theorem toL_trim (f : Po Int) : trim (toL f) = toL f := trim_of_last fun h => by
  rw [co_toL, toL_len]
  have : f ≠ 0 := fun e => h (by
    have := toL_len f
    rw [e, PolA.len_0] at this
    exact List.eq_nil_of_length_eq_zero (by rw [e]; exact this))
  exact PolA.ld_ne this
theorem toL_P {f : List Int} (tf : trim f = f) : toL (P f) = f := P_inj (toL_trim _) tf (P_toL _)
/-! contents -/
theorem cont_dvC (f : List Int) : ∃ g, P f = Po.C (cont f) * g := by
  refine ⟨P (f.map fun x => x / cont f), Po.ext fun k => ?_⟩
  rw [PolA.c_Cmul, c_P, c_P, co_map f _ (by simp)]
  have := cont_dvd f k
  rw [Int.mul_ediv_cancel' this]
theorem dv_C {a : Int} {f : Po Int} : Dv (Po.C a) f ↔ ∀ k, a ∣ f.c k := by
  constructor
  · rintro ⟨g, rfl⟩ k
    rw [PolA.c_Cmul]
    exact ⟨_, rfl⟩
  · intro h
    refine ⟨⟨fun k => f.c k / a, len f, fun n hn => by rw [PolA.c_big hn]; simp⟩, Po.ext fun k => ?_⟩
    rw [PolA.c_Cmul]
    exact (Int.mul_ediv_cancel' (h k)).symm
theorem dv_C_cont {a : Int} {f : List Int} : Dv (Po.C a) (P f) ↔ a ∣ cont f := by
  rw [dv_C]
  constructor
  · intro h; exact dvd_cont h
  · intro h k; exact Int.dvd_trans h (cont_dvd f k)
theorem cont_P {f g : List Int} (h : P f = P g) : cont f = cont g := cont_eq (cont_nn g) (fun k => by rw [P_ext.1 h k]; exact cont_dvd g k) fun d hd => dvd_cont fun k => by rw [← P_ext.1 h k]; exact hd k
theorem cont_C (a : Int) (f : List Int) : cont (psc a f) = a.natAbs * cont f := cont_scale fun k => co_psc a f k
/-- Gauss: a number goes into the other factor -/
theorem gauss_mul (f g : List Int) : cont (pmul f g) = cont f * cont g := by
  by_cases hf : trim f = []
  · have e : P f = 0 := by rw [← P_trim, hf, P_nil]
    have e2 : P (pmul f g) = P [] := by rw [P_pmul, e, P_nil]; grind
    have e3 : P f = P [] := by rw [e, P_nil]
    rw [cont_P e2, cont_P e3]
    simp [cont]
  by_cases hg : trim g = []
  · have e : P g = 0 := by rw [← P_trim, hg, P_nil]
    have e2 : P (pmul f g) = P [] := by rw [P_pmul, e, P_nil]; grind
    have e3 : P g = P [] := by rw [e, P_nil]
    rw [cont_P e2, cont_P e3]
    simp [cont]
  have tf := trim_trim f
  have tg := trim_trim g
  have c1 : ∀ k, co (trim f) k = mpS (trim f) * co (mpR (trim f)) k := co_mpR tf hf
  have c2 : ∀ k, co (trim g) k = mpS (trim g) * co (mpR (trim g)) k := co_mpR tg hg
  have g1 := gauss (cont_mpR tf hf) (cont_mpR tg hg)
  have e : P (pmul f g) = P (psc (mpS (trim f) * mpS (trim g)) (pmul (mpR (trim f)) (mpR (trim g)))) := by
    rw [P_pmul, P_psc, P_pmul, ← P_trim f, ← P_trim g]
    have e1 : P (trim f) = Po.C (mpS (trim f)) * P (mpR (trim f)) := Po.ext fun k => by rw [PolA.c_Cmul]; exact c1 k
    have e2 : P (trim g) = Po.C (mpS (trim g)) * P (mpR (trim g)) := Po.ext fun k => by rw [PolA.c_Cmul]; exact c2 k
    rw [e1, e2, PolA.C_mul]; grind
  have a1 : cont f = cont (trim f) := cont_P (P_trim f).symm
  have a2 : cont g = cont (trim g) := cont_P (P_trim g).symm
  have a3 : ∀ {h : List Int}, ((mpS h).natAbs : Int) = cont h := fun {h} => by
    have := cont_nn h
    unfold mpS
    split <;> omega
  rw [cont_P e, cont_C, g1, a1, a2, Int.natAbs_mul, ← a3 (h := trim f), ← a3 (h := trim g)]
  simp
theorem prim_dv {e f : List Int} {a : Int} (he : cont e = 1) (ha : a ≠ 0) (h : Dv (P e) (Po.C a * P f)) : Dv (P e) (P f) := by
  obtain ⟨x, hx⟩ := h
  have h1 : P (psc a f) = P (pmul e (toL x)) := by rw [P_psc, P_pmul, P_toL, hx]
  have h2 := cont_P h1
  rw [cont_C, gauss_mul, he, Int.one_mul] at h2
  have h3 : Dv (Po.C a) (P (toL x)) := dv_C_cont.2 (by rw [← h2]; exact ⟨(if 0 ≤ a then 1 else -1) * cont f, by split <;> grind⟩)
  obtain ⟨y, hy⟩ := h3
  rw [P_toL] at hy
  refine ⟨y, PolA.mul_cancel (PolA.C_ne ha) ?_⟩
  rw [hx, hy]; grind
end Z

set_option maxRecDepth 100000
set_option maxHeartbeats 4000000
set_option autoImplicit false
namespace Z
open PySem PySem.Spec PyProof.Rows L2
open PolA (Po Dv len mono Dom)
/-! long division of rows -/
def stp (k : Nat) (x : Int) : List Int := List.replicate k 0 ++ [x]
theorem co_stp (k : Nat) (x : Int) (t : Nat) : co (stp k x) t = if t = k then x else 0 := by
  unfold stp
  rcases Nat.lt_trichotomy t k with h | h | h
  · rw [co_app_l (by simpa using h), co_rep0, if_neg (by omega)]
  · subst h
    rw [co_app_r (by simp), if_pos rfl]
    simp [co]
  · rw [co_ge (by simp; omega), if_neg (by omega)]
theorem P_stp (k : Nat) (x : Int) : P (stp k x) = mono k x := Po.ext fun t => by rw [PolA.c_mono]; exact co_stp k x t
theorem stp_len (k : Nat) (x : Int) : (stp k x).length = k + 1 := by simp [stp]
theorem stp_trim (k : Nat) {x : Int} (hx : x ≠ 0) : trim (stp k x) = stp k x := trim_snoc _ hx
theorem Bd.stp {a : Nat} {x : Int} (k : Nat) (h : x.natAbs < 2 ^ a) : Bd a (stp k x) := fun t => by
  rw [co_stp]; split
  · exact h
  · exact Nat.two_pow_pos a
theorem Bd.stpmul {a b : Nat} {x : Int} {g : List Int} (k : Nat) (h : x.natAbs < 2 ^ a) (hg : Bd b g) : Bd (a + b) (pmul (Z.stp k x) g) := fun t => by
  have e : co (pmul (Z.stp k x) g) t = (mono k x * P g).c t := by rw [← P_stp, ← P_pmul]; rfl
  rw [e, PolA.c_mono_mul]
  split
  · exact mul_bits h (hg _)
  · exact Nat.two_pow_pos _
theorem Bd.neg1 {a : Nat} {g : List Int} (hg : Bd a g) : Bd a (psc (-1) g) := fun t => by
  rw [co_psc]
  have := hg t
  rwa [show (-1 : Int) * co g t = -co g t by omega, Int.natAbs_neg]
def stepR (L x : Int) (g r : List Int) : List Int := padd (psc L r) (psc (-1) (pmul (stp (r.length - g.length) x) g))
theorem P_stepR (L x : Int) (g r : List Int) : P (stepR L x g r) = Po.C L * P r - mono (r.length - g.length) x * P g := by
  unfold stepR
  rw [P_padd, P_psc, P_psc, P_pmul, P_stp]
  have : Po.C (-1 : Int) = -1 := by rw [PolA.C_neg]; rfl
  rw [this]; grind
theorem stepR_trim (L x : Int) (g r : List Int) : trim (stepR L x g r) = stepR L x g r := padd_trim _ _
theorem lead_c {f : List Int} : co f (f.length - 1) = lead f := rfl
theorem stepR_len {L x : Int} {g r : List Int} (tr : trim r = r) (hg : g ≠ []) (h : g.length ≤ r.length) (e : L * lead r = x * lead g) : (stepR L x g r).length < r.length := by
  have hl := List.length_pos_iff.2 hg
  rw [← P_len (stepR_trim L x g r)]
  have : len (P (stepR L x g r)) ≤ r.length - 1 := PolA.len_le.2 fun k hk => by
    rw [P_stepR, PolA.c_sub, PolA.c_Cmul, PolA.c_mono_mul, c_P]
    rcases Nat.lt_or_ge k r.length with a | a
    · obtain rfl : k = r.length - 1 := by omega
      rw [if_pos (by omega), c_P, show r.length - 1 - (r.length - g.length) = g.length - 1 by omega, lead_c, lead_c, e]
      omega
    · rw [if_pos (by omega), c_P, co_ge (l := r) a, co_ge (l := g) (by omega)]
      omega
  omega
theorem stepR_bd {L x : Int} {g r : List Int} {a b c : Nat} (hL : L.natAbs < 2 ^ c) (hc : c ≤ b) (hx : x.natAbs < 2 ^ a) (hr : Bd a r) (hg : Bd b g) : Bd (a + b + 1) (stepR L x g r) := by
  have h1 : Bd (c + a) (psc L r) := hr.sc hL
  have h2 := (Bd.stpmul (r.length - g.length) hx hg).neg1
  have h3 := h1.add h2
  exact h3.up (by omega)
theorem lead_bd {a : Nat} {f : List Int} (h : Bd a f) : (lead f).natAbs < 2 ^ a := h _
theorem lead_ne {f : List Int} (tf : trim f = f) (hf : f ≠ []) : lead f ≠ 0 := trim_last tf hf
theorem lead_nil : lead [] = 0 := rfl
/-! by a number above 0 -/
def absL (g : List Int) : Int := ((lead g).natAbs : Int)
def sgL (g r : List Int) : Int := if 0 < lead g then lead r else -lead r
theorem absL_eq (g r : List Int) : absL g * lead r = sgL g r * lead g := by
  unfold absL sgL
  split
  · rw [Int.natAbs_of_nonneg (by omega), Int.mul_comm]
  · rw [Int.ofNat_natAbs_of_nonpos (by omega)]; grind
theorem sgL_abs (g r : List Int) : (sgL g r).natAbs = (lead r).natAbs := by unfold sgL; split <;> simp
abbrev PdS := Int × List Int × List Int
def pdvS (g : List Int) (st : PdS) : PdS := (st.1 * absL g, padd (psc (absL g) st.2.1) (stp (st.2.2.length - g.length) (sgL g st.2.2)), stepR (absL g) (sgL g st.2.2) g st.2.2)
def pdv (g : List Int) : Nat → PdS → PdS
  | 0, st => st
  | n + 1, st => if g.length ≤ st.2.2.length then pdv g n (pdvS g st) else st
theorem pdv_stop {g : List Int} {n : Nat} {st : PdS} (h : ¬ g.length ≤ st.2.2.length) : pdv g n st = st := by
  cases n with
  | zero => rfl
  | succ n => rw [pdv, if_neg h]
theorem pdvS_len {g : List Int} {st : PdS} (tr : trim st.2.2 = st.2.2) (hg : g ≠ []) (h : g.length ≤ st.2.2.length) : (pdvS g st).2.2.length < st.2.2.length := stepR_len tr hg h (absL_eq g _)
/-- enough turns are enough -/
theorem pdv_more {g : List Int} (hg : g ≠ []) : ∀ (n k : Nat) (st : PdS), trim st.2.2 = st.2.2 → st.2.2.length ≤ n → st.2.2.length ≤ k → pdv g n st = pdv g k st
  | 0, k, st, tr, hn, _ => by
    have := List.length_pos_iff.2 hg
    rw [pdv_stop (n := k) (by omega)]; rfl
  | n + 1, 0, st, tr, _, hk => by
    have := List.length_pos_iff.2 hg
    rw [pdv_stop (by omega), pdv_stop (by omega)]
  | n + 1, k + 1, st, tr, hn, hk => by
    by_cases h : g.length ≤ st.2.2.length
    · have := pdvS_len tr hg h
      rw [pdv, pdv, if_pos h, if_pos h]
      exact pdv_more hg n k _ (stepR_trim _ _ _ _) (by omega) (by omega)
    · rw [pdv_stop h, pdv_stop h]
def pdF (g : List Int) (st : PdS) : PdS := pdv g st.2.2.length st
theorem pdF_step {g : List Int} (hg : g ≠ []) {st : PdS} (tr : trim st.2.2 = st.2.2) (h : g.length ≤ st.2.2.length) : pdF g st = pdF g (pdvS g st) := by
  have h1 := pdvS_len tr hg h
  have := List.length_pos_iff.2 hg
  unfold pdF
  obtain ⟨n, hn⟩ : ∃ n, st.2.2.length = n + 1 := ⟨st.2.2.length - 1, by omega⟩
  have e : pdv g st.2.2.length st = pdv g n (pdvS g st) := by rw [hn, pdv, if_pos h]
  rw [e]
  exact pdv_more hg _ _ _ (stepR_trim _ _ _ _) (by omega) (Nat.le_refl _)
theorem pdF_stop {g : List Int} {st : PdS} (h : ¬ g.length ≤ st.2.2.length) : pdF g st = st := pdv_stop h
theorem pdF_ind {g : List Int} (hg : g ≠ []) {Q : PdS → Prop} (hs : ∀ st, trim st.2.2 = st.2.2 → g.length ≤ st.2.2.length → Q st → Q (pdvS g st)) (st : PdS) (tr : trim st.2.2 = st.2.2) (h : Q st) : Q (pdF g st) ∧ (pdF g st).2.2.length < g.length ∧ trim (pdF g st).2.2 = (pdF g st).2.2 := by
  generalize hn : st.2.2.length = n
  induction n using Nat.strongRecOn generalizing st with
  | ind n ih =>
    by_cases hl : g.length ≤ st.2.2.length
    · have h1 := pdvS_len tr hg hl
      rw [pdF_step hg tr hl]
      exact ih _ (by omega) (pdvS g st) (stepR_trim _ _ _ _) (hs st tr hl h) rfl
    · rw [pdF_stop hl]
      exact ⟨h, by omega, tr⟩
theorem absL_ne {g : List Int} (tg : trim g = g) (hg : g ≠ []) : absL g ≠ 0 := by
  have := lead_ne tg hg
  unfold absL
  omega
def pdD (f g : List Int) : PdS := pdF g (1, [], f)
theorem pdD_spec {f g : List Int} (tf : trim f = f) (tg : trim g = g) (hg : g ≠ []) : Po.C (pdD f g).1 * P f = P (pdD f g).2.1 * P g + P (pdD f g).2.2 ∧ (∃ j, (pdD f g).1 = absL g ^ j) ∧ trim (pdD f g).2.1 = (pdD f g).2.1 ∧ (pdD f g).2.2.length < g.length ∧ trim (pdD f g).2.2 = (pdD f g).2.2 := by
  have := pdF_ind hg (Q := fun st => Po.C st.1 * P f = P st.2.1 * P g + P st.2.2 ∧ (∃ j, st.1 = absL g ^ j) ∧ trim st.2.1 = st.2.1) (fun st tr hl ⟨h1, ⟨j, hj⟩, h3⟩ => ?_) (1, [], f) tf ⟨by
    rw [P_nil, PolA.C_1]; grind, ⟨0, rfl⟩, rfl⟩
  · exact ⟨this.1.1, this.1.2.1, this.1.2.2, this.2⟩
  · refine ⟨?_, ⟨j + 1, by show st.1 * absL g = _; rw [hj, Int.pow_succ]⟩, padd_trim _ _⟩
    show Po.C (st.1 * absL g) * P f = P (padd (psc (absL g) st.2.1) (stp (st.2.2.length - g.length) (sgL g st.2.2))) * P g + P (stepR (absL g) (sgL g st.2.2) g st.2.2)
    rw [P_stepR, P_padd, P_psc, P_stp, PolA.C_mul]
    grind
/-! whole division -/
def dvl (g : List Int) : Nat → List Int × List Int → Option (List Int)
  | 0, _ => none
  | n + 1, (q, r) => if g.length ≤ r.length then (if (lead r).fmod (lead g) ≠ 0 then none else dvl g n (padd q (stp (r.length - g.length) ((lead r).fdiv (lead g))), stepR 1 ((lead r).fdiv (lead g)) g r)) else if r = [] then some q else none
theorem fmod0 {a b : Int} (hb : b ≠ 0) (h : a.fmod b = 0) : a = a.fdiv b * b := by
  have := Int.fmod_add_mul_fdiv a b
  rw [h] at this
  rw [Int.mul_comm]
  omega
theorem dvl_some {g : List Int} (tg : trim g = g) (hg : g ≠ []) : ∀ (n : Nat) (q r : List Int) {x : List Int}, trim q = q → dvl g n (q, r) = some x → P x * P g = P q * P g + P r ∧ trim x = x
  | 0, q, r, x, _, h => by cases h
  | n + 1, q, r, x, tq, h => by
    rw [dvl] at h
    split at h
    · split at h
      · cases h
      · have ih := dvl_some tg hg n _ _ (padd_trim _ _) h
        refine ⟨?_, ih.2⟩
        rw [ih.1, P_padd, P_stepR, P_stp, PolA.C_1]
        grind
    · split at h
      · rename_i hr
        cases h
        rw [hr, P_nil]
        exact ⟨by grind, tq⟩
      · cases h
theorem dvl_none {g : List Int} (tg : trim g = g) (hg : g ≠ []) : ∀ (n : Nat) (q r : List Int), trim r = r → r.length < n → dvl g n (q, r) = none → ¬ Dv (P g) (P r)
  | 0, q, r, _, hn, _ => absurd hn (Nat.not_lt_zero _)
  | n + 1, q, r, tr, hn, h => by
    have hl := lead_ne tg hg
    intro d
    rw [dvl] at h
    split at h
    · rename_i hlen
      have hr : r ≠ [] := fun e => by
        rw [e] at hlen
        have := List.length_pos_iff.2 hg
        simp at hlen
        exact hg hlen
      split at h
      · rename_i hm
        obtain ⟨x, hx⟩ := d
        have hx0 : x ≠ 0 := fun e => P_ne tr hr (by rw [hx, e]; grind)
        have e := PolA.ld_mul (P_ne tg hg) hx0
        rw [← hx, P_ld tr, P_ld tg] at e
        exact hm (Int.fmod_eq_zero_of_dvd ⟨_, e⟩)
      · rename_i hm
        have hm : (lead r).fmod (lead g) = 0 := by omega
        have e := fmod0 hl hm
        have h1 := stepR_len (L := 1) (x := (lead r).fdiv (lead g)) (g := g) tr hg hlen (by omega)
        refine dvl_none tg hg n _ _ (stepR_trim _ _ _ _) (by omega) h ?_
        rw [P_stepR]
        exact (d.mul_l _).sub (Dv.mul_l _ (Dv.refl _))
    · rename_i hlen
      split at h
      · cases h
      · rename_i hr
        have := d.len (P_ne tr hr)
        rw [P_len tr, P_len tg] at this
        omega
def dvD (f g : List Int) : Option (List Int) := dvl g (f.length + 1) ([], f)
theorem dvD_some {f g x : List Int} (tg : trim g = g) (hg : g ≠ []) (h : dvD f g = some x) : P f = P x * P g ∧ trim x = x := by
  have := dvl_some tg hg _ _ _ rfl h
  rw [P_nil] at this
  exact ⟨by grind, this.2⟩
theorem dvD_none {f g : List Int} (tf : trim f = f) (tg : trim g = g) (hg : g ≠ []) (h : dvD f g = none) : ¬ Dv (P g) (P f) := dvl_none tg hg _ _ _ tf (Nat.lt_succ_self _) h
theorem dvD_dv {f g : List Int} (tf : trim f = f) (tg : trim g = g) (hg : g ≠ []) : (dvD f g).isSome = true ↔ Dv (P g) (P f) := by
  cases h : dvD f g with
  | none => simp; exact dvD_none tf tg hg h
  | some x =>
    simp
    exact ⟨P x, by rw [(dvD_some tg hg h).1]; grind⟩
theorem dvD_mul {f g : List Int} (tf : trim f = f) (tg : trim g = g) (hg : g ≠ []) : dvD (pmul f g) g = some f := by
  cases h : dvD (pmul f g) g with
  | none => exact absurd ⟨P f, by rw [P_pmul]; grind⟩ (dvD_none (pmul_trim _ _) tg hg h)
  | some x =>
    have := dvD_some tg hg h
    rw [P_pmul] at this
    rw [P_inj this.2 tf (PolA.mul_cancel (P_ne tg hg) (by grind))]
/-! the greatest common divisor -/
def mpN (f : List Int) : List Int := if f = [] then [] else mpR f
def Prm (f : List Int) : Prop := trim f = f ∧ (f = [] ∨ cont f = 1 ∧ 0 < lead f)
theorem mpN_prm {f : List Int} (tf : trim f = f) : Prm (mpN f) := by
  unfold mpN
  split
  · exact ⟨rfl, .inl rfl⟩
  · rename_i hf
    refine ⟨mpR_trim tf hf, .inr ⟨cont_mpR tf hf, ?_⟩⟩
    have := mpR_lead tf hf
    unfold lead
    rwa [mpR_len]
theorem mpN_eq {f : List Int} (tf : trim f = f) : P f = Po.C (mpS f) * P (mpN f) := by
  unfold mpN
  split
  · rename_i hf; rw [hf, P_nil]; grind
  · rename_i hf
    exact Po.ext fun k => by rw [PolA.c_Cmul]; exact co_mpR tf hf k
theorem mpN_nil {f : List Int} : mpN f = [] ↔ f = [] := by
  unfold mpN
  split
  · rename_i h; simp [h]
  · rename_i h
    constructor
    · intro e
      have := mpR_len f
      rw [e] at this
      exact List.eq_nil_of_length_eq_zero this.symm
    · intro e; exact absurd e h
theorem mpN_len (f : List Int) : (mpN f).length = f.length := by
  unfold mpN
  split
  · rename_i h; rw [h]
  · exact mpR_len f
theorem bd_mpN {f : List Int} {a : Nat} (tf : trim f = f) (h : Bd a f) : Bd a (mpN f) := by
  unfold mpN
  split
  · intro k; exact Nat.two_pow_pos a
  · rename_i hf; exact bd_mpR tf hf h
theorem mpS_ne' {f : List Int} (tf : trim f = f) (hf : f ≠ []) : mpS f ≠ 0 := mpS_ne tf hf
theorem mpN_self {f : List Int} (h : Prm f) : mpN f = f := by
  obtain ⟨tf, rfl | ⟨h1, h2⟩⟩ := h
  · rfl
  · have hf : f ≠ [] := fun e => by rw [e] at h2; exact absurd h2 (by decide)
    have e : mpS f = 1 := (if_pos h2).trans h1
    have h3 := mpN_eq tf
    rw [e, PolA.C_1] at h3
    exact (P_inj tf (mpN_prm tf).1 (by rw [h3]; grind)).symm
def euc : Nat → List Int → List Int → List Int
  | 0, f, _ => f
  | n + 1, f, g => if g = [] then f else euc n g (mpN (pdD f g).2.2)
theorem euc_spec : ∀ (n : Nat) (f g : List Int), Prm f → Prm g → g.length < n → Prm (euc n f g) ∧ (euc n f g = [] → f = [] ∧ g = []) ∧ Dv (P (euc n f g)) (P f) ∧ Dv (P (euc n f g)) (P g) ∧ (∀ e, cont e = 1 → Dv (P e) (P f) → Dv (P e) (P g) → Dv (P e) (P (euc n f g))) ∧ (euc n f g).length ≤ max f.length g.length
  | 0, f, g, _, _, h => absurd h (Nat.not_lt_zero _)
  | n + 1, f, g, pf, pg, h => by
    rw [euc]
    split
    · rename_i hg
      rw [hg, P_nil]
      exact ⟨pf, fun e => ⟨e, rfl⟩, Dv.refl _, Dv.zero _, fun e _ h1 _ => h1, Nat.le_max_left _ _⟩
    · rename_i hg
      obtain ⟨s1, ⟨j, hj⟩, s3, s4, s5⟩ := pdD_spec pf.1 pg.1 hg
      have hs : (pdD f g).1 ≠ 0 := by
        rw [hj]
        exact Int.pow_ne_zero (absL_ne pg.1 hg)
      have pr := mpN_prm s5
      have er := mpN_eq s5
      obtain ⟨i1, i2, i3, i4, i5, i6⟩ := euc_spec n g (mpN (pdD f g).2.2) pg pr (by rw [mpN_len]; omega)
      have hne : euc n g (mpN (pdD f g).2.2) ≠ [] := fun e => hg (i2 e).1
      refine ⟨i1, fun e => absurd e hne, ?_, i3, fun e he h1 h2 => i5 e he h2 ?_, ?_⟩
      · have hc : cont (euc n g (mpN (pdD f g).2.2)) = 1 := by
          rcases i1.2 with e | ⟨e, _⟩
          · exact absurd e hne
          · exact e
        refine prim_dv hc hs ?_
        rw [s1, er]
        exact (i3.mul_l _).add (i4.mul_l _)
      · by_cases hr : (pdD f g).2.2 = []
        · rw [mpN_nil.2 hr, P_nil]; exact Dv.zero _
        · refine prim_dv he (mpS_ne s5 hr) ?_
          rw [← er, show P (pdD f g).2.2 = Po.C (pdD f g).1 * P f - P (pdD f g).2.1 * P g by rw [s1]; grind]
          exact (h1.mul_l _).sub (h2.mul_l _)
      · rw [mpN_len] at i6
        omega
def gcD (f g : List Int) : List Int := psc (Int.gcd (cont f) (cont g)) (euc (g.length + 1) (mpN f) (mpN g))
end Z

set_option maxRecDepth 100000
set_option maxHeartbeats 4000000
set_option autoImplicit false
namespace Z
open PySem PySem.Spec PyProof.Rows L2
open PolA (Po Dv len mono Dom)
/-! sizes in long division -/
theorem pdvS_bd {g : List Int} {st : PdS} {a b : Nat} (hg : Bd b g) (hs : st.1.natAbs < 2 ^ a) (hq : Bd a st.2.1) (hr : Bd a st.2.2) : (pdvS g st).1.natAbs < 2 ^ (a + (b + 1)) ∧ Bd (a + (b + 1)) (pdvS g st).2.1 ∧ Bd (a + (b + 1)) (pdvS g st).2.2 := by
  have hL : (absL g).natAbs < 2 ^ b := by unfold absL; rw [Int.natAbs_natCast]; exact lead_bd hg
  have hx : (sgL g st.2.2).natAbs < 2 ^ a := by rw [sgL_abs]; exact lead_bd hr
  refine ⟨?_, ?_, stepR_bd hL (Nat.le_refl _) hx hr hg⟩
  · have := mul_bits hs hL
    exact Nat.lt_of_lt_of_le this (Nat.pow_le_pow_right (by decide) (by omega))
  · exact ((hq.sc hL).add (Bd.stp _ hx)).up (by omega)
/-- what holds while it goes on: room is left for as many turns as the rest is long -/
def PdB (g : List Int) (b T : Nat) (st : PdS) : Prop := ∃ a, a + st.2.2.length * (b + 1) ≤ T ∧ st.1.natAbs < 2 ^ a ∧ Bd a st.2.1 ∧ Bd a st.2.2
theorem PdB.step {g : List Int} {b T : Nat} {st : PdS} (hg : Bd b g) (h1 : (pdvS g st).2.2.length < st.2.2.length) (h : PdB g b T st) : PdB g b T (pdvS g st) := by
  obtain ⟨a, h2, h3, h4, h5⟩ := h
  refine ⟨a + (b + 1), ?_, pdvS_bd hg h3 h4 h5⟩
  have := Nat.mul_le_mul_right (b + 1) (show (pdvS g st).2.2.length + 1 ≤ st.2.2.length by omega)
  rw [Nat.add_mul] at this
  omega
theorem PdB.bd {g : List Int} {b T : Nat} {st : PdS} (h : PdB g b T st) : st.1.natAbs < 2 ^ T ∧ Bd T st.2.1 ∧ Bd T st.2.2 := by
  obtain ⟨a, h2, h3, h4, h5⟩ := h
  exact ⟨Nat.lt_of_lt_of_le h3 (Nat.pow_le_pow_right (by decide) (by omega)), h4.up (by omega), h5.up (by omega)⟩
/-- the rest's size -/
theorem pdD_bd {f g : List Int} {a b : Nat} (tf : trim f = f) (hg : g ≠ []) (hf : Bd a f) (bg : Bd b g) : Bd (a + (f.length + 1 - g.length) * (b + 1)) (pdD f g).2.2 := by
  by_cases hl : g.length ≤ f.length
  · have key : ∀ (st : PdS), trim st.2.2 = st.2.2 → (∃ a', Bd a' st.2.2 ∧ a' + (st.2.2.length + 1 - g.length) * (b + 1) ≤ a + (f.length + 1 - g.length) * (b + 1)) → Bd (a + (f.length + 1 - g.length) * (b + 1)) (pdF g st).2.2 := by
      intro st tr
      generalize hn : st.2.2.length = n
      induction n using Nat.strongRecOn generalizing st with
      | ind n ih =>
        rintro ⟨a', h1, h2⟩
        by_cases h : g.length ≤ st.2.2.length
        · have h3 := pdvS_len tr hg h
          rw [pdF_step hg tr h]
          refine ih _ (by omega) (pdvS g st) (stepR_trim _ _ _ _) rfl ⟨a' + (b + 1), ?_, ?_⟩
          · have hL : (absL g).natAbs < 2 ^ b := by unfold absL; rw [Int.natAbs_natCast]; exact lead_bd bg
            have hx : (sgL g st.2.2).natAbs < 2 ^ a' := by rw [sgL_abs]; exact lead_bd h1
            exact stepR_bd hL (Nat.le_refl _) hx h1 bg
          · have := Nat.mul_le_mul_right (b + 1) (show ((pdvS g st).2.2.length + 1 - g.length) + 1 ≤ n + 1 - g.length by omega)
            rw [Nat.add_mul] at this
            omega
        · rw [pdF_stop h]
          exact h1.up (by omega)
    exact key (1, [], f) tf ⟨a, hf, Nat.le_refl _⟩
  · have : pdD f g = (1, [], f) := pdF_stop hl
    rw [this]
    exact hf.up (by omega)
/-! sizes in the row of rests -/
def wsq (c : Nat) : Nat → Nat
  | 0 => c
  | 1 => 2 * c + 1
  | n + 2 => wsq c n + 2 * wsq c (n + 1) + 2
theorem wsq_mono1 (c : Nat) : ∀ n, wsq c n ≤ wsq c (n + 1)
  | 0 => by simp [wsq]; omega
  | 1 => by simp [wsq]; omega
  | n + 2 => by
    have : wsq c (n + 2 + 1) = wsq c (n + 1) + 2 * wsq c (n + 2) + 2 := rfl
    omega
theorem wsq_mono (c : Nat) {n k : Nat} (h : n ≤ k) : wsq c n ≤ wsq c k := by
  induction k with
  | zero => obtain rfl : n = 0 := by omega
            exact Nat.le_refl _
  | succ k ih =>
    rcases Nat.lt_or_ge n (k + 1) with a | a
    · exact Nat.le_trans (ih (by omega)) (wsq_mono1 c k)
    · obtain rfl : n = k + 1 := by omega
      exact Nat.le_refl _
theorem wsq_gap (c i : Nat) : ∀ gap, wsq c i + (gap + 2) * (wsq c (i + 1) + 1) ≤ wsq c (i + 2 + gap)
  | 0 => by rw [wsq]; omega
  | gap + 1 => by
    have ih := wsq_gap c i gap
    have h1 := wsq_mono c (show i + 1 ≤ i + 1 + gap by omega)
    have e : wsq c (i + 2 + (gap + 1)) = wsq c (i + 1 + gap) + 2 * wsq c (i + 2 + gap) + 2 := by
      rw [show i + 2 + (gap + 1) = (i + 1 + gap) + 2 by omega, wsq, show i + 1 + gap + 1 = i + 2 + gap by omega]
    rw [e, show gap + 1 + 2 = (gap + 2) + 1 by omega, Nat.add_mul]
    have h2 := wsq_mono c (show i + 1 + gap ≤ i + 2 + gap by omega)
    omega
/-- a pair on its way: the first one longer -/
def EuB (c N : Nat) (f g : List Int) : Prop := g.length < f.length ∧ f.length ≤ N ∧ Bd (wsq c (N - f.length)) f ∧ Bd (wsq c (N + 1 - f.length)) g
theorem EuB.step {c N : Nat} {f g : List Int} (tf : trim f = f) (tg : trim g = g) (hg : g ≠ []) (h : EuB c N f g) : EuB c N g (mpN (pdD f g).2.2) ∧ Bd (wsq c N) (pdD f g).2.2 := by
  obtain ⟨h1, h2, h3, h4⟩ := h
  obtain ⟨_, _, _, s4, s5⟩ := pdD_spec tf tg hg
  have hk := List.length_pos_iff.2 hg
  have hb := pdD_bd tf hg h3 h4
  have hgap := wsq_gap c (N - f.length) (f.length - g.length - 1)
  rw [show f.length - g.length - 1 + 2 = f.length + 1 - g.length by omega, show N - f.length + 1 = N + 1 - f.length by omega, show N - f.length + 2 + (f.length - g.length - 1) = N + 1 - g.length by omega] at hgap
  have hb2 := hb.up hgap
  exact ⟨⟨by rw [mpN_len]; exact s4, by omega, h4.up (wsq_mono c (by omega)), bd_mpN s5 hb2⟩, hb2.up (wsq_mono c (by omega))⟩
/-- the first turn -/
theorem EuB.start {c N : Nat} {f g : List Int} (tf : trim f = f) (tg : trim g = g) (hg : g ≠ []) (hf : f.length ≤ N) (hgl : g.length ≤ N) (h3 : Bd c f) (h4 : Bd c g) : EuB c N g (mpN (pdD f g).2.2) ∧ Bd (wsq c N) (pdD f g).2.2 := by
  have hk := List.length_pos_iff.2 hg
  obtain ⟨_, _, _, s4, s5⟩ := pdD_spec tf tg hg
  have c0 : ∀ n, c ≤ wsq c n := fun n => wsq_mono c (Nat.zero_le n)
  have c1 : ∀ n, 1 ≤ n → 2 * c + 1 ≤ wsq c n := fun n hn => wsq_mono c hn
  rcases Nat.lt_or_ge g.length f.length with a | a
  · exact EuB.step tf tg hg ⟨a, hf, h3.up (c0 _), h4.up (c0 _)⟩
  · have hb := pdD_bd tf hg h3 h4
    have h5 : (f.length + 1 - g.length) * (c + 1) ≤ 1 * (c + 1) := Nat.mul_le_mul_right _ (by omega)
    have hb2 : Bd (2 * c + 1) (pdD f g).2.2 := hb.up (by omega)
    exact ⟨⟨by rw [mpN_len]; exact s4, hgl, h4.up (c0 _), bd_mpN s5 (hb2.up (c1 _ (by omega)))⟩, hb2.up (c1 _ (by omega))⟩
theorem EuB.first {c N : Nat} {f g : List Int} (h : EuB c N f g) : Bd (wsq c (N - 1)) f := h.2.2.1.up (wsq_mono c (by have := h.1; omega))
/-! sizes in whole division -/
theorem dvS_bd {g q r : List Int} {a b : Nat} (hg : Bd b g) (hq : Bd a q) (hr : Bd a r) (hl : lead g ≠ 0) (h0 : (lead r).fmod (lead g) = 0) : ((lead r).fdiv (lead g)).natAbs < 2 ^ a ∧ Bd (a + (b + 1)) (padd q (stp (r.length - g.length) ((lead r).fdiv (lead g)))) ∧ Bd (a + (b + 1)) (stepR 1 ((lead r).fdiv (lead g)) g r) := by
  have h1 := lead_bd hr
  have h2 : ((lead r).fdiv (lead g)).natAbs < 2 ^ a := by
    have e := congrArg Int.natAbs (fmod0 hl h0)
    rw [Int.natAbs_mul] at e
    have := Nat.le_mul_of_pos_right ((lead r).fdiv (lead g)).natAbs (show 0 < (lead g).natAbs by omega)
    omega
  refine ⟨h2, (hq.add (Bd.stp _ h2)).up (by omega), ?_⟩
  by_cases hb : b = 0
  · exact absurd (lead_bd hg) (by rw [hb]; omega)
  · exact stepR_bd (c := 1) (by decide) (by omega) h2 hr hg
/-! whole division, turn by turn -/
theorem dvl_more {g : List Int} (tg : trim g = g) (hg : g ≠ []) : ∀ (n k : Nat) (q r : List Int), trim r = r → r.length < n → r.length < k → dvl g n (q, r) = dvl g k (q, r)
  | 0, k, q, r, _, h, _ => absurd h (Nat.not_lt_zero _)
  | n + 1, 0, q, r, _, _, h => absurd h (Nat.not_lt_zero _)
  | n + 1, k + 1, q, r, tr, hn, hk => by
    rw [dvl, dvl]
    by_cases hlen : g.length ≤ r.length
    · rw [if_pos hlen, if_pos hlen]
      by_cases hm : (lead r).fmod (lead g) = 0
      · have e := fmod0 (lead_ne tg hg) hm
        have h1 := stepR_len (L := 1) (x := (lead r).fdiv (lead g)) (g := g) tr hg hlen (by omega)
        rw [if_neg (by omega), if_neg (by omega)]
        exact dvl_more tg hg n k _ _ (stepR_trim _ _ _ _) (by omega) (by omega)
      · rw [if_pos hm, if_pos hm]
    · rw [if_neg hlen, if_neg hlen]
def dvF (g q r : List Int) : Option (List Int) := dvl g (r.length + 1) (q, r)
theorem dvF_step {g q r : List Int} (tg : trim g = g) (hg : g ≠ []) (tr : trim r = r) (h : g.length ≤ r.length) (hm : (lead r).fmod (lead g) = 0) : dvF g q r = dvF g (padd q (stp (r.length - g.length) ((lead r).fdiv (lead g)))) (stepR 1 ((lead r).fdiv (lead g)) g r) := by
  have e := fmod0 (lead_ne tg hg) hm
  have h1 := stepR_len (L := 1) (x := (lead r).fdiv (lead g)) (g := g) tr hg h (by omega)
  unfold dvF
  rw [dvl, if_pos h, if_neg (by omega)]
  exact dvl_more tg hg _ _ _ _ (stepR_trim _ _ _ _) (by omega) (by omega)
theorem dvF_no {g q r : List Int} (h : g.length ≤ r.length) (hm : (lead r).fmod (lead g) ≠ 0) : dvF g q r = none := by
  unfold dvF
  rw [dvl, if_pos h, if_pos hm]
theorem dvF_end {g q r : List Int} (h : ¬ g.length ≤ r.length) : dvF g q r = if r = [] then some q else none := by
  unfold dvF
  rw [dvl, if_neg h]
def DvB (b T : Nat) (q r : List Int) : Prop := ∃ a, a + r.length * (b + 1) ≤ T ∧ Bd a q ∧ Bd a r
theorem DvB.step {g q r : List Int} {b T : Nat} (tg : trim g = g) (hg : g ≠ []) (tr : trim r = r) (hl : g.length ≤ r.length) (h0 : (lead r).fmod (lead g) = 0) (bg : Bd b g) (h : DvB b T q r) : DvB b T (padd q (stp (r.length - g.length) ((lead r).fdiv (lead g)))) (stepR 1 ((lead r).fdiv (lead g)) g r) ∧ (stepR 1 ((lead r).fdiv (lead g)) g r).length < r.length := by
  obtain ⟨a, h1, h2, h3⟩ := h
  have e := fmod0 (lead_ne tg hg) h0
  have hs := stepR_len (L := 1) (x := (lead r).fdiv (lead g)) (g := g) tr hg hl (by omega)
  obtain ⟨_, b1, b2⟩ := dvS_bd bg h2 h3 (lead_ne tg hg) h0
  refine ⟨⟨a + (b + 1), ?_, b1, b2⟩, hs⟩
  have := Nat.mul_le_mul_right (b + 1) (show (stepR 1 ((lead r).fdiv (lead g)) g r).length + 1 ≤ r.length by omega)
  rw [Nat.add_mul] at this
  omega
theorem DvB.bd {b T : Nat} {q r : List Int} (h : DvB b T q r) : Bd T q ∧ Bd T r := by
  obtain ⟨a, h1, h2, h3⟩ := h
  exact ⟨h2.up (by omega), h3.up (by omega)⟩
theorem dvF_bd {g : List Int} {b T : Nat} (tg : trim g = g) (hg : g ≠ []) (bg : Bd b g) : ∀ (n : Nat) (q r : List Int), r.length < n → trim r = r → DvB b T q r → ∀ x, dvF g q r = some x → Bd T x
  | 0, _, _, h, _, _, _, _ => absurd h (Nat.not_lt_zero _)
  | n + 1, q, r, hn, tr, hb, x, hx => by
    by_cases hl : g.length ≤ r.length
    · by_cases hm : (lead r).fmod (lead g) = 0
      · obtain ⟨s1, s2⟩ := hb.step tg hg tr hl hm bg
        rw [dvF_step tg hg tr hl hm] at hx
        exact dvF_bd tg hg bg n _ _ (by omega) (stepR_trim _ _ _ _) s1 x hx
      · rw [dvF_no hl hm] at hx; cases hx
    · rw [dvF_end hl] at hx
      split at hx
      · cases hx; exact hb.bd.1
      · cases hx
theorem dvD_F (f g : List Int) : dvD f g = dvF g [] f := rfl
end Z

set_option maxRecDepth 100000
set_option maxHeartbeats 4000000
set_option autoImplicit false
namespace Z
open PySem PySem.Spec PyProof.Rows L2
open PolA (Po Dv len mono Dom)
theorem euc_more : ∀ (n k : Nat) (f g : List Int), trim f = f → trim g = g → g.length < n → g.length < k → euc n f g = euc k f g
  | 0, k, f, g, _, _, h, _ => absurd h (Nat.not_lt_zero _)
  | n + 1, 0, f, g, _, _, _, h => absurd h (Nat.not_lt_zero _)
  | n + 1, k + 1, f, g, tf, tg, hn, hk => by
    rw [euc, euc]
    by_cases hg : g = []
    · rw [if_pos hg, if_pos hg]
    · obtain ⟨_, _, _, s4, s5⟩ := pdD_spec tf tg hg
      rw [if_neg hg, if_neg hg]
      exact euc_more n k g _ tg (mpN_prm s5).1 (by rw [mpN_len]; omega) (by rw [mpN_len]; omega)
def eucF (f g : List Int) : List Int := euc (g.length + 1) f g
theorem eucF_step {f g : List Int} (tf : trim f = f) (tg : trim g = g) (hg : g ≠ []) : eucF f g = eucF g (mpN (pdD f g).2.2) := by
  obtain ⟨_, _, _, s4, s5⟩ := pdD_spec tf tg hg
  unfold eucF
  rw [euc, if_neg hg]
  exact euc_more _ _ _ _ tg (mpN_prm s5).1 (by rw [mpN_len]; omega) (by rw [mpN_len]; omega)
theorem eucF_nil (f : List Int) : eucF f [] = f := by unfold eucF; rw [euc, if_pos rfl]
theorem eucF_spec {f g : List Int} (pf : Prm f) (pg : Prm g) : Prm (eucF f g) ∧ (eucF f g = [] → f = [] ∧ g = []) ∧ Dv (P (eucF f g)) (P f) ∧ Dv (P (eucF f g)) (P g) ∧ (∀ e, cont e = 1 → Dv (P e) (P f) → Dv (P e) (P g) → Dv (P e) (P (eucF f g))) ∧ (eucF f g).length ≤ max f.length g.length := euc_spec _ f g pf pg (Nat.lt_succ_self _)
theorem gcD_F (f g : List Int) : gcD f g = psc (Int.gcd (cont f) (cont g)) (eucF (mpN f) (mpN g)) := by
  unfold gcD eucF
  rw [mpN_len]
theorem dv_nil {f : List Int} : Dv (P f) (P []) := by rw [P_nil]; exact Dv.zero _
theorem Prm.cont {f : List Int} (h : Prm f) (hf : f ≠ []) : Z.cont f = 1 := by
  rcases h.2 with e | e
  · exact absurd e hf
  · exact e.1
theorem Prm.lead {f : List Int} (h : Prm f) (hf : f ≠ []) : 0 < Z.lead f := by
  rcases h.2 with e | e
  · exact absurd e hf
  · exact e.2
theorem mpS_abs (f : List Int) : ((mpS f).natAbs : Int) = cont f := by
  have := cont_nn f
  unfold mpS
  split <;> omega
theorem dv_psc {d : Int} {e f : List Int} (tf : trim f = f) (he : Dv (P e) (P (mpN f))) (hd : d ∣ cont f) : Dv (P (psc d e)) (P f) := by
  obtain ⟨x, hx⟩ := he
  have h1 : d ∣ mpS f := by
    rw [← mpS_abs] at hd
    exact Int.dvd_natAbs.1 hd
  obtain ⟨y, hy⟩ := h1
  refine ⟨Po.C y * x, ?_⟩
  rw [mpN_eq tf, hx, hy, P_psc, PolA.C_mul]; grind
theorem lead_psc {d : Int} {f : List Int} (hd : d ≠ 0) (tf : trim f = f) : lead (psc d f) = d * lead f ∧ (psc d f).length = f.length := by
  by_cases hf : f = []
  · subst hf; exact ⟨by rw [lead_nil, Int.mul_zero]; rfl, rfl⟩
  · have h1 : (psc d f).length = f.length := by
      have h2 := PolA.len_mul (PolA.C_ne hd) (P_ne tf hf)
      rw [← P_psc, P_len (psc_trim _ _), P_len tf, PolA.len_C hd] at h2
      omega
    exact ⟨by unfold lead; rw [h1, co_psc], h1⟩
theorem mpN_dv {f : List Int} (tf : trim f = f) {e : List Int} (he : cont e = 1) (h : Dv (P e) (P f)) : Dv (P e) (P (mpN f)) := by
  by_cases hf : f = []
  · rw [mpN_nil.2 hf]; exact dv_nil
  · exact prim_dv he (mpS_ne tf hf) (by rw [← mpN_eq tf]; exact h)
theorem dv_mpN {f : List Int} (tf : trim f = f) {e : List Int} (h : Dv (P e) (P (mpN f))) : Dv (P e) (P f) := by
  rw [mpN_eq tf]; exact h.mul_l _
theorem cont0 {f : List Int} (h : cont f = 0) (tf : trim f = f) : f = [] := by
  refine Classical.byContradiction fun hf => ?_
  have := cont_pos (lead_ne tf hf : co f (f.length - 1) ≠ 0)
  omega
theorem gcd_pos {f g : List Int} (tf : trim f = f) (tg : trim g = g) (h : ¬ (f = [] ∧ g = [])) : 0 < Int.gcd (cont f) (cont g) := by
  refine Int.gcd_pos_iff.2 ?_
  by_cases hf : f = []
  · right; intro e; exact h ⟨hf, cont0 e tg⟩
  · left; intro e; exact hf (cont0 e tf)
theorem gcD_spec {f g : List Int} (tf : trim f = f) (tg : trim g = g) (h : ¬ (f = [] ∧ g = [])) : trim (gcD f g) = gcD f g ∧ gcD f g ≠ [] ∧ 0 < lead (gcD f g) ∧ cont (gcD f g) = Int.gcd (cont f) (cont g) ∧ Dv (P (gcD f g)) (P f) ∧ Dv (P (gcD f g)) (P g) ∧ (∀ e, cont e = 1 → Dv (P e) (P f) → Dv (P e) (P g) → Dv (P e) (P (gcD f g))) := by
  obtain ⟨s1, s2, s3, s4, s5, s6⟩ := eucF_spec (mpN_prm tf) (mpN_prm tg)
  have hp := gcd_pos tf tg h
  have hne : eucF (mpN f) (mpN g) ≠ [] := fun e => h (by have := s2 e; exact ⟨mpN_nil.1 this.1, mpN_nil.1 this.2⟩)
  have hd : (Int.gcd (cont f) (cont g) : Int) ≠ 0 := by omega
  obtain ⟨l1, l2⟩ := lead_psc hd s1.1
  rw [gcD_F]
  refine ⟨psc_trim _ _, fun e => ?_, ?_, ?_, dv_psc tf s3 (Int.gcd_dvd_left ..), dv_psc tg s4 (Int.gcd_dvd_right ..), fun e he h1 h2 => ?_⟩
  · rw [e] at l2
    exact hne (List.eq_nil_of_length_eq_zero l2.symm)
  · rw [l1]; exact Int.mul_pos (by omega) (s1.lead hne)
  · rw [cont_C, s1.cont hne, Int.natAbs_natCast, Int.mul_one]
  · rw [P_psc]
    exact (s5 e he (mpN_dv tf he h1) (mpN_dv tg he h2)).mul_l _
theorem gcD_nil : gcD [] [] = [] := rfl
/-! slopes -/
theorem co_pslope (f : List Int) (k : Nat) : co (pslope f) k = (k + 1 : Nat) * co f (k + 1) := by
  unfold pslope
  rw [co_trim]
  unfold rng
  rw [List.map_map, co_map_range]
  split
  · show (1 + (k : Int)) * co f (1 + (k : Int)).toNat = _
    rw [show (1 + (k : Int)).toNat = k + 1 by omega, show (1 + (k : Int)) = ((k + 1 : Nat) : Int) by omega]
  · rw [co_ge (l := f) (by omega)]; simp
theorem pslope_trim (f : List Int) : trim (pslope f) = pslope f := trim_trim _
theorem pslope_len {f : List Int} (tf : trim f = f) (hf : 2 ≤ f.length) : (pslope f).length = f.length - 1 := by
  rw [← P_len (pslope_trim f)]
  have h1 : lead f ≠ 0 := lead_ne tf (fun e => by rw [e] at hf; simp at hf)
  have := PolA.len_of (f := P (pslope f)) (n := f.length - 2) (by
    rw [c_P, co_pslope, show f.length - 2 + 1 = f.length - 1 by omega, lead_c]
    exact Int.mul_ne_zero (by omega) h1) fun k hk => by
    rw [c_P, co_pslope, co_ge (by omega)]; simp
  omega
theorem pslope_psc (s : Int) (f : List Int) : pslope (psc s f) = psc s (pslope f) := P_inj (pslope_trim _) (psc_trim _ _) (Po.ext fun k => by
  rw [c_P, c_P, co_pslope, co_psc, co_psc, co_pslope]; grind)
theorem bd_pslope {f : List Int} {a c : Nat} (h : Bd a f) (hl : f.length ≤ 2 ^ c) : Bd (a + c) (pslope f) := fun k => by
  rw [co_pslope]
  by_cases hk : k + 1 < f.length
  · rw [Nat.add_comm a c]
    exact mul_bits (by rw [Int.natAbs_natCast]; omega) (h _)
  · rw [co_ge (by omega)]; simp
    exact Nat.two_pow_pos _
theorem mpN_psc {s : Int} (hs : s ≠ 0) {f : List Int} (tf : trim f = f) : mpN (psc s f) = mpN f := by
  by_cases hf : f = []
  · subst hf; rfl
  have hp : psc s f ≠ [] := fun e => by
    have := (lead_psc hs tf).2
    rw [e] at this
    exact hf (List.eq_nil_of_length_eq_zero this.symm)
  have tp := psc_trim s f
  have e1 := mpN_eq tp
  have e2 := mpN_eq tf
  rw [P_psc, e2] at e1
  have hl := (lead_psc hs tf).1
  have p1 := mpN_prm tp
  have p2 := mpN_prm tf
  have hs1 : mpS (psc s f) = s * mpS f := by
    have hl0 := lead_ne tf hf
    have hc := cont_C s f
    have d1 : mpS (psc s f) = if 0 < lead (psc s f) then cont (psc s f) else -cont (psc s f) := rfl
    have d2 : mpS f = if 0 < lead f then cont f else -cont f := rfl
    rw [d1, d2, hl, hc]
    rcases Int.lt_or_gt_of_ne hs with a | a <;> rcases Int.lt_or_gt_of_ne hl0 with b | b
    · rw [if_pos (Int.mul_pos_of_neg_of_neg a b), if_neg (by omega), Int.ofNat_natAbs_of_nonpos (by omega)]; grind
    · rw [if_neg (by have := Int.mul_neg_of_neg_of_pos a b; omega), if_pos b, Int.ofNat_natAbs_of_nonpos (by omega)]; grind
    · rw [if_neg (by have := Int.mul_neg_of_pos_of_neg a b; omega), if_neg (by omega), Int.natAbs_of_nonneg (by omega)]; grind
    · rw [if_pos (Int.mul_pos a b), if_pos b, Int.natAbs_of_nonneg (by omega)]
  refine (P_inj p2.1 p1.1 (PolA.mul_cancel (PolA.C_ne (Int.mul_ne_zero hs (mpS_ne tf hf))) ?_)).symm
  rw [hs1] at e1
  rw [← e1, PolA.C_mul]; grind
theorem mpN_slope {f : List Int} (tf : trim f = f) (hf : f ≠ []) : mpN (pslope f) = mpN (pslope (mpN f)) := by
  have e : f = psc (mpS f) (mpN f) := P_inj tf (psc_trim _ _) (by rw [P_psc]; exact mpN_eq tf)
  have : pslope f = psc (mpS f) (pslope (mpN f)) := by
    rw [← pslope_psc, ← e]
  rw [this, mpN_psc (mpS_ne tf hf) (pslope_trim _)]
/-! each root once -/
def wdD (f : List Int) : List Int := if 1 < f.length then mpN ((dvD (mpN f) (eucF (mpN f) (mpN (pslope (mpN f))))).getD []) else mpN f
theorem wd_some {f : List Int} (tf : trim f = f) (hf : f ≠ []) : ∃ q, dvD (mpN f) (eucF (mpN f) (mpN (pslope (mpN f)))) = some q ∧ trim q = q ∧ P (mpN f) = P q * P (eucF (mpN f) (mpN (pslope (mpN f)))) ∧ cont q = 1 ∧ q ≠ [] := by
  obtain ⟨s1, s2, s3, s4, s5, s6⟩ := eucF_spec (mpN_prm tf) (mpN_prm (pslope_trim (mpN f)))
  have hm : mpN f ≠ [] := fun e => hf (mpN_nil.1 e)
  have hne : eucF (mpN f) (mpN (pslope (mpN f))) ≠ [] := fun e => hm (s2 e).1
  cases hd : dvD (mpN f) (eucF (mpN f) (mpN (pslope (mpN f)))) with
  | none => exact absurd s3 (dvD_none (mpN_prm tf).1 s1.1 hne hd)
  | some q =>
    obtain ⟨q1, q2⟩ := dvD_some s1.1 hne hd
    refine ⟨q, rfl, q2, q1, ?_, fun e => hm ?_⟩
    · have h1 := gauss_mul q (eucF (mpN f) (mpN (pslope (mpN f))))
      rw [← cont_P (show P (mpN f) = P (pmul q (eucF (mpN f) (mpN (pslope (mpN f))))) by rw [P_pmul, q1]), (mpN_prm tf).cont hm, s1.cont hne, Int.mul_one] at h1
      exact h1.symm
    · rw [e, P_nil] at q1
      exact (P_eq0 (mpN_prm tf).1).1 (by rw [q1]; grind)
end Z

set_option maxRecDepth 100000
set_option maxHeartbeats 4000000
set_option autoImplicit false
namespace Z
open PySem PySem.Spec PyProof.Rows L2
/-! a set made of a list of ints -/
section
variable {P : Program} {w : World} {A : Around} {E : Value → Shared → Prop} {s : Shared}
def emO (w : World) : Obj := { cls := .type "set", dict := none, data := .set #[] 0 (.fresh 0 0 (!w.params.followText "set-order")) }
def itO (l : Addr) : Obj := { cls := .type "list_iterator", data := .fields #[.ref l, .int 0 0] }
theorem setR_em {w : World} {h : Heap} {a : Addr} (ns : List Int) (e : h.get? a = some (emO w)) : SetR w h a (fun j => decide (j ∈ ns.take 0)) 0 := setR_new_at e
/-- behind set(..): a set that holds these ints, the rest as it was -/
def SetMade (w : World) (ns : List Int) (s : Shared) (t : Shared) : Prop := ∃ (hp : Heap) (tk n : Nat), t = { s with heap := hp, toks := tk } ∧ SetR w hp s.heap.objs.size (fun j => decide (j ∈ ns)) n ∧ n ≤ ns.length ∧ ∀ b o, s.heap.get? b = some o → hp.get? b = some o
theorem set_init_list {l : Addr} {its : Array Value} (ns : List Int) (hA : A.handled = none) (hL : s.heap.IsList l its) (hI : IntsAre its.toList ns) (hB : ns.length + 1 < scanBound) :
    codeAny (model P w) A (.call (.builtin "set.__init__") ⟨[.ref s.heap.objs.size, .ref l], []⟩) (wants (fun r t => r = .none ∧ SetMade w ns s t) E) { s with heap := s.heap.push (emO w) } := by
  have hz : its.size = ns.length := by have := IntsAre.length hI; rwa [Array.length_toList] at this
  have hNew : (s.heap.push (emO w)).get? s.heap.objs.size = some (emO w) := Heap.get?_push_size _ rfl
  have hTy : Shared.TypeIs { s with heap := s.heap.push (emO w) } (.ref s.heap.objs.size) "set" := ⟨_, hNew, rfl⟩
  refine codeAny_call_builtin F.called_set.init.plain F.entry_set_init (check_set_init_1 hTy ?_)
  obtain ⟨⟨c0, d0, u0, f0⟩, hGet, hCls, n0, hDat⟩ := hL
  simp only at hCls hDat
  subst hCls hDat
  have hGet2 := Heap.get?_push_of_some (emO w) hGet
  have hSub1 := F.sub_list_set
  have hSub2 := F.sub_list_frozenset
  have hNotD : (Value.type "list" == Value.type "dict") = false := by decide
  have hL2 : (s.heap.push (emO w)).IsList l its := ⟨_, hGet2, rfl, n0, rfl⟩
  unfold Builtin.«set.__init__» noKeywords Builtin.Frozenset.updateFrom
  generalize hp0 : pyIter = p0
  wp_walk
  subst hp0
  refine wpAny_pyIter_list hL2 ?_
  refine wpAny_bind (wpAny_runValue ?_)
  have hLt : l < s.heap.objs.size := Heap.lt_size hGet
  have hA3 : A.in1.in1.handled = none := by simp [hA]
  have hNe : l ≠ (s.heap.push (emO w)).objs.size := fun e => absurd hLt (by rw [e, Heap.size_push]; exact Nat.not_lt_of_le (Nat.le_succ _))
  have hOut : s.heap.objs.size ∉ [(s.heap.push (emO w)).objs.size, l] := by
    rw [Heap.size_push]
    intro hm
    rcases List.mem_cons.1 hm with e | hm
    · exact absurd e (Nat.ne_of_lt (Nat.lt_succ_self _))
    · exact absurd (List.mem_singleton.1 hm) (Nat.ne_of_gt hLt)
  have hVal : ∀ (i : Nat) (v : Value), its[i]? = some v → ∃ k t, ns[i]? = some k ∧ v = .int k t := by
    intro i v hv
    have hi : i < ns.length := by rw [← hz]; exact (Array.getElem?_eq_some_iff.mp hv).1
    obtain ⟨t, e⟩ := IntsAre.int_at hI i v (by rw [Array.getElem?_toList]; exact hv)
    exact ⟨ns[i], t, List.getElem?_eq_getElem hi, by rw [e, List.getD_eq_getElem?_getD, List.getElem?_eq_getElem hi]; rfl⟩
  refine set_update_ints ((Walks.list hA3 _ l hNe its).toS) s.heap.objs.size hOut ns hz hB hVal its.size 0 _ (Nat.sub_zero _) (Nat.zero_le _) ?st ?base ?_
  case st => exact ⟨⟨_, Heap.get?_push_size _ rfl, rfl, rfl⟩, hL2.push _⟩
  case base => exact ⟨0, Nat.le_refl 0, setR_em ns (Heap.get?_push_of_some (itO l) hNew)⟩
  rintro ⟨h1, g1, d1, t1, o1⟩ n hMv hn hR
  have eg : g1 = s.gens := hMv.gens
  have ed : d1 = s.drawn := hMv.drawn
  have eo : o1 = s.os := hMv.os
  subst eg ed eo
  rw [hz] at hn
  refine wpAny_pure ?_
  refine wpAny_pure ⟨rfl, h1, t1, n, rfl, hR, hn, fun b o e => ?_⟩
  have hb0 := Heap.lt_size e
  refine hMv.heap b o ?_ (Heap.get?_push_of_some _ (Heap.get?_push_of_some _ e))
  rw [Heap.size_push]
  intro hm
  rcases List.mem_cons.1 hm with e | hm
  · exact absurd e (Nat.ne_of_lt hb0)
  · exact absurd (List.mem_singleton.1 hm) (Nat.ne_of_lt (Nat.lt_succ_of_lt hb0))
theorem call_setI {l : Addr} {its : Array Value} (ns : List Int) {Q : Value → Shared → Prop} (hA : A.handled = none) (hL : s.heap.IsList l its) (hI : IntsAre its.toList ns) (hB : ns.length + 1 < scanBound)
    (q : ∀ t, SetMade w ns s t → Q (.ref s.heap.objs.size) t) : wpAny (model P w) A (call (.type "set") [.ref l]) Q E s := by
  obtain ⟨cc, rest, hOrd⟩ := F.called_set.mro
  have f1 := F.called_set.made
  have f2 := F.called_set.sub
  have f3 := F.called_set.notType
  have f4 := F.called_set.canCreate
  have f5 := F.typeCall_set_1 (.ref l)
  refine wpAny_call (codeAny_of_tree ?_)
  refine wpAny_pure ⟨Code.quiet_builtin _ (by decide +kernel), codeAny_builtin F.entry_type_call ?_⟩
  rw [Around.under_plain (weight_type_call_type "set" [.ref l] []) rfl]
  repeat any_goals first | wp_step | assumption
  refine codeAny_mono (code_set_led1 (.ref l) (E := E) (Q₁ := fun v t => v = .ref s.heap.objs.size ∧ t = { s with heap := s.heap.push (emO w) }) ⟨rfl, rfl⟩) ?_
  intro out t ho
  match out, ho with
  | .error _, ho => exact ho
  | .ok (.ret v), ho =>
    obtain ⟨rfl, rfl⟩ := ho
    have hNew : (s.heap.push (emO w)).get? s.heap.objs.size = some (emO w) := Heap.get?_push_size _ rfl
    have hTy : Shared.TypeIs { s with heap := s.heap.push (emO w) } (.ref s.heap.objs.size) "set" := ⟨_, hNew, rfl⟩
    have f6 := F.called_set.init.lookup
    have f7 := F.called_set.init.bind (.ref s.heap.objs.size)
    repeat any_goals first | wp_step | assumption
    refine codeAny_mono (set_init_list (A := A.in1) (E := E) ns (by simp [hA]) hL hI hB) ?_
    intro out2 t2 ho2
    match out2, ho2 with
    | .error _, ho2 => exact ho2
    | .ok (.ret v2), ho2 =>
      obtain ⟨rfl, hq⟩ := ho2
      have hq2 := q _ hq
      repeat any_goals first | wp_step | assumption
end
end Z

set_option maxRecDepth 100000
set_option maxHeartbeats 4000000
set_option autoImplicit false
namespace Z
open PySem PySem.Spec PyProof.Rows L2
/-! sorted -/
def ins (x : Int) : List Int → List Int
  | [] => [x]
  | y :: l => if x ≤ y then x :: y :: l else y :: ins x l
def srt : List Int → List Int
  | [] => []
  | x :: l => ins x (srt l)
theorem ins_perm (x : Int) : ∀ l : List Int, (ins x l).Perm (x :: l)
  | [] => List.Perm.refl _
  | y :: l => by
    rw [ins]
    split
    · exact List.Perm.refl _
    · exact ((ins_perm x l).cons y).trans (List.Perm.swap x y l)
theorem srt_perm : ∀ l : List Int, (srt l).Perm l
  | [] => List.Perm.refl _
  | x :: l => (ins_perm x (srt l)).trans ((srt_perm l).cons x)
theorem ins_asc (x : Int) : ∀ l : List Int, l.Pairwise (· ≤ ·) → (ins x l).Pairwise (· ≤ ·)
  | [], _ => by simp [ins]
  | y :: l, h => by
    rw [ins]
    have h' := List.pairwise_cons.1 h
    split
    · rename_i c
      refine List.pairwise_cons.2 ⟨fun z hz => ?_, h⟩
      rcases List.mem_cons.1 hz with rfl | hz
      · exact c
      · have := h'.1 z hz; omega
    · rename_i c
      refine List.pairwise_cons.2 ⟨fun z hz => ?_, ins_asc x l h'.2⟩
      rcases List.mem_cons.1 ((ins_perm x l).mem_iff.1 hz) with rfl | hz
      · omega
      · exact h'.1 z hz
theorem srt_asc : ∀ l : List Int, (srt l).Pairwise (· ≤ ·)
  | [] => List.Pairwise.nil
  | x :: l => ins_asc x _ (srt_asc l)
theorem asc_uq : ∀ {a b : List Int}, a.Pairwise (· ≤ ·) → b.Pairwise (· ≤ ·) → a.Perm b → a = b
  | [], b, _, _, h => (List.Perm.nil_eq h)
  | x :: a, [], _, _, h => absurd h.length_eq (by simp)
  | x :: a, y :: b, ha, hb, h => by
    have ha' := List.pairwise_cons.1 ha
    have hb' := List.pairwise_cons.1 hb
    have e : x = y := by
      have h1 : x ∈ y :: b := h.mem_iff.1 (List.mem_cons_self ..)
      have h2 : y ∈ x :: a := h.mem_iff.2 (List.mem_cons_self ..)
      rcases List.mem_cons.1 h1 with e | h1
      · exact e
      · rcases List.mem_cons.1 h2 with e | h2
        · exact e.symm
        · have := ha'.1 y h2
          have := hb'.1 x h1
          omega
    subst e
    rw [asc_uq ha'.2 hb'.2 (List.Perm.cons_inv h)]
theorem srt_uq {a l : List Int} (h : a.Pairwise (· ≤ ·)) (p : a.Perm l) : a = srt l := asc_uq h (srt_asc l) (p.trans (srt_perm l).symm)
/-- each once -/
def insU (x : Int) : List Int → List Int
  | [] => [x]
  | y :: l => if x < y then x :: y :: l else if x = y then y :: l else y :: insU x l
def srtU : List Int → List Int
  | [] => []
  | x :: l => insU x (srtU l)
theorem insU_mem (x z : Int) : ∀ l : List Int, z ∈ insU x l ↔ z = x ∨ z ∈ l
  | [] => by simp [insU]
  | y :: l => by
    rw [insU]
    split
    · simp
    · split
      · rename_i e
        subst e
        simp
      · rw [List.mem_cons, insU_mem x z l, List.mem_cons]
        constructor
        · rintro (h | h | h)
          · exact .inr (.inl h)
          · exact .inl h
          · exact .inr (.inr h)
        · rintro (h | h | h)
          · exact .inr (.inl h)
          · exact .inl h
          · exact .inr (.inr h)
theorem srtU_mem (z : Int) : ∀ l : List Int, z ∈ srtU l ↔ z ∈ l
  | [] => by simp [srtU]
  | x :: l => by rw [srtU, insU_mem, srtU_mem z l, List.mem_cons]
theorem insU_asc (x : Int) : ∀ l : List Int, l.Pairwise (· < ·) → (insU x l).Pairwise (· < ·)
  | [], _ => by simp [insU]
  | y :: l, h => by
    rw [insU]
    have h' := List.pairwise_cons.1 h
    split
    · rename_i c
      refine List.pairwise_cons.2 ⟨fun z hz => ?_, h⟩
      rcases List.mem_cons.1 hz with rfl | hz
      · exact c
      · have := h'.1 z hz; omega
    · split
      · exact h
      · refine List.pairwise_cons.2 ⟨fun z hz => ?_, insU_asc x l h'.2⟩
        rcases (insU_mem x z l).1 hz with rfl | hz
        · omega
        · exact h'.1 z hz
theorem srtU_asc : ∀ l : List Int, (srtU l).Pairwise (· < ·)
  | [] => List.Pairwise.nil
  | x :: l => insU_asc x _ (srtU_asc l)
theorem ascU_uq : ∀ {a b : List Int}, a.Pairwise (· < ·) → b.Pairwise (· < ·) → (∀ z, z ∈ a ↔ z ∈ b) → a = b
  | [], [], _, _, _ => rfl
  | [], y :: b, _, _, h => absurd ((h y).2 (List.mem_cons_self ..)) List.not_mem_nil
  | x :: a, [], _, _, h => absurd ((h x).1 (List.mem_cons_self ..)) List.not_mem_nil
  | x :: a, y :: b, ha, hb, h => by
    have ha' := List.pairwise_cons.1 ha
    have hb' := List.pairwise_cons.1 hb
    have e : x = y := by
      have h1 := (h x).1 (List.mem_cons_self ..)
      have h2 := (h y).2 (List.mem_cons_self ..)
      rcases List.mem_cons.1 h1 with e | h1
      · exact e
      · rcases List.mem_cons.1 h2 with e | h2
        · exact e.symm
        · have := ha'.1 y h2
          have := hb'.1 x h1
          omega
    subst e
    rw [ascU_uq ha'.2 hb'.2 fun z => ?_]
    constructor
    · intro hz
      have := ha'.1 z hz
      rcases List.mem_cons.1 ((h z).1 (List.mem_cons_of_mem _ hz)) with e | hz
      · omega
      · exact hz
    · intro hz
      have := hb'.1 z hz
      rcases List.mem_cons.1 ((h z).2 (List.mem_cons_of_mem _ hz)) with e | hz
      · omega
      · exact hz
/-- sorted(xs) of values that are alike -/
def dPy (d : D) : PyData := (toPy d).getD .none
def isTupP : PyData → Bool
  | .tuple (_ :: _) => true
  | _ => false
def notTupP : PyData → Bool
  | .none => false
  | .tuple _ => false
  | _ => true
def srtOk (ps : List PyData) : Bool := (ps.all fun p => ps.all fun q => PySem.W.alike p q) && (ps.all isTupP || ps.all notTupP) && ps.all fun p => decide (p.depth ≤ 60)
def srtD (l : List D) : List D := l.mergeSort (PySem.W.dataLe false dPy)
/-- sorted(xs) -/
def oSorted (ds : List D) (m : Mem) : Option D := match ds with
  | [a] => match asL m a with
    | some l => match intsOf l with
      | some ns => some (.lst ((srt ns).map .int))
      | none => match toPyL l with
        | some ps => if srtOk ps = true then some (.lst (srtD l)) else none
        | none => none
    | none => none
  | _ => none
/-- sorted(set(xs)) -/
def oSrtSet (ds : List D) (m : Mem) : Option D := match ds with
  | [a] => match asLT m a with
    | some l => match intsOf l with
      | some ns => if ns.length < 64 then some (.lst ((srtU ns).map .int)) else none
      | none => none
    | none => none
  | _ => none
section
variable {X : Cx} {W : WX}
theorem each_vals {K : PySem.W.Frag} {w : Wd} {H : Hp} : ∀ {l : List D} {xs : List V} {us : List Value}, RepL K w H l xs → Vals xs us → PySem.W.EachIs (fun (u : Value) (b : V × D) => RelV b.1 u) us (xs.zip l)
  | [], _, _, h, r => by
    rw [RepL.nil_iff.mp h] at r
    cases r
    rw [RepL.nil_iff.mp h]
    exact .nil
  | d :: l, _, _, h, r => by
    obtain ⟨v, ys, rfl, h1, h2⟩ := RepL.cons_iff.mp h
    cases r with
    | cons r1 r2 => exact .cons r1 (each_vals h2 r2)
theorem each_reads {pins : List (Addr × Obj)} {s : Shared} {σ : L2.St} {H : Hp} {w : Wd} (I : Inv X pins σ H s) : ∀ {l : List D} {xs : List V} {us : List Value} {ps : List PyData}, RepL X.K w H l xs → Vals xs us → toPyL l = some ps → PySem.W.EachIs (fun (u : Value) (b : V × D) => ∃ as, Reads s.heap u (dPy b.2) as) us (xs.zip l)
  | [], _, _, _, h, r, _ => by
    rw [RepL.nil_iff.mp h] at r
    cases r
    rw [RepL.nil_iff.mp h]
    exact .nil
  | d :: l, _, _, ps, h, r, e => by
    obtain ⟨v, ys, rfl, h1, h2⟩ := RepL.cons_iff.mp h
    simp only [toPyL] at e
    split at e
    · rename_i p ps' e1 e2
      cases r with
      | cons r1 r2 =>
        refine .cons ?_ (each_reads I h2 r2 e2)
        show ∃ as, Reads s.heap _ ((toPy d).getD .none) as
        rw [e1]
        exact Dp.reads I p v _ (toPy_dp h1 e1) r1
    · cases e
theorem toPyL_map : ∀ {l : List D} {ps : List PyData}, toPyL l = some ps → ps = l.map dPy
  | [], _, e => by
    simp only [toPyL] at e
    cases e
    rfl
  | d :: l, ps, e => by
    simp only [toPyL] at e
    split at e
    · rename_i p ps' e1 e2
      cases e
      rw [List.map_cons, ← toPyL_map e2]
      show _ = (toPy d).getD .none :: ps'
      rw [e1]; rfl
    · cases e
theorem vals_each : ∀ {bs : List (V × D)} {us : List Value}, PySem.W.EachIs (fun (u : Value) (b : V × D) => RelV b.1 u) us bs → Vals (bs.map (·.1)) us
  | _, _, .nil => .nil
  | _, _, .cons h t => .cons h (vals_each t)
theorem RepL.pairs {K : PySem.W.Frag} {w : Wd} {H : Hp} : ∀ {bs : List (V × D)}, (∀ b ∈ bs, Rep K w H b.2 b.1) → RepL K w H (bs.map (·.2)) (bs.map (·.1))
  | [], _ => RepL.nil
  | b :: bs, h => RepL.cons (h b (List.mem_cons_self ..)) (RepL.pairs fun c hc => h c (List.mem_cons_of_mem _ hc))
theorem RepL.zip {K : PySem.W.Frag} {w : Wd} {H : Hp} : ∀ {l : List D} {xs : List V}, RepL K w H l xs → (∀ b ∈ xs.zip l, Rep K w H b.2 b.1) ∧ (xs.zip l).map (·.2) = l
  | [], _, h => by rw [RepL.nil_iff.mp h]; exact ⟨by simp, rfl⟩
  | d :: l, _, h => by
    obtain ⟨v, ys, rfl, h1, h2⟩ := RepL.cons_iff.mp h
    obtain ⟨k1, k2⟩ := RepL.zip h2
    refine ⟨fun b hb => ?_, by simp [k2]⟩
    rw [List.zip_cons_cons] at hb
    rcases List.mem_cons.1 hb with rfl | hb
    · exact h1
    · exact k1 b hb
theorem cr_oSorted (hu : X.A.units + 65 < cLine) : CallR X (.builtin "sorted") (rcOf X oSorted) := by
  intro pins s σ H xs us Q I r h
  obtain ⟨w, m, ds, d, g, hd, h, q⟩ := h
  unfold oSorted at h
  split at h
  · split at h
    · rename_i l hl
      split at h
      · rename_i ns hns
        cases h
        obtain ⟨v, rfl, rv⟩ := repL1 hd
        obtain ⟨a, ys, rfl, ha, hr⟩ := asL_rep g rv hl
        rw [intsOf_eq hns] at hr
        rw [hr.ints] at ha
        refine cr_sortedI pins s σ H _ us Q I r ⟨a, ns, rfl, ha, fun ns' p h1 h2 hp => ?_⟩
        rw [srt_uq h2 h1]
        exact q (w.fzn p) _ _ (g.newF hp) ((Ext.new g hp).trans Ext.fzn) (new_lst g hp RepL.of_ints)
      · split at h
        · rename_i ps hps
          split at h
          · rename_i hok
            cases h
            obtain ⟨v, rfl, rv⟩ := repL1 hd
            obtain ⟨a, ys, rfl, ha, hr⟩ := asL_rep g rv hl
            obtain ⟨its, rvs, hpl, hz⟩ := I.list ha
            rw [Vals.ref1 r]
            have e1 := each_vals hr rvs
            have e2 := each_reads I hr rvs hps
            obtain ⟨z1, z2⟩ := hr.zip
            have hlen : (ys.zip l).length = ys.length := by
              rw [List.length_zip, hr.len, Nat.min_self]
            have em : (ys.zip l).map (fun b => dPy b.2) = ps := by
              rw [toPyL_map hps]
              have := congrArg (List.map dPy) z2
              rw [List.map_map] at this
              exact this
            unfold srtOk at hok
            simp only [Bool.and_eq_true, Bool.or_eq_true, List.all_eq_true, decide_eq_true_eq] at hok
            obtain ⟨⟨o1, o2⟩, o3⟩ := hok
            refine PySem.W.sorted_data (β := V × D) (bs := ys.zip l) (enc := fun b => dPy b.2) (R := fun u b => RelV b.1 u) hpl.isList e1 e2 ?_ ?_ (by rw [hlen]; exact hz) (fun b hb => ?_) fun out ho1 ho2 => ?_
            · rw [em]
              exact fun p hp q hq => o1 p hp q hq
            · rw [em]
              rcases o2 with o2 | o2
              · refine .inl fun p hp => ?_
                have := o2 p hp
                unfold isTupP at this
                split at this
                · exact ⟨_, _, rfl⟩
                · cases this
              · refine .inr fun p hp => ?_
                have := o2 p hp
                unfold notTupP at this
                split at this
                · cases this
                · cases this
                · rename_i n1 n2
                  exact ⟨n1, n2⟩
            · have hm : dPy b.2 ∈ ps := by rw [← em]; exact List.mem_map.2 ⟨b, hb, rfl⟩
              have := o3 _ hm
              omega
            · obtain ⟨ep, he'⟩ := PyProof.Rows.sortedAll_at s.heap its out.toArray
              have hp0 := I.hok.fresh (Nat.le_succ s.heap.objs.size)
              have hperm := List.mergeSort_perm (ys.zip l) (PySem.W.dataLe false fun b => dPy b.2)
              have hl2 : ((((ys.zip l).mergeSort (PySem.W.dataLe false fun b => dPy b.2)).map (·.1))).length ≤ sizeLine := by
                rw [List.length_map, hperm.length_eq, hlen]
                exact hz
              have hrr : RepL X.K w H (srtD l) (((ys.zip l).mergeSort (PySem.W.dataLe false fun b => dPy b.2)).map (·.1)) := by
                have := RepL.pairs (K := X.K) (w := w) (H := H) (bs := (ys.zip l).mergeSort (PySem.W.dataLe false fun b => dPy b.2)) fun b hb => z1 b (hperm.mem_iff.1 hb)
                have hm := List.map_mergeSort (r := PySem.W.dataLe false fun b : V × D => dPy b.2) (s := PySem.W.dataLe false dPy) (f := Prod.snd) (l := ys.zip l) (fun _ _ _ _ => rfl)
                have z3 : (ys.zip l).map Prod.snd = l := z2
                rw [z3] at hm
                unfold srtD
                rw [← hm]
                exact this
              exact ⟨.ref _, upd H (s.heap.objs.size + 1) (.lst (((ys.zip l).mergeSort (PySem.W.dataLe false fun b => dPy b.2)).map (·.1))), I.laid (t' := s.toks) (fun _ _ => PyProof.Rows.sortedAll_old) (Nat.le_succ _) ⟨hl2, out, ep, vals_each ho2, he'⟩, rfl, q (w.fzn _) _ _ (g.newF hp0) ((Ext.new g hp0).trans Ext.fzn) (new_lst g hp0 hrr)⟩
          · cases h
        · cases h
    · cases h
  · cases h
theorem asLT_rep {K : PySem.W.Frag} {w : Wd} {H : Hp} {m : Mem} {d : D} {v : V} {l : List D} (g : Good K w H m) (r : Rep K w H d v) (h : asLT m d = some l) : ∃ a xs, v = .ref a ∧ (SqL K H a xs ∨ SqT K H a xs) ∧ RepL K w H l xs := by
  cases d with
  | tup l' =>
    cases h
    obtain ⟨a, xs, h1, h2, h3⟩ := asT_rep r rfl
    exact ⟨a, xs, h1, .inr h2, h3⟩
  | _ =>
    obtain ⟨a, xs, h1, h2, h3⟩ := asL_rep g r h
    exact ⟨a, xs, h1, .inl h2, h3⟩
def rSetI (K : PySem.W.Frag) (w : World) : List V → Hp → VK → Prop := fun xs H Q => ∃ (l : Addr) (ns : List Int), xs = [.ref l] ∧ (SqL K H l (ns.map V.int) ∨ SqT K H l (ns.map V.int)) ∧ ns.length < 64 ∧ ∀ p n, H p = none → n ≤ ns.length → Q (.ref p) (upd H p (SetO w p (fun j => decide (j ∈ ns)) n))
theorem cr_setI (hc : X.calm = true) : CallR X (.type "set") (rSetI X.K X.w) := by
  intro pins s σ H xs us Q I r h
  obtain ⟨l, ns, rfl, hs, hl, q⟩ := h
  rw [Vals.ref1 r]
  have hB : ns.length + 1 < scanBound := by unfold scanBound; omega
  have fin : ∀ t, SetMade X.w ns s t → EP X pins σ Q (.ref s.heap.objs.size) t := by
    rintro t ⟨hp, tk, n, rfl, hR, hn, hk⟩
    exact ⟨.ref _, upd H s.heap.objs.size (SetO X.w s.heap.objs.size (fun j => decide (j ∈ ns)) n), I.laid (t' := tk) hk (Nat.le_refl _) (setO_new hR), rfl, q _ n (I.hok.fresh (Nat.le_refl _)) hn⟩
  rcases hs with hs | hs
  · obtain ⟨its, rv, pl, hz⟩ := I.list hs
    exact call_setI ns (I.ok.hd hc) pl.isList (by simpa using ints_of_vals rv) hB fin
  · obtain ⟨its, rv, pt, hz⟩ := I.tuple hs
    exact call_set_tupI ns (I.ok.hd hc) (show s.heap.IsTuple l its.toArray from pt) (by simpa using ints_of_vals rv) hB fun h' tk c h1 h2 h3 => fin _ ⟨h', tk, c, rfl, h1, h2, h3⟩
theorem me_srtset {a : Expr} {q : PAF} {p p2 pos pos2 : Pos} (hc : X.calm = true) (hg : Gl X "sorted") (hm : X.mg "sorted" = none) (hv : bootBuiltins "sorted" = some (.builtin "sorted")) (hg2 : Gl X "set") (hm2 : X.mg "set" = none) (hv2 : bootBuiltins "set" = some (.type "set")) (ha : MA X W [a] q)
    (he : starEach [a] X.env = (false, eval a X.env) :: starEach [] X.env := by rfl) (hpl : (backTo pos2 (starEach [] X.env)).any (·.1) = false := by rfl)
    (he2 : starEach [.Call (.Name "set" p2) [a] [] pos2] X.env = (false, eval (.Call (.Name "set" p2) [a] [] pos2) X.env) :: starEach [] X.env := by rfl) (hpl2 : (backTo pos (starEach [] X.env)).any (·.1) = false := by rfl) :
    ME X W (.Call (.Name "sorted" p) [.Call (.Name "set" p2) [a] [] pos2] [] pos) (pCall oSrtSet q) :=
  PE.imp (pe_callB (cr_sortedSet hc) hg hm hv (pa_cons (pe_callTy (cr_setI hc) hg2 hm2 hv2 ha (by decide) (by decide) he hpl) pa_nil he2) (by decide) (by decide) he2 hpl2) fun σ H Q ⟨w, m, e, r, g, ev, h, qq⟩ => by
    refine tA_bnd g ev h qq fun d1 m1 w1 v1 H1 h1 g1 x1 r1 ev1 q1 => ?_
    obtain ⟨d, hd, rfl⟩ := lift1_some h1
    unfold oSrtSet at hd
    split at hd
    · split at hd
      · rename_i l hl
        split at hd
        · rename_i ns hns
          split at hd
          · rename_i hlt
            cases hd
            obtain ⟨v, rfl, rv⟩ := repL1 r1
            obtain ⟨a, ys, rfl, hs, hr⟩ := asLT_rep g1 rv hl
            rw [intsOf_eq hns] at hr
            rw [hr.ints] at hs
            refine ⟨a, ns, rfl, hs, hlt, fun p n hp hn => ⟨p, _, n, rfl, upd_same, by omega, fun ns' p' i1 i2 i3 hp' => ?_⟩⟩
            have e1 : ns' = srtU ns := ascU_uq i1 (srtU_asc ns) fun z => by rw [i2 z, srtU_mem]; simp
            subst e1
            exact q1 (w1.fzn p') _ _ ((g1.new hp).newF hp') (((Ext.new g1 hp).trans (Ext.new (g1.new hp) hp')).trans Ext.fzn) (new_lst (g1.new hp) hp' RepL.of_ints)
          · cases hd
        · cases hd
      · cases hd
    · cases hd
end
end Z

set_option maxRecDepth 100000
set_option maxHeartbeats 4000000
set_option autoImplicit false
namespace Z
open PySem PySem.Spec PyProof.Rows L2
open PolA (Po Dv len mono Dom Qt)
/-! numbers by remainders of a prime -/
theorem nat_bez : ∀ (n a b : Nat), b < n → ∃ x y : Int, x * a + y * b = Nat.gcd a b
  | 0, a, b, h => absurd h (Nat.not_lt_zero _)
  | n + 1, a, 0, _ => ⟨1, 0, by simp⟩
  | n + 1, a, b + 1, h => by
    have hm := Nat.mod_lt a (Nat.succ_pos b)
    have hm : a % (b + 1) < b + 1 := hm
    obtain ⟨x, y, e⟩ := nat_bez n (b + 1) (a % (b + 1)) (by omega)
    have h1 : Nat.gcd a (b + 1) = Nat.gcd (b + 1) (a % (b + 1)) := by
      rw [Nat.gcd_comm a, Nat.gcd_rec, Nat.gcd_comm]
    have h2 : (a : Int) = (b + 1 : Nat) * (a / (b + 1) : Nat) + (a % (b + 1) : Nat) := by
      have := Nat.div_add_mod a (b + 1)
      rw [← Int.natCast_mul, ← Int.natCast_add, this]
    refine ⟨y, x - y * (a / (b + 1) : Nat), ?_⟩
    rw [h1, ← e]
    generalize ((a % (b + 1) : Nat) : Int) = r at *
    generalize ((a / (b + 1) : Nat) : Int) = q at *
    grind
class Pri (p : Int) : Prop where
  pr : prB p = true
theorem Pri.two (p : Int) [h : Pri p] : 2 ≤ p := by
  have := ((prB_iff p).1 h.pr).1
  omega
theorem pri_inv {p : Int} [h : Pri p] {a : Int} (ha : ¬ p ∣ a) : ∃ b, p ∣ a * b - 1 := by
  have hp := Pri.two p
  have hg : Nat.gcd a.natAbs p.natAbs = 1 := by
    have h1 : Nat.gcd a.natAbs p.natAbs ∣ p.natAbs := Nat.gcd_dvd_right _ _
    have h2 : Nat.gcd a.natAbs p.natAbs ∣ a.natAbs := Nat.gcd_dvd_left _ _
    have h0 : 0 < Nat.gcd a.natAbs p.natAbs := Nat.gcd_pos_of_pos_right _ (by omega)
    rcases prB_dvd h.pr (Int.ofNat_dvd_left.2 h1) (by omega) with e | e
    · omega
    · exfalso
      apply ha
      rw [← e]
      exact Int.ofNat_dvd_left.2 h2
  obtain ⟨x, y, e⟩ := nat_bez (p.natAbs + 1) a.natAbs p.natAbs (Nat.lt_succ_self _)
  rw [hg] at e
  have ep : (p.natAbs : Int) = p := Int.natAbs_of_nonneg (by omega)
  rw [ep] at e
  rcases Int.le_total 0 a with h0 | h0
  · rw [Int.natAbs_of_nonneg h0] at e
    exact ⟨x, -y, by grind⟩
  · rw [Int.ofNat_natAbs_of_nonpos h0] at e
    exact ⟨-x, -y, by grind⟩
abbrev Zp (p : Int) := Qt (R := Int) p
theorem dv_int {a b : Int} : Dv a b ↔ a ∣ b := Iff.rfl
noncomputable instance {p : Int} [h : Pri p] : Lean.Grind.Field (Zp p) := PolA.fieldOf (by
    intro e
    have := PolA.Qt.eq.1 (e : Qt.mk p 0 = Qt.mk p 1)
    have h2 := Pri.two p
    have h3 : p ∣ 1 := by
      have : p ∣ (0 : Int) - 1 := this
      exact Int.dvd_neg.1 (by simpa using this)
    have := Int.le_of_dvd (by decide) h3
    omega) (PolA.Qt.ind fun a ha => by
    have : ¬ p ∣ a := fun e => ha (PolA.mk_eq0.2 e)
    obtain ⟨b, hb⟩ := pri_inv this
    refine ⟨Qt.mk p b, ?_⟩
    rw [← PolA.mk_mul, ← PolA.mk_one, PolA.Qt.eq]
    exact hb)
/-! a polynomial by remainders -/
section
variable {p : Int}
def red (p : Int) (f : Po Int) : Po (Zp p) := ⟨fun k => Qt.mk p (f.c k), by
  obtain ⟨N, h⟩ := f.fin
  exact ⟨N, fun n hn => by rw [h n hn]; rfl⟩⟩
theorem c_red (f : Po Int) (k : Nat) : (red p f).c k = Qt.mk p (f.c k) := rfl
theorem red_add (f g : Po Int) : red p (f + g) = red p f + red p g := Po.ext fun k => rfl
theorem cvl_mk (f g : Nat → Int) (n : Nat) : Qt.mk p (PolA.cvl f g n) = PolA.cvl (fun k => Qt.mk p (f k)) (fun k => Qt.mk p (g k)) n := by
  induction n generalizing f with
  | zero => rfl
  | succ n ih => rw [PolA.cvl_succ, PolA.cvl_succ, PolA.mk_add, PolA.mk_mul, ih]
theorem red_mul (f g : Po Int) : red p (f * g) = red p f * red p g := Po.ext fun k => by rw [c_red, PolA.c_mul, cvl_mk]; rfl
theorem red_C (a : Int) : red p (Po.C a) = Po.C (Qt.mk p a) := Po.ext fun k => by
  rw [c_red, PolA.c_C, PolA.c_C]; split <;> rfl
theorem red_0 : red p 0 = 0 := red_C 0
theorem red_1 : red p 1 = 1 := red_C 1
theorem red_neg (f : Po Int) : red p (-f) = -red p f := Po.ext fun k => rfl
theorem red_sub (f g : Po Int) : red p (f - g) = red p f - red p g := by
  rw [show f - g = f + -g by grind, red_add, red_neg]; grind
theorem red_mono (n : Nat) (a : Int) : red p (mono n a) = mono n (Qt.mk p a) := Po.ext fun k => by
  rw [c_red, PolA.c_mono, PolA.c_mono]; split <;> rfl
theorem red_eq {f g : Po Int} : red p f = red p g ↔ ∀ k, p ∣ f.c k - g.c k := by
  constructor
  · intro h k
    have := congrArg (fun q => Po.c q k) h
    exact PolA.Qt.eq.1 this
  · intro h
    exact Po.ext fun k => PolA.Qt.eq.2 (h k)
def Q (p : Int) (l : List Int) : Po (Zp p) := red p (P l)
theorem c_Q (l : List Int) (k : Nat) : (Q p l).c k = Qt.mk p (co l k) := rfl
theorem Q_padd (f g : List Int) : Q p (padd f g) = Q p f + Q p g := by unfold Q; rw [P_padd, red_add]
theorem Q_psc (x : Int) (f : List Int) : Q p (psc x f) = Po.C (Qt.mk p x) * Q p f := by unfold Q; rw [P_psc, red_mul, red_C]
theorem Q_neg1 (f : List Int) : Q p (psc (-1) f) = -Q p f := by
  unfold Q
  rw [P_psc, show (Po.C (-1 : Int)) = -1 by rw [PolA.C_neg]; rfl, show (-1 : Po Int) * P f = -P f by grind, red_neg]
theorem Q_pmul (f g : List Int) : Q p (pmul f g) = Q p f * Q p g := by unfold Q; rw [P_pmul, red_mul]
theorem Q_nil : Q p [] = 0 := by unfold Q; rw [P_nil, red_0]
theorem Q_stp (k : Nat) (x : Int) : Q p (stp k x) = mono k (Qt.mk p x) := by unfold Q; rw [P_stp, red_mono]
/-- numbers from 0 to p - 1 -/
def Rg (p : Int) (l : List Int) : Prop := trim l = l ∧ ∀ x ∈ l, 0 ≤ x ∧ x < p
def tk (p : Int) (l : List Int) : List Int := trim (l.map fun x => x.fmod p)
theorem mk_fmod (a : Int) : Qt.mk p (a.fmod p) = Qt.mk p a := PolA.Qt.eq.2 (by
  have := Int.fmod_add_mul_fdiv a p
  exact ⟨-(a.fdiv p), by grind⟩)
theorem co_tk (l : List Int) (k : Nat) : co (tk p l) k = (co l k).fmod p := by
  unfold tk
  rw [co_trim, co_map l _ (Int.zero_fmod p)]
theorem Q_tk (l : List Int) : Q p (tk p l) = Q p l := Po.ext fun k => by rw [c_Q, c_Q, co_tk, mk_fmod]
theorem Rg.co {l : List Int} (h : Rg p l) (hp : 2 ≤ p) (k : Nat) : 0 ≤ co l k ∧ co l k < p := by
  by_cases hk : k < l.length
  · rw [co_lt hk]; exact h.2 _ (List.getElem_mem _)
  · rw [co_ge (by omega)]; omega
theorem rg_of {l : List Int} (ht : trim l = l) (h : ∀ k, 0 ≤ Z.co l k ∧ Z.co l k < p) : Rg p l := ⟨ht, fun x hx => by
  obtain ⟨i, hi, rfl⟩ := List.mem_iff_getElem.1 hx
  have := h i
  rwa [co_lt hi] at this⟩
theorem tk_rg (hp : 2 ≤ p) (l : List Int) : Rg p (tk p l) := rg_of (trim_trim _) fun k => by
  rw [co_tk]
  exact fmodN _ (by omega)
theorem Rg.nil : Rg p [] := ⟨rfl, fun x hx => (List.not_mem_nil hx).elim⟩
theorem mk_inj {a b : Int} (ha : 0 ≤ a ∧ a < p) (hb : 0 ≤ b ∧ b < p) (h : Qt.mk p a = Qt.mk p b) : a = b := by
  obtain ⟨c, hc⟩ := PolA.Qt.eq.1 h
  have : c = 0 := by
    rcases Int.lt_trichotomy c 0 with h | h | h
    · have := Int.mul_le_mul_of_nonneg_left (show c ≤ -1 by omega) (show 0 ≤ p by omega)
      omega
    · exact h
    · have := Int.mul_le_mul_of_nonneg_left (show 1 ≤ c by omega) (show 0 ≤ p by omega)
      omega
  rw [this] at hc
  omega
theorem Q_inj {l r : List Int} (hp : 2 ≤ p) (hl : Rg p l) (hr : Rg p r) (h : Q p l = Q p r) : l = r := co_ext hl.1 hr.1 fun k => by
  have := congrArg (fun q => Po.c q k) h
  exact mk_inj (hl.co hp k) (hr.co hp k) this
theorem tk_self {l : List Int} (hp : 2 ≤ p) (hl : Rg p l) : tk p l = l := Q_inj hp (tk_rg hp l) hl (Q_tk l)
theorem tk_eq {l r : List Int} (hp : 2 ≤ p) (h : Q p l = Q p r) : tk p l = tk p r := Q_inj hp (tk_rg hp l) (tk_rg hp r) (by rw [Q_tk, Q_tk, h])
theorem Q_eq0 {l : List Int} (hp : 2 ≤ p) (hl : Rg p l) : Q p l = 0 ↔ l = [] := ⟨fun h => Q_inj hp hl Rg.nil (by rw [h, Q_nil]), fun h => by rw [h, Q_nil]⟩
theorem mk_ne {a : Int} (ha : 0 ≤ a ∧ a < p) (h0 : a ≠ 0) : Qt.mk p a ≠ 0 := fun e => h0 (mk_inj ha ⟨Int.le_refl 0, by omega⟩ e)
theorem Q_len {l : List Int} (hp : 2 ≤ p) (hl : Rg p l) : len (Q p l) = l.length := by
  by_cases hf : l = []
  · subst hf; rw [Q_nil, PolA.len_0]; rfl
  · have h1 := trim_last hl.1 hf
    have h2 := List.length_pos_iff.2 hf
    have := PolA.len_of (f := Q p l) (n := l.length - 1) (mk_ne (hl.co hp _) h1) fun k hk => by rw [c_Q, co_ge (by omega)]; rfl
    omega
theorem Q_ld {l : List Int} (hp : 2 ≤ p) (hl : Rg p l) : PolA.ld (Q p l) = Qt.mk p (lead l) := by
  unfold PolA.ld
  rw [Q_len hp hl]; rfl
theorem tk_len (l : List Int) : (tk p l).length ≤ l.length := by
  unfold tk
  have := trim_len (l.map fun x => x.fmod p)
  simpa using this
/-! division by remainders: quotient and rest are told by what they are -/
structure MD (p : Int) (f g q r : List Int) : Prop where
  rq : Rg p q
  rr : Rg p r
  eq : Q p f = Q p q * Q p g + Q p r
  lt : r.length < g.length
theorem MD.uq [Pri p] {f g q r q' r' : List Int} (hg : Rg p g) (hg0 : g ≠ []) (h : MD p f g q r) (h' : MD p f g q' r') : q = q' ∧ r = r' := by
  have hp := Pri.two p
  have hgn : Q p g ≠ 0 := fun e => hg0 ((Q_eq0 hp hg).1 e)
  have e : (Q p q - Q p q') * Q p g = Q p r' - Q p r := by
    have e1 := h.eq
    have e2 := h'.eq
    grind
  have hq : Q p q = Q p q' := by
    refine Classical.byContradiction fun c => ?_
    have hne : Q p q - Q p q' ≠ 0 := fun z => c (by grind)
    have h1 := PolA.len_mul hne hgn
    have h2 := PolA.len_sub (Q p r') (Q p r)
    rw [← e, h1, Q_len hp hg, Q_len hp h.rr, Q_len hp h'.rr] at h2
    have := PolA.len_pos hne
    have := h.lt
    have := h'.lt
    omega
  refine ⟨Q_inj hp h.rq h'.rq hq, Q_inj hp h.rr h'.rr ?_⟩
  rw [hq] at e
  grind
end
end Z

set_option maxRecDepth 100000
set_option maxHeartbeats 4000000
set_option autoImplicit false
namespace Z
open PySem PySem.Spec PyProof.Rows L2
/-! targets o[i] among others -/
def gPut (po pi : PEF) : PGF := fun d e m => match po e m with
  | some (.ok a m2) => match pi e m2 with
    | some (.ok b m3) => match putAt a b d m3 with
      | some m4 => some (.ok e m4)
      | none => none
    | _ => none
  | _ => none
section
variable {X : Cx} {W : WX} {pos : Pos} {o i : Expr} {po pi : PEF}
theorem mg_put (ho : ME X W o po) (hi : ME X W i pi)
    (ha : ∀ v, assign (.Subscript o i pos) X.env v = (do
      let ov ← holding [v] (eval o X.env)
      let iv ← holding [v, ov] (eval i X.env)
      standAt pos
      holding [v, ov, iv] (setItem ov iv v)
      release [v, ov, iv] []) := by intro _; rfl) : MG X W (.Subscript o i pos) (gPut po pi) :=
  PG.imp (pg_sub ho hi set_list ha) fun v σ H Q ⟨w, m, e, d, r, g, ev, rd, h, q⟩ => by
    unfold gPut at h
    split at h
    · rename_i a m2 h1
      split at h
      · rename_i b m3 h2
        split at h
        · rename_i m4 h4
          cases h
          refine ⟨w, m, e, _, g, ev, h1, fun w1 v1 H1 g1 x1 r1 => ⟨w1, m2, e, _, g1, ev.mono x1, h2, fun w2 v2 H2 g2 x2 r2 => ?_⟩⟩
          obtain ⟨p, xs, k, j, e1, e2, e3, e4, g4, x4⟩ := put_rep g2 (r1.mono x2) r2 ((rd.mono x1).mono x2) h4
          exact ⟨p, xs, k, j, e1, e2, e3, e4, q w2 σ _ g4 ((x1.trans x2).trans x4) (((ev.mono x1).mono x2).mono x4)⟩
        · cases h
      · cases h
    · cases h
end
end Z

set_option maxRecDepth 100000
set_option maxHeartbeats 4000000
namespace Z
open PySem PySem.Spec PyProof.Rows L2
def topS (i : Nat) : Stmt := PySem.Challenge.pw_partsproved_k61_determinants_and_resulta.main.body.getD i (.Pass ⟨0, 0, 0, 0⟩)
abbrev N_trimmed : List Str := ["numbers"]
theorem sc_trimmed : FnScope N_trimmed ["numbers"] (defScope (topS 1)) := ⟨rfl, rfl, rfl, by decide +kernel, rfl, by decide +kernel, by decide +kernel⟩
def B_trimmed : PSF := (sSeq (sSet 0 (pCallM oListL (pCons (pVar 0) pNil)))
  (sSeq (sWhile fuel0 (pAndT (pTst (pBin oGt (pCall oLen (pCons (pVar 0) pNil)) (pC (.int 0)))) (pTst (pBin oEq (pBin oIx (pVar 0) (pUn oNeg (pC (.int 1)))) (pC (.int 0))))) (sExpr (pMth0 oPop (pVar 0))))
  (sRet (pCall oTuple (pCons (pVar 0) pNil)))))
def F_trimmed : Fn := pFn 1 B_trimmed
abbrev N_number_at : List Str := ["f", "k"]
theorem sc_number_at : FnScope N_number_at ["f", "k"] (defScope (topS 3)) := ⟨rfl, rfl, rfl, by decide +kernel, rfl, by decide +kernel, by decide +kernel⟩
def B_number_at : PSF := (sRet (pIf (pTst (pChain oLe oLt (pC (.int 0)) (pVar 1) (pCall oLen (pCons (pVar 0) pNil)))) (pBin oIx (pVar 0) (pVar 1)) (pC (.int 0))))
def F_number_at : Fn := pFn 2 B_number_at
abbrev N_add : List Str := ["f", "g", "size", "k"]
theorem sc_add : FnScope N_add ["f", "g"] (defScope (topS 2)) := ⟨rfl, rfl, rfl, by decide +kernel, rfl, by decide +kernel, by decide +kernel⟩
def B_add : PSF := (sSeq (sSet 2 (pCall oMax2 (pCons (pCall oLen (pCons (pVar 0) pNil)) (pCons (pCall oLen (pCons (pVar 1) pNil)) pNil))))
  (sRet (pApp F_trimmed 1 (pCons (pLc [3] (iR1 (pCons (pVar 2) pNil)) (.n 3) tYesF (pBin oAdd (pApp F_number_at 2 (pCons (pVar 0) (pCons (pVar 3) pNil))) (pApp F_number_at 2 (pCons (pVar 1) (pCons (pVar 3) pNil))))) pNil))))
def F_add : Fn := pFn 4 B_add
abbrev N_scaled : List Str := ["f", "number", "x"]
theorem sc_scaled : FnScope N_scaled ["f", "number"] (defScope (topS 4)) := ⟨rfl, rfl, rfl, by decide +kernel, rfl, by decide +kernel, by decide +kernel⟩
def B_scaled : PSF := (sRet (pApp F_trimmed 1 (pCons (pLc [2] (iSeq (pVar 0)) (.n 2) tYesF (pBin oMul (pVar 1) (pVar 2))) pNil)))
def F_scaled : Fn := pFn 3 B_scaled
abbrev N_multiply : List Str := ["f", "g", "found", "j", "k"]
theorem sc_multiply : FnScope N_multiply ["f", "g"] (defScope (topS 5)) := ⟨rfl, rfl, rfl, by decide +kernel, rfl, by decide +kernel, by decide +kernel⟩
def B_multiply : PSF := (sSeq (sIf (pOrT (pTst (pBin oEq (pCall oLen (pCons (pVar 0) pNil)) (pC (.int 0)))) (pTst (pBin oEq (pCall oLen (pCons (pVar 1) pNil)) (pC (.int 0))))) (sRet (pTup pNil)) sNop)
  (sSeq (sSet 2 (pBinM oRepL (pLst (pCons (pC (.int 0)) pNil)) (pBin oSub2 (pBin oAdd (pCall oLen (pCons (pVar 0) pNil)) (pCall oLen (pCons (pVar 1) pNil))) (pC (.int 1)))))
  (sSeq (sFor (iR1 (pCons (pCall oLen (pCons (pVar 0) pNil)) pNil)) (gN 3) (sFor (iR1 (pCons (pCall oLen (pCons (pVar 1) pNil)) pNil)) (gN 4) (sPutAug oIAdd (pVar 2) (pBin oAdd (pVar 3) (pVar 4)) (pBin oMul (pBin oIx (pVar 0) (pVar 3)) (pBin oIx (pVar 1) (pVar 4))))))
  (sRet (pApp F_trimmed 1 (pCons (pFrz (pVar 2)) pNil))))))
def F_multiply : Fn := pFn 5 B_multiply
abbrev N_determinant : List Str := ["rows", "sign", "before", "size", "k", "lead", "j", "i", "row"]
theorem sc_determinant : FnScope N_determinant ["rows"] (defScope (topS 7)) := ⟨rfl, rfl, rfl, by decide +kernel, rfl, by decide +kernel, by decide +kernel⟩
def B_determinant : PSF := (sSeq (sSet 0 (pLcM [8] (iSeq (pVar 0)) (.n 8) tYesF (pCallM oListL (pCons (pVar 8) pNil))))
  (sSeq (sPar [1, 2, 3] (pCons (pC (.int 1)) (pCons (pC (.int 1)) (pCons (pCall oLen (pCons (pVar 0) pNil)) pNil))))
  (sSeq (sFor (iR1 (pCons (pVar 3) pNil)) (gN 4) (sSeq (sSet 5 (pLc [6] (iR2 (pCons (pVar 4) (pCons (pVar 3) pNil))) (.n 6) (pTst (pBin oNe (pBin oIx (pBin oIx (pVar 0) (pVar 6)) (pVar 4)) (pC (.int 0)))) (pVar 6)))
  (sSeq (sIf (pTst (pBin oEq (pCall oLen (pCons (pVar 5) pNil)) (pC (.int 0)))) (sRet (pC (.int 0))) sNop)
  (sSeq (sIf (pTst (pBin oNe (pBin oIx (pVar 5) (pC (.int 0))) (pVar 4))) (sSeq (sAsg (gTp 2 (gsCons (gPut (pVar 0) (pVar 4)) (gsCons (gPut (pVar 0) (pBin oIx (pVar 5) (pC (.int 0)))) gsNil))) (pTup (pCons (pBin oIx (pVar 0) (pBin oIx (pVar 5) (pC (.int 0)))) (pCons (pBin oIx (pVar 0) (pVar 4)) pNil))))
  (sSet 1 (pUn oNeg (pVar 1)))) sNop)
  (sSeq (sFor (iR2 (pCons (pBin oAdd (pVar 4) (pC (.int 1))) (pCons (pVar 3) pNil))) (gN 6) (sFor (iR2 (pCons (pBin oAdd (pVar 4) (pC (.int 1))) (pCons (pVar 3) pNil))) (gN 7) (sPut (pBin oIx (pVar 0) (pVar 6)) (pVar 7) (pBin oDiv (pBin oSub2 (pBin oMul (pBin oIx (pBin oIx (pVar 0) (pVar 6)) (pVar 7)) (pBin oIx (pBin oIx (pVar 0) (pVar 4)) (pVar 4))) (pBin oMul (pBin oIx (pBin oIx (pVar 0) (pVar 6)) (pVar 4)) (pBin oIx (pBin oIx (pVar 0) (pVar 4)) (pVar 7)))) (pVar 2)))))
  (sSet 2 (pBin oIx (pBin oIx (pVar 0) (pVar 4)) (pVar 4))))))))
  (sRet (pIf (pTst (pBin oGt (pVar 3) (pC (.int 0)))) (pBin oMul (pVar 1) (pVar 2)) (pC (.int 1)))))))
def F_determinant : Fn := pFn 9 B_determinant
abbrev N_resultant : List Str := ["f", "g", "n", "m", "rows", "k"]
theorem sc_resultant : FnScope N_resultant ["f", "g", "n", "m"] (defScope (topS 8)) := ⟨rfl, rfl, rfl, by decide +kernel, rfl, by decide +kernel, by decide +kernel⟩
def B_resultant : PSF := (sSeq (sAsg (gTp 2 (gsCons (gN 0) (gsCons (gN 1) gsNil))) (pTup (pCons (pBin oAdd (pCall oList (pCons (pVar 0) pNil)) (pBin oMul (pLst (pCons (pC (.int 0)) pNil)) (pBin oSub2 (pBin oAdd (pVar 2) (pC (.int 1))) (pCall oLen (pCons (pVar 0) pNil))))) (pCons (pBin oAdd (pCall oList (pCons (pVar 1) pNil)) (pBin oMul (pLst (pCons (pC (.int 0)) pNil)) (pBin oSub2 (pBin oAdd (pVar 3) (pC (.int 1))) (pCall oLen (pCons (pVar 1) pNil))))) pNil))))
  (sSeq (sSet 4 (pLcM [5] (iR1 (pCons (pVar 3) pNil)) (.n 5) tYesF (pBin oAdd (pBin oAdd (pBin oMul (pLst (pCons (pC (.int 0)) pNil)) (pVar 5)) (pUn oRev (pVar 0))) (pBin oMul (pLst (pCons (pC (.int 0)) pNil)) (pBin oSub2 (pBin oSub2 (pVar 3) (pC (.int 1))) (pVar 5))))))
  (sSeq (sExpr (pMth oExt (pVar 4) (pLc [5] (iR1 (pCons (pVar 2) pNil)) (.n 5) tYesF (pBin oAdd (pBin oAdd (pBin oMul (pLst (pCons (pC (.int 0)) pNil)) (pVar 5)) (pUn oRev (pVar 1))) (pBin oMul (pLst (pCons (pC (.int 0)) pNil)) (pBin oSub2 (pBin oSub2 (pVar 2) (pC (.int 1))) (pVar 5)))))))
  (sRet (pApp F_determinant 1 (pCons (pFrz (pVar 4)) pNil))))))
def F_resultant : Fn := pFn 6 B_resultant
abbrev N_through_values : List Str := ["values", "found", "step", "left", "size", "k", "j", "x"]
theorem sc_through_values : FnScope N_through_values ["values"] (defScope (topS 9)) := ⟨rfl, rfl, rfl, by decide +kernel, rfl, by decide +kernel, by decide +kernel⟩
def B_through_values : PSF := (sSeq (sAsg (gTp 3 (gsCons (gN 1) (gsCons (gN 2) (gsCons (gN 3) gsNil)))) (pTup (pCons (pTup pNil) (pCons (pTup (pCons (pC (.int 1)) pNil)) (pCons (pCall oList (pCons (pVar 0) pNil)) pNil)))))
  (sSeq (sSet 4 (pC (.int 1)))
  (sSeq (sFor (iR1 (pCons (pCall oLen (pCons (pVar 0) pNil)) pNil)) (gN 5) (sSeq (sSet 1 (pApp F_add 2 (pCons (pApp F_scaled 2 (pCons (pVar 1) (pCons (pCall oMax2 (pCons (pVar 5) (pCons (pC (.int 1)) pNil))) pNil))) (pCons (pApp F_scaled 2 (pCons (pVar 2) (pCons (pBin oIx (pVar 3) (pC (.int 0))) pNil))) pNil))))
  (sSeq (sSet 3 (pLc [6] (iR1 (pCons (pBin oSub2 (pCall oLen (pCons (pVar 3) pNil)) (pC (.int 1))) pNil)) (.n 6) tYesF (pBin oSub2 (pBin oIx (pVar 3) (pBin oAdd (pVar 6) (pC (.int 1)))) (pBin oIx (pVar 3) (pVar 6)))))
  (sSeq (sSet 2 (pApp F_multiply 2 (pCons (pVar 2) (pCons (pTup (pCons (pUn oNeg (pVar 5)) (pCons (pC (.int 1)) pNil))) pNil))))
  (sAug 4 oIMul (pCall oMax2 (pCons (pVar 5) (pCons (pC (.int 1)) pNil))))))))
  (sRet (pApp F_trimmed 1 (pCons (pLc [7] (iSeq (pVar 1)) (.n 7) tYesF (pBin oDiv (pVar 7) (pVar 4))) pNil))))))
def F_through_values : Fn := pFn 8 B_through_values
abbrev N__law_cell : List Str := ["script", "k"]
theorem sc__law_cell : FnScope N__law_cell ["script", "k"] (defScope (topS 11)) := ⟨rfl, rfl, rfl, by decide +kernel, rfl, by decide +kernel, by decide +kernel⟩
def B__law_cell : PSF := (sSeq (sIf (pTst (pBin oLt (pVar 1) (pCall oLen (pCons (pVar 0) pNil)))) (sRet (pBin oIx (pVar 0) (pVar 1))) sNop)
  (sRet (pC (.int 0))))
def F__law_cell : Fn := pFn 2 B__law_cell
abbrev N__law_draws : List Str := ["cell", "amount", "rows", "left", "k", "blended"]
theorem sc__law_draws : FnScope N__law_draws ["cell", "amount"] (defScope (topS 12)) := ⟨rfl, rfl, rfl, by decide +kernel, rfl, by decide +kernel, by decide +kernel⟩
def B__law_draws : PSF := (sSeq (sSet 2 (pLstM pNil))
  (sSeq (sSet 3 (pVar 0))
  (sSeq (sFor (iR1 (pCons (pVar 1) pNil)) (gN 4) (sIf (pAndT (pTst (pBin oGe (pVar 0) (pBin oPow (pC (.int 10)) (pC (.int 18))))) (pTst (pBin oGt (pVar 3) (pC (.int 0))))) (sSeq (sExpr (pMth oApp (pVar 2) (pBin oMod (pCall oInt (pCons (pVar 3) pNil)) (pC (.int 4096)))))
  (sSet 3 (pBin oDiv (pVar 3) (pC (.int 4096))))) (sSeq (sSet 5 (pBin oMod (pCall oInt (pCons (pBin oAdd (pBin oMul (pVar 0) (pC (.int 48271))) (pBin oMul (pBin oAdd (pVar 4) (pC (.int 1))) (pC (.int 69621)))) pNil)) (pC (.int 2147483647))))
  (sSeq (sSet 5 (pBin oMod (pCall oInt (pCons (pBin oAdd (pBin oAdd (pBin oMul (pVar 5) (pVar 5)) (pBin oMul (pVar 5) (pC (.int 16807)))) (pBin oMul (pVar 4) (pC (.int 7919)))) pNil)) (pC (.int 2147483629))))
  (sSeq (sSet 5 (pBin oMod (pCall oInt (pCons (pBin oAdd (pBin oAdd (pBin oMul (pVar 5) (pVar 5)) (pVar 0)) (pBin oMul (pC (.int 13)) (pVar 4))) pNil)) (pC (.int 2147483587))))
  (sExpr (pMth oApp (pVar 2) (pBin oMod (pBin oDiv (pVar 5) (pC (.int 7))) (pC (.int 4096))))))))))
  (sRet (pFrz (pVar 2))))))
def F__law_draws : Fn := pFn 6 B__law_draws
abbrev N__law_kind : List Str := ["x"]
theorem sc__law_kind : FnScope N__law_kind ["x"] (defScope (topS 13)) := ⟨rfl, rfl, rfl, by decide +kernel, rfl, by decide +kernel, by decide +kernel⟩
def B__law_kind : PSF := (sSeq (sIf (pTru (pUn (oIsi "bool") (pVar 0))) (sRet (pC (.int 1))) sNop)
  (sSeq (sIf (pTru (pUn (oIsi "int") (pVar 0))) (sRet (pC (.int 2))) sNop)
  (sSeq (sIf (pTru (pUn (oIsi "str") (pVar 0))) (sRet (pC (.int 3))) sNop)
  (sSeq (sIf (pTru (pUn (oIsi "tuple") (pVar 0))) (sRet (pC (.int 4))) sNop)
  (sSeq (sIf (pTru (pUn (oIsi "list") (pVar 0))) (sRet (pC (.int 5))) sNop)
  (sSeq (sIf (pTru (pUn (oIsi "dict") (pVar 0))) (sRet (pC (.int 6))) sNop)
  (sRet (pC (.int 0)))))))))
def F__law_kind : Fn := pFn 1 B__law_kind
abbrev N__law_equal : List Str := ["x", "due", "key", "k", "other"]
theorem sc__law_equal : FnScope N__law_equal ["x", "due"] (defScope (topS 14)) := ⟨rfl, rfl, rfl, by decide +kernel, rfl, by decide +kernel, by decide +kernel⟩
def B__law_equal (rec : Fn) : PSF := (sSeq (sIf (pTst (pBin oNe (pApp F__law_kind 1 (pCons (pVar 0) pNil)) (pApp F__law_kind 1 (pCons (pVar 1) pNil)))) (sRet (pC (.bl false))) sNop)
  (sSeq (sIf (pOrT (pTru (pUn (oIsi "tuple") (pVar 1))) (pTru (pUn (oIsi "list") (pVar 1)))) (sSeq (sIf (pTst (pBin oNe (pCall oLen (pCons (pVar 0) pNil)) (pCall oLen (pCons (pVar 1) pNil)))) (sRet (pC (.bl false))) sNop)
  (sRet (pBin oEq (pCall oLen (pCons (pLc [3] (iR1 (pCons (pCall oLen (pCons (pVar 1) pNil)) pNil)) (.n 3) (pNotT (pTru (pApp rec 2 (pCons (pBin oIx (pVar 0) (pVar 3)) (pCons (pBin oIx (pVar 1) (pVar 3)) pNil))))) (pVar 3)) pNil)) (pC (.int 0))))) sNop)
  (sSeq (sIf (pTru (pUn (oIsi "dict") (pVar 1))) (sSeq (sIf (pTst (pBin oNe (pCall oLen (pCons (pVar 0) pNil)) (pCall oLen (pCons (pVar 1) pNil)))) (sRet (pC (.bl false))) sNop)
  (sSeq (sFor (iSeq (pVar 0)) (gN 2) (sSeq (sIf (pOrT (pTst (pBin oNotIn (pVar 2) (pVar 1))) (pNotT (pTru (pApp rec 2 (pCons (pBin oIx (pVar 0) (pVar 2)) (pCons (pBin oIx (pVar 1) (pVar 2)) pNil)))))) (sRet (pC (.bl false))) sNop)
  (sIf (pTst (pBin oEq (pCall oLen (pCons (pLc [4] (iSeq (pVar 1)) (.n 4) (pAndT (pTst (pBin oEq (pVar 4) (pVar 2))) (pTru (pApp rec 2 (pCons (pVar 2) (pCons (pVar 4) pNil))))) (pVar 4)) pNil)) (pC (.int 0)))) (sRet (pC (.bl false))) sNop)))
  (sRet (pC (.bl true))))) sNop)
  (sRet (pBin oEq (pVar 0) (pVar 1))))))
def F__law_equal : Nat → Fn
  | 0 => fun _ _ => none
  | n + 1 => pFn 5 (B__law_equal (F__law_equal n))
abbrev N__law_pool : List Str := ["script", "rows", "k"]
theorem sc__law_pool : FnScope N__law_pool ["script"] (defScope (topS 15)) := ⟨rfl, rfl, rfl, by decide +kernel, rfl, by decide +kernel, by decide +kernel⟩
def B__law_pool : PSF := (sSeq (sSet 1 (pLst pNil))
  (sSeq (sFor (iR1 (pCons (pCall oMin2 (pCons (pC (.int 4)) (pCons (pCall oMax2 (pCons (pC (.int 1)) (pCons (pCall oLen (pCons (pVar 0) pNil)) pNil))) pNil))) pNil)) (gN 2) (sSet 1 (pBin oAdd (pVar 1) (pApp F__law_draws 2 (pCons (pBin oAdd (pApp F__law_cell 2 (pCons (pVar 0) (pCons (pVar 2) pNil))) (pBin oMul (pC (.int 7)) (pVar 2))) (pCons (pC (.int 20)) pNil))))))
  (sRet (pLst (pCons (pVar 1) (pCons (pLstM (pCons (pC (.int 0)) pNil)) pNil))))))
def F__law_pool : Fn := pFn 3 B__law_pool
abbrev N__law_pick : List Str := ["pool", "amount", "at", "turn"]
theorem sc__law_pick : FnScope N__law_pick ["pool", "amount"] (defScope (topS 16)) := ⟨rfl, rfl, rfl, by decide +kernel, rfl, by decide +kernel, by decide +kernel⟩
def B__law_pick : PSF := (sSeq (sSet 2 (pBin oIx (pBin oIx (pVar 0) (pC (.int 1))) (pC (.int 0))))
  (sSeq (sPut (pBin oIx (pVar 0) (pC (.int 1))) (pC (.int 0)) (pBin oAdd (pVar 2) (pC (.int 1))))
  (sSeq (sSet 3 (pBin oDiv (pVar 2) (pCall oLen (pCons (pBin oIx (pVar 0) (pC (.int 0))) pNil))))
  (sRet (pBin oMod (pCall oInt (pCons (pBin oAdd (pBin oAdd (pBin oIx (pBin oIx (pVar 0) (pC (.int 0))) (pBin oMod (pVar 2) (pCall oLen (pCons (pBin oIx (pVar 0) (pC (.int 0))) pNil)))) (pBin oMul (pVar 3) (pC (.int 1009)))) (pBin oMul (pVar 3) (pVar 2))) pNil)) (pVar 1))))))
def F__law_pick : Fn := pFn 4 B__law_pick
abbrev N__law_m_gcd : List Str := ["a", "b"]
theorem sc__law_m_gcd : FnScope N__law_m_gcd ["a", "b"] (defScope (topS 17)) := ⟨rfl, rfl, rfl, by decide +kernel, rfl, by decide +kernel, by decide +kernel⟩
def B__law_m_gcd : PSF := (sSeq (sPar [0, 1] (pCons (pCall oAbs (pCons (pVar 0) pNil)) (pCons (pCall oAbs (pCons (pVar 1) pNil)) pNil)))
  (sSeq (sWhile (fun e _ => (evI e 1).natAbs + 1) (pTst (pBin oNe (pVar 1) (pC (.int 0)))) (sPar [0, 1] (pCons (pVar 1) (pCons (pBin oMod (pCall oInt (pCons (pVar 0) pNil)) (pVar 1)) pNil))))
  (sRet (pVar 0))))
def F__law_m_gcd : Fn := pFn 2 B__law_m_gcd
abbrev N__law_m_f : List Str := ["p", "q", "d"]
theorem sc__law_m_f : FnScope N__law_m_f ["p", "q"] (defScope (topS 18)) := ⟨rfl, rfl, rfl, by decide +kernel, rfl, by decide +kernel, by decide +kernel⟩
def B__law_m_f : PSF := (sSeq (sSet 2 (pApp F__law_m_gcd 2 (pCons (pVar 0) (pCons (pVar 1) pNil))))
  (sSeq (sIf (pTst (pBin oLt (pVar 1) (pC (.int 0)))) (sSet 2 (pUn oNeg (pVar 2))) sNop)
  (sRet (pTup (pCons (pBin oDiv (pVar 0) (pVar 2)) (pCons (pBin oDiv (pVar 1) (pVar 2)) pNil))))))
def F__law_m_f : Fn := pFn 3 B__law_m_f
abbrev N__law_m_add : List Str := ["a", "b"]
theorem sc__law_m_add : FnScope N__law_m_add ["a", "b"] (defScope (topS 19)) := ⟨rfl, rfl, rfl, by decide +kernel, rfl, by decide +kernel, by decide +kernel⟩
def B__law_m_add : PSF := (sRet (pApp F__law_m_f 2 (pCons (pBin oAdd (pBin oMul (pBin oIx (pVar 0) (pC (.int 0))) (pBin oIx (pVar 1) (pC (.int 1)))) (pBin oMul (pBin oIx (pVar 1) (pC (.int 0))) (pBin oIx (pVar 0) (pC (.int 1))))) (pCons (pBin oMul (pBin oIx (pVar 0) (pC (.int 1))) (pBin oIx (pVar 1) (pC (.int 1)))) pNil))))
def F__law_m_add : Fn := pFn 2 B__law_m_add
abbrev N__law_m_mul : List Str := ["a", "b"]
theorem sc__law_m_mul : FnScope N__law_m_mul ["a", "b"] (defScope (topS 20)) := ⟨rfl, rfl, rfl, by decide +kernel, rfl, by decide +kernel, by decide +kernel⟩
def B__law_m_mul : PSF := (sRet (pApp F__law_m_f 2 (pCons (pBin oMul (pBin oIx (pVar 0) (pC (.int 0))) (pBin oIx (pVar 1) (pC (.int 0)))) (pCons (pBin oMul (pBin oIx (pVar 0) (pC (.int 1))) (pBin oIx (pVar 1) (pC (.int 1)))) pNil))))
def F__law_m_mul : Fn := pFn 2 B__law_m_mul
abbrev N__law_m_trim : List Str := ["numbers", "found"]
theorem sc__law_m_trim : FnScope N__law_m_trim ["numbers"] (defScope (topS 21)) := ⟨rfl, rfl, rfl, by decide +kernel, rfl, by decide +kernel, by decide +kernel⟩
def B__law_m_trim : PSF := (sSeq (sSet 1 (pCallM oListL (pCons (pVar 0) pNil)))
  (sSeq (sWhile fuel0 (pAndT (pTst (pBin oNe (pVar 1) (pLst pNil))) (pTst (pBin oEq (pBin oIx (pVar 1) (pUn oNeg (pC (.int 1)))) (pC (.int 0))))) (sExpr (pMth0 oPop (pVar 1))))
  (sRet (pCall oTuple (pCons (pVar 1) pNil)))))
def F__law_m_trim : Fn := pFn 2 B__law_m_trim
abbrev N__law_m_scale : List Str := ["f", "x", "y"]
theorem sc__law_m_scale : FnScope N__law_m_scale ["f", "x"] (defScope (topS 22)) := ⟨rfl, rfl, rfl, by decide +kernel, rfl, by decide +kernel, by decide +kernel⟩
def B__law_m_scale : PSF := (sRet (pApp F__law_m_trim 1 (pCons (pLc [2] (iSeq (pVar 0)) (.n 2) tYesF (pBin oMul (pVar 1) (pVar 2))) pNil)))
def F__law_m_scale : Fn := pFn 3 B__law_m_scale
abbrev N__law_m_times : List Str := ["f", "g", "found", "j", "k"]
theorem sc__law_m_times : FnScope N__law_m_times ["f", "g"] (defScope (topS 23)) := ⟨rfl, rfl, rfl, by decide +kernel, rfl, by decide +kernel, by decide +kernel⟩
def B__law_m_times : PSF := (sSeq (sSet 2 (pBinM oRepL (pLst (pCons (pC (.int 0)) pNil)) (pBin oAdd (pCall oLen (pCons (pVar 0) pNil)) (pCall oLen (pCons (pVar 1) pNil)))))
  (sSeq (sFor (iR1 (pCons (pCall oLen (pCons (pVar 0) pNil)) pNil)) (gN 3) (sFor (iR1 (pCons (pCall oLen (pCons (pVar 1) pNil)) pNil)) (gN 4) (sPut (pVar 2) (pBin oAdd (pVar 3) (pVar 4)) (pBin oAdd (pBin oIx (pVar 2) (pBin oAdd (pVar 3) (pVar 4))) (pBin oMul (pBin oIx (pVar 0) (pVar 3)) (pBin oIx (pVar 1) (pVar 4)))))))
  (sRet (pApp F__law_m_trim 1 (pCons (pFrz (pVar 2)) pNil)))))
def F__law_m_times : Fn := pFn 5 B__law_m_times
abbrev N__law_m_all : List Str := ["rows", "found", "f"]
theorem sc__law_m_all : FnScope N__law_m_all ["rows"] (defScope (topS 24)) := ⟨rfl, rfl, rfl, by decide +kernel, rfl, by decide +kernel, by decide +kernel⟩
def B__law_m_all : PSF := (sSeq (sSet 1 (pTup (pCons (pC (.int 1)) pNil)))
  (sSeq (sFor (iSeq (pVar 0)) (gN 2) (sSet 1 (pApp F__law_m_times 2 (pCons (pVar 1) (pCons (pVar 2) pNil)))))
  (sRet (pVar 1))))
def F__law_m_all : Fn := pFn 3 B__law_m_all
abbrev N__law_m_val : List Str := ["f", "a", "found", "number"]
theorem sc__law_m_val : FnScope N__law_m_val ["f", "a"] (defScope (topS 25)) := ⟨rfl, rfl, rfl, by decide +kernel, rfl, by decide +kernel, by decide +kernel⟩
def B__law_m_val : PSF := (sSeq (sSet 2 (pTup (pCons (pC (.int 0)) (pCons (pC (.int 1)) pNil))))
  (sSeq (sFor (iSeq (pUn oRev (pVar 0))) (gN 3) (sSet 2 (pApp F__law_m_add 2 (pCons (pApp F__law_m_mul 2 (pCons (pVar 2) (pCons (pVar 1) pNil))) (pCons (pTup (pCons (pVar 3) (pCons (pC (.int 1)) pNil))) pNil)))))
  (sRet (pVar 2))))
def F__law_m_val : Fn := pFn 4 B__law_m_val
abbrev N__law_m_orders : List Str := ["n", "rows", "k", "more", "row", "x"]
theorem sc__law_m_orders : FnScope N__law_m_orders ["n"] (defScope (topS 26)) := ⟨rfl, rfl, rfl, by decide +kernel, rfl, by decide +kernel, by decide +kernel⟩
def B__law_m_orders : PSF := (sSeq (sSet 1 (pLst (pCons (pTup pNil) pNil)))
  (sSeq (sFor (iR1 (pCons (pVar 0) pNil)) (gN 2) (sSeq (sSet 3 (pLst pNil))
  (sSeq (sFor (iSeq (pVar 1)) (gN 4) (sSet 3 (pBin oAdd (pVar 3) (pLc [5] (iR1 (pCons (pVar 0) pNil)) (.n 5) (pTst (pBin oNotIn (pVar 5) (pVar 4))) (pBin oAdd (pVar 4) (pTup (pCons (pVar 5) pNil)))))))
  (sSet 1 (pVar 3)))))
  (sRet (pVar 1))))
def F__law_m_orders : Fn := pFn 6 B__law_m_orders
abbrev N__law_m_odd : List Str := ["order", "i", "j"]
theorem sc__law_m_odd : FnScope N__law_m_odd ["order"] (defScope (topS 27)) := ⟨rfl, rfl, rfl, by decide +kernel, rfl, by decide +kernel, by decide +kernel⟩
def B__law_m_odd : PSF := (sRet (pBin oMod (pCall oSum (pCons (pLc [2] (iR1 (pCons (pCall oLen (pCons (pVar 0) pNil)) pNil)) (.n 2) tYesF (pCall oLen (pCons (pLc [1] (iR1 (pCons (pVar 2) pNil)) (.n 1) (pTst (pBin oGt (pBin oIx (pVar 0) (pVar 1)) (pBin oIx (pVar 0) (pVar 2)))) (pVar 1)) pNil))) pNil)) (pC (.int 2))))
def F__law_m_odd : Fn := pFn 3 B__law_m_odd
abbrev N_law : List Str := ["script", "pool", "n", "rows", "total", "order", "part", "j", "one", "two", "a", "b", "f", "g", "due", "x", "y", "values", "h", "many", "points", "k"]
theorem sc_law : FnScope N_law ["script"] (defScope (topS 28)) := ⟨rfl, rfl, rfl, by decide +kernel, rfl, by decide +kernel, by decide +kernel⟩
def B_law : PSF := (sSeq (sSet 1 (pApp F__law_pool 1 (pCons (pVar 0) pNil)))
  (sSeq (sSet 2 (pApp F__law_pick 2 (pCons (pVar 1) (pCons (pC (.int 5)) pNil))))
  (sSeq (sSet 3 (pLcM [7] (iR1 (pCons (pVar 2) pNil)) (.n 7) tYesF (pLc [21] (iR1 (pCons (pVar 2) pNil)) (.n 21) tYesF (pBin oSub2 (pApp F__law_pick 2 (pCons (pVar 1) (pCons (pC (.int 9)) pNil))) (pC (.int 4))))))
  (sSeq (sIf (pAndT (pTst (pBin oGt (pVar 2) (pC (.int 1)))) (pTst (pBin oEq (pApp F__law_pick 2 (pCons (pVar 1) (pCons (pC (.int 3)) pNil))) (pC (.int 0))))) (sPut (pVar 3) (pBin oSub2 (pVar 2) (pC (.int 1))) (pCall oList (pCons (pBin oIx (pVar 3) (pC (.int 0))) pNil))) sNop)
  (sSeq (sSet 4 (pC (.int 0)))
  (sSeq (sFor (iSeq (pApp F__law_m_orders 1 (pCons (pVar 2) pNil))) (gN 5) (sSeq (sSet 6 (pBin oIx (pLst (pCons (pC (.int 1)) (pCons (pUn oNeg (pC (.int 1))) pNil))) (pApp F__law_m_odd 1 (pCons (pVar 5) pNil))))
  (sSeq (sFor (iR1 (pCons (pVar 2) pNil)) (gN 7) (sSet 6 (pBin oMul (pVar 6) (pBin oIx (pBin oIx (pVar 3) (pVar 7)) (pBin oIx (pVar 5) (pVar 7))))))
  (sSet 4 (pBin oAdd (pVar 4) (pVar 6))))))
  (sSeq (sIf (pNotT (pTru (pApp (F__law_equal (20)) 2 (pCons (pApp F_determinant 1 (pCons (pFrz (pVar 3)) pNil)) (pCons (pVar 4) pNil))))) (sRet (pC (.bl false))) sNop)
  (sSeq (sPar [8, 9] (pCons (pLc [21] (iR1 (pCons (pApp F__law_pick 2 (pCons (pVar 1) (pCons (pC (.int 4)) pNil))) pNil)) (.n 21) tYesF (pBin oSub2 (pApp F__law_pick 2 (pCons (pVar 1) (pCons (pC (.int 9)) pNil))) (pC (.int 4)))) (pCons (pLc [21] (iR1 (pCons (pApp F__law_pick 2 (pCons (pVar 1) (pCons (pC (.int 4)) pNil))) pNil)) (.n 21) tYesF (pBin oSub2 (pApp F__law_pick 2 (pCons (pVar 1) (pCons (pC (.int 9)) pNil))) (pC (.int 4)))) pNil)))
  (sSeq (sPar [10, 11] (pCons (pBin oAdd (pC (.int 1)) (pApp F__law_pick 2 (pCons (pVar 1) (pCons (pC (.int 3)) pNil)))) (pCons (pBin oIx (pLst (pCons (pUn oNeg (pC (.int 2))) (pCons (pUn oNeg (pC (.int 1))) (pCons (pC (.int 1)) (pCons (pC (.int 3)) pNil))))) (pApp F__law_pick 2 (pCons (pVar 1) (pCons (pC (.int 4)) pNil)))) pNil)))
  (sSeq (sSet 12 (pApp F__law_m_scale 2 (pCons (pApp F__law_m_all 1 (pCons (pLc [15] (iSeq (pVar 8)) (.n 15) tYesF (pTup (pCons (pUn oNeg (pVar 15)) (pCons (pC (.int 1)) pNil)))) pNil)) (pCons (pVar 10) pNil))))
  (sSeq (sSet 13 (pApp F__law_m_scale 2 (pCons (pApp F__law_m_all 1 (pCons (pLc [15] (iSeq (pVar 9)) (.n 15) tYesF (pTup (pCons (pUn oNeg (pVar 15)) (pCons (pC (.int 1)) pNil)))) pNil)) (pCons (pVar 11) pNil))))
  (sSeq (sSet 14 (pC (.int 1)))
  (sSeq (sFor (iSeq (pVar 8)) (gN 15) (sSeq (sSet 14 (pBin oMul (pVar 14) (pVar 11)))
  (sFor (iSeq (pVar 9)) (gN 16) (sSet 14 (pBin oMul (pVar 14) (pBin oSub2 (pVar 15) (pVar 16)))))))
  (sSeq (sFor (iSeq (pVar 9)) (gN 16) (sSet 14 (pBin oMul (pVar 14) (pVar 10))))
  (sSeq (sIf (pNotT (pTru (pApp (F__law_equal (20)) 2 (pCons (pApp F_resultant 4 (pCons (pVar 12) (pCons (pVar 13) (pCons (pCall oLen (pCons (pVar 8) pNil)) (pCons (pCall oLen (pCons (pVar 9) pNil)) pNil))))) (pCons (pVar 14) pNil))))) (sRet (pC (.bl false))) sNop)
  (sSeq (sSet 17 (pLc [21] (iR1 (pCons (pApp F__law_pick 2 (pCons (pVar 1) (pCons (pC (.int 5)) pNil))) pNil)) (.n 21) tYesF (pBin oSub2 (pApp F__law_pick 2 (pCons (pVar 1) (pCons (pC (.int 19)) pNil))) (pC (.int 9)))))
  (sSeq (sSet 18 (pApp F__law_m_trim 1 (pCons (pVar 17) pNil)))
  (sSeq (sSet 19 (pBin oAdd (pCall oLen (pCons (pVar 17) pNil)) (pApp F__law_pick 2 (pCons (pVar 1) (pCons (pC (.int 2)) pNil)))))
  (sSeq (sSet 20 (pLc [21] (iR1 (pCons (pVar 19) pNil)) (.n 21) tYesF (pBin oIx (pApp F__law_m_val 2 (pCons (pVar 18) (pCons (pTup (pCons (pVar 21) (pCons (pC (.int 1)) pNil))) pNil))) (pC (.int 0)))))
  (sRet (pAndV (pApp (F__law_equal (20)) 2 (pCons (pApp F_through_values 1 (pCons (pVar 20) pNil)) (pCons (pVar 18) pNil))) (pBin oEq (pApp F_through_values 1 (pCons (pLst pNil) pNil)) (pTup pNil)))))))))))))))))))))))
def F_law : Fn := pFn 22 B_law
end Z

set_option maxRecDepth 100000
set_option maxHeartbeats 4000000
namespace Z
open PySem PySem.Spec PyProof.Rows L2
structure Txt (w : World) (K : PySem.W.Frag) (mg : Str → Option Value) : Prop where
  d_trimmed : Txt1 K mg "trimmed" (topS 1)
  d_number_at : Txt1 K mg "number_at" (topS 3)
  d_add : Txt1 K mg "add" (topS 2)
  d_scaled : Txt1 K mg "scaled" (topS 4)
  d_multiply : Txt1 K mg "multiply" (topS 5)
  d_determinant : Txt1 K mg "determinant" (topS 7)
  d_resultant : Txt1 K mg "resultant" (topS 8)
  d_through_values : Txt1 K mg "through_values" (topS 9)
  d__law_cell : Txt1 K mg "_law_cell" (topS 11)
  d__law_draws : Txt1 K mg "_law_draws" (topS 12)
  d__law_kind : Txt1 K mg "_law_kind" (topS 13)
  d__law_equal : Txt1 K mg "_law_equal" (topS 14)
  d__law_pool : Txt1 K mg "_law_pool" (topS 15)
  d__law_pick : Txt1 K mg "_law_pick" (topS 16)
  d__law_m_gcd : Txt1 K mg "_law_m_gcd" (topS 17)
  d__law_m_f : Txt1 K mg "_law_m_f" (topS 18)
  d__law_m_add : Txt1 K mg "_law_m_add" (topS 19)
  d__law_m_mul : Txt1 K mg "_law_m_mul" (topS 20)
  d__law_m_trim : Txt1 K mg "_law_m_trim" (topS 21)
  d__law_m_scale : Txt1 K mg "_law_m_scale" (topS 22)
  d__law_m_times : Txt1 K mg "_law_m_times" (topS 23)
  d__law_m_all : Txt1 K mg "_law_m_all" (topS 24)
  d__law_m_val : Txt1 K mg "_law_m_val" (topS 25)
  d__law_m_orders : Txt1 K mg "_law_m_orders" (topS 26)
  d__law_m_odd : Txt1 K mg "_law_m_odd" (topS 27)
  d_law : Txt1 K mg "law" (topS 28)
  z_abs : mg "abs" = none
  z_bool : mg "bool" = none
  z_dict : mg "dict" = none
  z_int : mg "int" = none
  z_isinstance : mg "isinstance" = none
  z_len : mg "len" = none
  z_list : mg "list" = none
  z_max : mg "max" = none
  z_min : mg "min" = none
  z_range : mg "range" = none
  z_str : mg "str" = none
  z_sum : mg "sum" = none
  z_tuple : mg "tuple" = none
section
variable {P : Program} {w : World} {K : PySem.W.Frag} {mg : Str → Option Value} {base : Heap}
theorem ok_trimmed (T : Txt w K mg) : FnA P w K mg base "trimmed" 1 1 F_trimmed :=
  fn_ok (k := 0) (b := B_trimmed) (N := N_trimmed) T.d_trimmed sc_trimmed (fun _ _ _ _ _ _ us hl => match us, hl with | [_], _ => rfl) fun f cdv A outer s H E hr =>
      (mss_cons (ms_set (i := 0) sc_trimmed.nd rfl (by first | exact Or.inl rfl | exact Or.inr rfl) (me_listM cr_listM (by rfl) T.z_list (by decide +kernel) (ma_cons (me_var 0) ma_nil)))
      (mss_cons (ms_while fuel0 (passes_of rfl) (mt_bool (mw_and (mt_cmp op_oGt (me_callB cr_oLen (by rfl) T.z_len (by decide +kernel) (ma_cons (me_var 0) ma_nil)) me_int (nomark _)) (mw_and1 (mt_cmp (op_oEq hr.units) (me_ix (me_var 0) (me_neg me_int)) me_int (nomark _))))) (mss_one (ms_expr (me_pop (me_var 0)))))
      (mss_one (ms_ret (me_callTy cr_oTuple (by rfl) T.z_tuple (by decide +kernel) (ma_cons (me_var 0) ma_nil))))))
theorem ok_number_at (T : Txt w K mg) : FnA P w K mg base "number_at" 1 2 F_number_at :=
  fn_ok (k := 0) (b := B_number_at) (N := N_number_at) T.d_number_at sc_number_at (fun _ _ _ _ _ _ us hl => match us, hl with | [_, _], _ => rfl) fun f cdv A outer s H E hr =>
      (mss_one (ms_ret (me_if (mt_chain bl_oLe op_oLe (op_oLt hr.units0) me_int (me_var 1) (me_callB cr_oLen (by rfl) T.z_len (by decide +kernel) (ma_cons (me_var 0) ma_nil))) (me_ix (me_var 0) (me_var 1)) me_int)))
theorem ok_add (T : Txt w K mg) : FnA P w K mg base "add" 2 2 F_add :=
  fn_ok (k := 1) (b := B_add) (N := N_add) T.d_add sc_add (fun _ _ _ _ _ _ us hl => match us, hl with | [_, _], _ => rfl) fun f cdv A outer s H E hr =>
      (mss_cons (ms_set (i := 2) sc_add.nd rfl (by first | exact Or.inl rfl | exact Or.inr rfl) (me_callB (cr_oMax2 rfl) (by rfl) T.z_max (by decide +kernel) (ma_cons (me_callB cr_oLen (by rfl) T.z_len (by decide +kernel) (ma_cons (me_var 0) ma_nil)) (ma_cons (me_callB cr_oLen (by rfl) T.z_len (by decide +kernel) (ma_cons (me_var 1) ma_nil)) ma_nil))))
      (mss_one (ms_ret (me_call (ok_trimmed T) hr (by decide) (passAt tkD) (by rfl) (ma_cons (me_lc (T := (.n 3)) fin_F rfl sc_add.nd (mi_range1 (by rfl) T.z_range (ma_cons (me_var 2) ma_nil)) (by exact blkOk_by (own := [("k", 3)]) (N := N_add) (sc := defScope (topS 2)) (by decide +kernel)) rfl (by decide) (fun _ _ _ _ _ => pg_name (i := 3) sc_add.nd rfl (by first | exact Or.inl rfl | exact Or.inr rfl)) (fun _ _ _ _ _ => mts_nil) (fun _ _ _ _ _ => (me_bin op_oAdd (me_call (ok_number_at T) hr (by decide) tkB (by rfl) (ma_cons (me_var 0) (ma_cons (me_var 3) ma_nil))) (me_call (ok_number_at T) hr (by decide) tkB (by rfl) (ma_cons (me_var 1) (ma_cons (me_var 3) ma_nil)))))) ma_nil)))))
theorem ok_scaled (T : Txt w K mg) : FnA P w K mg base "scaled" 2 2 F_scaled :=
  fn_ok (k := 1) (b := B_scaled) (N := N_scaled) T.d_scaled sc_scaled (fun _ _ _ _ _ _ us hl => match us, hl with | [_, _], _ => rfl) fun f cdv A outer s H E hr =>
      (mss_one (ms_ret (me_call (ok_trimmed T) hr (by decide) (passAt tkD) (by rfl) (ma_cons (me_lc (T := (.n 2)) fin_F rfl sc_scaled.nd (mi_seq (me_var 0)) (by exact blkOk_by (own := [("x", 2)]) (N := N_scaled) (sc := defScope (topS 4)) (by decide +kernel)) rfl (by decide) (fun _ _ _ _ _ => pg_name (i := 2) sc_scaled.nd rfl (by first | exact Or.inl rfl | exact Or.inr rfl)) (fun _ _ _ _ _ => mts_nil) (fun _ _ _ _ _ => (me_bin op_oMul (me_var 1) (me_var 2)))) ma_nil))))
theorem ok_multiply (T : Txt w K mg) : FnA P w K mg base "multiply" 2 2 F_multiply :=
  fn_ok (k := 1) (b := B_multiply) (N := N_multiply) T.d_multiply sc_multiply (fun _ _ _ _ _ _ us hl => match us, hl with | [_, _], _ => rfl) fun f cdv A outer s H E hr =>
      (mss_cons (ms_if (mt_bool (mw_or (mt_cmp (op_oEq hr.units) (me_callB cr_oLen (by rfl) T.z_len (by decide +kernel) (ma_cons (me_var 0) ma_nil)) me_int (nomark _)) (mw_or1 (mt_cmp (op_oEq hr.units) (me_callB cr_oLen (by rfl) T.z_len (by decide +kernel) (ma_cons (me_var 1) ma_nil)) me_int (nomark _))))) (mss_one (ms_ret (me_tup ma_nil))) mss_nil)
      (mss_cons (ms_set (i := 2) sc_multiply.nd rfl (by first | exact Or.inl rfl | exact Or.inr rfl) (me_binM op_repM (me_lst (ma_cons me_int ma_nil)) (me_bin op_oSub2 (me_bin op_oAdd (me_callB cr_oLen (by rfl) T.z_len (by decide +kernel) (ma_cons (me_var 0) ma_nil)) (me_callB cr_oLen (by rfl) T.z_len (by decide +kernel) (ma_cons (me_var 1) ma_nil))) me_int)))
      (mss_cons (ms_for (passes_of rfl) rfl (mi_range1 (by rfl) T.z_range (ma_cons (me_callB cr_oLen (by rfl) T.z_len (by decide +kernel) (ma_cons (me_var 0) ma_nil)) ma_nil)) (mg_name (i := 3) sc_multiply.nd rfl (by first | exact Or.inl rfl | exact Or.inr rfl)) (mss_one (ms_for (passes_of rfl) rfl (mi_range1 (by rfl) T.z_range (ma_cons (me_callB cr_oLen (by rfl) T.z_len (by decide +kernel) (ma_cons (me_var 1) ma_nil)) ma_nil)) (mg_name (i := 4) sc_multiply.nd rfl (by first | exact Or.inl rfl | exact Or.inr rfl)) (mss_one (ms_putAug (me_bin op_oMul (me_ix (me_var 0) (me_var 3)) (me_ix (me_var 1) (me_var 4))) (me_var 2) (me_bin op_oAdd (me_var 3) (me_var 4)) op_oIAdd)))))
      (mss_one (ms_ret (me_call (ok_trimmed T) hr (by decide) (passAt tkD) (by rfl) (ma_cons (me_frz (me_var 2)) ma_nil)))))))
theorem ok_determinant (T : Txt w K mg) : FnA P w K mg base "determinant" 1 1 F_determinant :=
  fn_ok (k := 0) (b := B_determinant) (N := N_determinant) T.d_determinant sc_determinant (fun _ _ _ _ _ _ us hl => match us, hl with | [_], _ => rfl) fun f cdv A outer s H E hr =>
      (mss_cons (ms_set (i := 0) sc_determinant.nd rfl (by first | exact Or.inl rfl | exact Or.inr rfl) (me_lc (T := (.n 8)) fin_M rfl sc_determinant.nd (mi_seq (me_var 0)) (by exact blkOk_by (own := [("row", 8)]) (N := N_determinant) (sc := defScope (topS 7)) (by decide +kernel)) rfl (by decide) (fun _ _ _ _ _ => pg_name (i := 8) sc_determinant.nd rfl (by first | exact Or.inl rfl | exact Or.inr rfl)) (fun _ _ _ _ _ => mts_nil) (fun _ _ _ _ _ => (me_listM cr_listM (by rfl) T.z_list (by decide +kernel) (ma_cons (me_var 8) ma_nil)))))
      (mss_cons (ms_par3 (i := 1) (j := 2) (l := 3) rfl sc_determinant.nd rfl rfl rfl (by decide) (by decide) (by decide) rfl rfl rfl (ma_cons me_int (ma_cons me_int (ma_cons (me_callB cr_oLen (by rfl) T.z_len (by decide +kernel) (ma_cons (me_var 0) ma_nil)) ma_nil))) rfl)
      (mss_cons (ms_for (passes_of rfl) rfl (mi_range1 (by rfl) T.z_range (ma_cons (me_var 3) ma_nil)) (mg_name (i := 4) sc_determinant.nd rfl (by first | exact Or.inl rfl | exact Or.inr rfl)) (mss_cons (ms_lc (T := (.n 6)) fin_F rfl sc_determinant.nd (i := 5) rfl rfl (sw_true rfl rfl rfl (by decide +kernel)) (mi_range2 (by rfl) T.z_range (ma_cons (me_var 4) (ma_cons (me_var 3) ma_nil))) (by exact blkOk_by (own := [("j", 6)]) (N := N_determinant) (sc := defScope (topS 7)) (by decide +kernel)) rfl (by decide) (fun _ _ _ _ _ => pg_name (i := 6) sc_determinant.nd rfl (by first | exact Or.inl rfl | exact Or.inr rfl)) (fun _ _ _ _ _ => (mts_one (mt_cmp (op_oNe hr.units) (me_ix (me_ix (me_var 0) (me_var 6)) (me_var 4)) me_int (nomark _)))) (fun _ _ _ _ _ => (me_var 6)))
      (mss_cons (ms_if (mt_cmp (op_oEq hr.units) (me_callB cr_oLen (by rfl) T.z_len (by decide +kernel) (ma_cons (me_var 5) ma_nil)) me_int (nomark _)) (mss_one (ms_ret me_int)) mss_nil)
      (mss_cons (ms_if (mt_cmp (op_oNe hr.units) (me_ix (me_var 5) me_int) (me_var 4) (nomark _)) (mss_cons (ms_asg (me_tup (ma_cons (me_ix (me_var 0) (me_ix (me_var 5) me_int)) (ma_cons (me_ix (me_var 0) (me_var 4)) ma_nil))) (mg_tup rfl (mgs_cons (mg_put (me_var 0) (me_var 4)) (mgs_cons (mg_put (me_var 0) (me_ix (me_var 5) me_int)) mgs_nil))))
      (mss_one (ms_set (i := 1) sc_determinant.nd rfl (by first | exact Or.inl rfl | exact Or.inr rfl) (me_neg (me_var 1))))) mss_nil)
      (mss_cons (ms_for (passes_of rfl) rfl (mi_range2 (by rfl) T.z_range (ma_cons (me_bin op_oAdd (me_var 4) me_int) (ma_cons (me_var 3) ma_nil))) (mg_name (i := 6) sc_determinant.nd rfl (by first | exact Or.inl rfl | exact Or.inr rfl)) (mss_one (ms_for (passes_of rfl) rfl (mi_range2 (by rfl) T.z_range (ma_cons (me_bin op_oAdd (me_var 4) me_int) (ma_cons (me_var 3) ma_nil))) (mg_name (i := 7) sc_determinant.nd rfl (by first | exact Or.inl rfl | exact Or.inr rfl)) (mss_one (ms_put (me_bin op_oDiv (me_bin op_oSub2 (me_bin op_oMul (me_ix (me_ix (me_var 0) (me_var 6)) (me_var 7)) (me_ix (me_ix (me_var 0) (me_var 4)) (me_var 4))) (me_bin op_oMul (me_ix (me_ix (me_var 0) (me_var 6)) (me_var 4)) (me_ix (me_ix (me_var 0) (me_var 4)) (me_var 7)))) (me_var 2)) (me_ix (me_var 0) (me_var 6)) (me_var 7))))))
      (mss_one (ms_set (i := 2) sc_determinant.nd rfl (by first | exact Or.inl rfl | exact Or.inr rfl) (me_ix (me_ix (me_var 0) (me_var 4)) (me_var 4)))))))))
      (mss_one (ms_ret (me_if (mt_cmp op_oGt (me_var 3) me_int (nomark _)) (me_bin op_oMul (me_var 1) (me_var 2)) me_int))))))
theorem ok_resultant (T : Txt w K mg) : FnA P w K mg base "resultant" 2 4 F_resultant :=
  fn_ok (k := 1) (b := B_resultant) (N := N_resultant) T.d_resultant sc_resultant (fun _ _ _ _ _ _ us hl => match us, hl with | [_, _, _, _], _ => rfl) fun f cdv A outer s H E hr =>
      (mss_cons (ms_asg (me_tup (ma_cons (me_bin op_oAdd (me_callTy cr_oList (by rfl) T.z_list (by decide +kernel) (ma_cons (me_var 0) ma_nil)) (me_bin op_oMul (me_lst (ma_cons me_int ma_nil)) (me_bin op_oSub2 (me_bin op_oAdd (me_var 2) me_int) (me_callB cr_oLen (by rfl) T.z_len (by decide +kernel) (ma_cons (me_var 0) ma_nil))))) (ma_cons (me_bin op_oAdd (me_callTy cr_oList (by rfl) T.z_list (by decide +kernel) (ma_cons (me_var 1) ma_nil)) (me_bin op_oMul (me_lst (ma_cons me_int ma_nil)) (me_bin op_oSub2 (me_bin op_oAdd (me_var 3) me_int) (me_callB cr_oLen (by rfl) T.z_len (by decide +kernel) (ma_cons (me_var 1) ma_nil))))) ma_nil))) (mg_tup rfl (mgs_cons (mg_name (i := 0) sc_resultant.nd rfl (by first | exact Or.inl rfl | exact Or.inr rfl)) (mgs_cons (mg_name (i := 1) sc_resultant.nd rfl (by first | exact Or.inl rfl | exact Or.inr rfl)) mgs_nil))))
      (mss_cons (ms_lc (T := (.n 5)) fin_M rfl sc_resultant.nd (i := 4) rfl rfl (sw_true rfl rfl rfl (by decide +kernel)) (mi_range1 (by rfl) T.z_range (ma_cons (me_var 3) ma_nil)) (by exact blkOk_by (own := [("k", 5)]) (N := N_resultant) (sc := defScope (topS 8)) (by decide +kernel)) rfl (by decide) (fun _ _ _ _ _ => pg_name (i := 5) sc_resultant.nd rfl (by first | exact Or.inl rfl | exact Or.inr rfl)) (fun _ _ _ _ _ => mts_nil) (fun _ _ _ _ _ => (me_bin op_oAdd (me_bin op_oAdd (me_bin op_oMul (me_lst (ma_cons me_int ma_nil)) (me_var 5)) (me_rev (me_var 0))) (me_bin op_oMul (me_lst (ma_cons me_int ma_nil)) (me_bin op_oSub2 (me_bin op_oSub2 (me_var 3) me_int) (me_var 5))))))
      (mss_cons (ms_expr (me_extend (me_var 4) (me_lc (T := (.n 5)) fin_F rfl sc_resultant.nd (mi_range1 (by rfl) T.z_range (ma_cons (me_var 2) ma_nil)) (by exact blkOk_by (own := [("k", 5)]) (N := N_resultant) (sc := defScope (topS 8)) (by decide +kernel)) rfl (by decide) (fun _ _ _ _ _ => pg_name (i := 5) sc_resultant.nd rfl (by first | exact Or.inl rfl | exact Or.inr rfl)) (fun _ _ _ _ _ => mts_nil) (fun _ _ _ _ _ => (me_bin op_oAdd (me_bin op_oAdd (me_bin op_oMul (me_lst (ma_cons me_int ma_nil)) (me_var 5)) (me_rev (me_var 1))) (me_bin op_oMul (me_lst (ma_cons me_int ma_nil)) (me_bin op_oSub2 (me_bin op_oSub2 (me_var 2) me_int) (me_var 5))))))))
      (mss_one (ms_ret (me_call (ok_determinant T) hr (by decide) (passAt tkD) (by rfl) (ma_cons (me_frz (me_var 4)) ma_nil)))))))
theorem ok_through_values (T : Txt w K mg) : FnA P w K mg base "through_values" 3 1 F_through_values :=
  fn_ok (k := 2) (b := B_through_values) (N := N_through_values) T.d_through_values sc_through_values (fun _ _ _ _ _ _ us hl => match us, hl with | [_], _ => rfl) fun f cdv A outer s H E hr =>
      (mss_cons (ms_asg (me_tup (ma_cons (me_tup ma_nil) (ma_cons (me_tup (ma_cons me_int ma_nil)) (ma_cons (me_callTy cr_oList (by rfl) T.z_list (by decide +kernel) (ma_cons (me_var 0) ma_nil)) ma_nil)))) (mg_tup rfl (mgs_cons (mg_name (i := 1) sc_through_values.nd rfl (by first | exact Or.inl rfl | exact Or.inr rfl)) (mgs_cons (mg_name (i := 2) sc_through_values.nd rfl (by first | exact Or.inl rfl | exact Or.inr rfl)) (mgs_cons (mg_name (i := 3) sc_through_values.nd rfl (by first | exact Or.inl rfl | exact Or.inr rfl)) mgs_nil)))))
      (mss_cons (ms_set (i := 4) sc_through_values.nd rfl (by first | exact Or.inl rfl | exact Or.inr rfl) me_int)
      (mss_cons (ms_for (passes_of rfl) rfl (mi_range1 (by rfl) T.z_range (ma_cons (me_callB cr_oLen (by rfl) T.z_len (by decide +kernel) (ma_cons (me_var 0) ma_nil)) ma_nil)) (mg_name (i := 5) sc_through_values.nd rfl (by first | exact Or.inl rfl | exact Or.inr rfl)) (mss_cons (ms_set (i := 1) sc_through_values.nd rfl (by first | exact Or.inl rfl | exact Or.inr rfl) (me_call (ok_add T) hr (by decide) (passAt tkD) (by rfl) (ma_cons (me_call (ok_scaled T) hr (by decide) (passAt tkD) (by rfl) (ma_cons (me_var 1) (ma_cons (me_callB (cr_oMax2 rfl) (by rfl) T.z_max (by decide +kernel) (ma_cons (me_var 5) (ma_cons me_int ma_nil))) ma_nil))) (ma_cons (me_call (ok_scaled T) hr (by decide) (passAt tkD) (by rfl) (ma_cons (me_var 2) (ma_cons (me_ix (me_var 3) me_int) ma_nil))) ma_nil))))
      (mss_cons (ms_set (i := 3) sc_through_values.nd rfl (by first | exact Or.inl rfl | exact Or.inr rfl) (me_lc (T := (.n 6)) fin_F rfl sc_through_values.nd (mi_range1 (by rfl) T.z_range (ma_cons (me_bin op_oSub2 (me_callB cr_oLen (by rfl) T.z_len (by decide +kernel) (ma_cons (me_var 3) ma_nil)) me_int) ma_nil)) (by exact blkOk_by (own := [("j", 6)]) (N := N_through_values) (sc := defScope (topS 9)) (by decide +kernel)) rfl (by decide) (fun _ _ _ _ _ => pg_name (i := 6) sc_through_values.nd rfl (by first | exact Or.inl rfl | exact Or.inr rfl)) (fun _ _ _ _ _ => mts_nil) (fun _ _ _ _ _ => (me_bin op_oSub2 (me_ix (me_var 3) (me_bin op_oAdd (me_var 6) me_int)) (me_ix (me_var 3) (me_var 6))))))
      (mss_cons (ms_set (i := 2) sc_through_values.nd rfl (by first | exact Or.inl rfl | exact Or.inr rfl) (me_call (ok_multiply T) hr (by decide) (passAt tkD) (by rfl) (ma_cons (me_var 2) (ma_cons (me_tup (ma_cons (me_neg (me_var 5)) (ma_cons me_int ma_nil))) ma_nil))))
      (mss_one (ms_aug (i := 4) sc_through_values.nd rfl (by first | exact Or.inl rfl | exact Or.inr rfl) (me_callB (cr_oMax2 rfl) (by rfl) T.z_max (by decide +kernel) (ma_cons (me_var 5) (ma_cons me_int ma_nil))) op_oIMul))))))
      (mss_one (ms_ret (me_call (ok_trimmed T) hr (by decide) (passAt tkD) (by rfl) (ma_cons (me_lc (T := (.n 7)) fin_F rfl sc_through_values.nd (mi_seq (me_var 1)) (by exact blkOk_by (own := [("x", 7)]) (N := N_through_values) (sc := defScope (topS 9)) (by decide +kernel)) rfl (by decide) (fun _ _ _ _ _ => pg_name (i := 7) sc_through_values.nd rfl (by first | exact Or.inl rfl | exact Or.inr rfl)) (fun _ _ _ _ _ => mts_nil) (fun _ _ _ _ _ => (me_bin op_oDiv (me_var 7) (me_var 4)))) ma_nil)))))))
theorem ok__law_cell (T : Txt w K mg) : FnA P w K mg base "_law_cell" 1 2 F__law_cell :=
  fn_ok (k := 0) (b := B__law_cell) (N := N__law_cell) T.d__law_cell sc__law_cell (fun _ _ _ _ _ _ us hl => match us, hl with | [_, _], _ => rfl) fun f cdv A outer s H E hr =>
      (mss_cons (ms_if (mt_cmp (op_oLt hr.units0) (me_var 1) (me_callB cr_oLen (by rfl) T.z_len (by decide +kernel) (ma_cons (me_var 0) ma_nil)) (nomark _)) (mss_one (ms_ret (me_ix (me_var 0) (me_var 1)))) mss_nil)
      (mss_one (ms_ret me_int)))
theorem ok__law_draws (T : Txt w K mg) : FnA P w K mg base "_law_draws" 1 2 F__law_draws :=
  fn_ok (k := 0) (b := B__law_draws) (N := N__law_draws) T.d__law_draws sc__law_draws (fun _ _ _ _ _ _ us hl => match us, hl with | [_, _], _ => rfl) fun f cdv A outer s H E hr =>
      (mss_cons (ms_set (i := 2) sc__law_draws.nd rfl (by first | exact Or.inl rfl | exact Or.inr rfl) (me_lstM ma_nil))
      (mss_cons (ms_set (i := 3) sc__law_draws.nd rfl (by first | exact Or.inl rfl | exact Or.inr rfl) (me_var 0))
      (mss_cons (ms_for (passes_of rfl) rfl (mi_range1 (by rfl) T.z_range (ma_cons (me_var 1) ma_nil)) (mg_name (i := 4) sc__law_draws.nd rfl (by first | exact Or.inl rfl | exact Or.inr rfl)) (mss_one (ms_if (mt_bool (mw_and (mt_cmp op_oGe (me_var 0) (me_bin op_oPow me_int me_int) (nomark _)) (mw_and1 (mt_cmp op_oGt (me_var 3) me_int (nomark _))))) (mss_cons (ms_expr (me_append (me_var 2) (me_bin op_oMod (me_callTy cr_oInt (by rfl) T.z_int (by decide +kernel) (ma_cons (me_var 3) ma_nil)) me_int)))
      (mss_one (ms_set (i := 3) sc__law_draws.nd rfl (by first | exact Or.inl rfl | exact Or.inr rfl) (me_bin op_oDiv (me_var 3) me_int)))) (mss_cons (ms_set (i := 5) sc__law_draws.nd rfl (by first | exact Or.inl rfl | exact Or.inr rfl) (me_bin op_oMod (me_callTy cr_oInt (by rfl) T.z_int (by decide +kernel) (ma_cons (me_bin op_oAdd (me_bin op_oMul (me_var 0) me_int) (me_bin op_oMul (me_bin op_oAdd (me_var 4) me_int) me_int)) ma_nil)) me_int))
      (mss_cons (ms_set (i := 5) sc__law_draws.nd rfl (by first | exact Or.inl rfl | exact Or.inr rfl) (me_bin op_oMod (me_callTy cr_oInt (by rfl) T.z_int (by decide +kernel) (ma_cons (me_bin op_oAdd (me_bin op_oAdd (me_bin op_oMul (me_var 5) (me_var 5)) (me_bin op_oMul (me_var 5) me_int)) (me_bin op_oMul (me_var 4) me_int)) ma_nil)) me_int))
      (mss_cons (ms_set (i := 5) sc__law_draws.nd rfl (by first | exact Or.inl rfl | exact Or.inr rfl) (me_bin op_oMod (me_callTy cr_oInt (by rfl) T.z_int (by decide +kernel) (ma_cons (me_bin op_oAdd (me_bin op_oAdd (me_bin op_oMul (me_var 5) (me_var 5)) (me_var 0)) (me_bin op_oMul me_int (me_var 4))) ma_nil)) me_int))
      (mss_one (ms_expr (me_append (me_var 2) (me_bin op_oMod (me_bin op_oDiv (me_var 5) me_int) me_int))))))))))
      (mss_one (ms_ret (me_frz (me_var 2)))))))
theorem ok__law_kind (T : Txt w K mg) : FnA P w K mg base "_law_kind" 1 1 F__law_kind :=
  fn_ok (k := 0) (b := B__law_kind) (N := N__law_kind) T.d__law_kind sc__law_kind (fun _ _ _ _ _ _ us hl => match us, hl with | [_], _ => rfl) fun f cdv A outer s H E hr =>
      (mss_cons (ms_if (mt_tru (me_isi (T := "bool") (by decide) (by rfl) T.z_isinstance (by rfl) T.z_bool (by decide +kernel) (me_var 0))) (mss_one (ms_ret me_int)) mss_nil)
      (mss_cons (ms_if (mt_tru (me_isi (T := "int") (by decide) (by rfl) T.z_isinstance (by rfl) T.z_int (by decide +kernel) (me_var 0))) (mss_one (ms_ret me_int)) mss_nil)
      (mss_cons (ms_if (mt_tru (me_isi (T := "str") (by decide) (by rfl) T.z_isinstance (by rfl) T.z_str (by decide +kernel) (me_var 0))) (mss_one (ms_ret me_int)) mss_nil)
      (mss_cons (ms_if (mt_tru (me_isi (T := "tuple") (by decide) (by rfl) T.z_isinstance (by rfl) T.z_tuple (by decide +kernel) (me_var 0))) (mss_one (ms_ret me_int)) mss_nil)
      (mss_cons (ms_if (mt_tru (me_isi (T := "list") (by decide) (by rfl) T.z_isinstance (by rfl) T.z_list (by decide +kernel) (me_var 0))) (mss_one (ms_ret me_int)) mss_nil)
      (mss_cons (ms_if (mt_tru (me_isi (T := "dict") (by decide) (by rfl) T.z_isinstance (by rfl) T.z_dict (by decide +kernel) (me_var 0))) (mss_one (ms_ret me_int)) mss_nil)
      (mss_one (ms_ret me_int))))))))
theorem ok__law_equal (T : Txt w K mg) : ∀ n : Nat, FnA P w K mg base "_law_equal" (n + 2) 2 (F__law_equal n)
  | 0 => fn_none (ps := ["x", "due"]) T.d__law_equal (fun _ _ _ _ _ _ us hl => match us, hl with | [_, _], _ => rfl)
  | n + 1 =>
    have IH := ok__law_equal T n
    fn_ok (k := n + 2) (b := B__law_equal (F__law_equal n)) (N := N__law_equal) (ps := ["x", "due"]) T.d__law_equal sc__law_equal (fun _ _ _ _ _ _ us hl => match us, hl with | [_, _], _ => rfl) fun f cdv A outer s H E hr =>
      (mss_cons (ms_if (mt_cmp (op_oNe hr.units) (me_call (ok__law_kind T) hr (by omega) (passAt tkD) (by rfl) (ma_cons (me_var 0) ma_nil)) (me_call (ok__law_kind T) hr (by omega) (passAt tkD) (by rfl) (ma_cons (me_var 1) ma_nil)) (nomark _)) (mss_one (ms_ret me_bl)) mss_nil)
      (mss_cons (ms_if (mt_bool (mw_or (mt_tru (me_isi (T := "tuple") (by decide) (by rfl) T.z_isinstance (by rfl) T.z_tuple (by decide +kernel) (me_var 1))) (mw_or1 (mt_tru (me_isi (T := "list") (by decide) (by rfl) T.z_isinstance (by rfl) T.z_list (by decide +kernel) (me_var 1)))))) (mss_cons (ms_if (mt_cmp (op_oNe hr.units) (me_callB cr_oLen (by rfl) T.z_len (by decide +kernel) (ma_cons (me_var 0) ma_nil)) (me_callB cr_oLen (by rfl) T.z_len (by decide +kernel) (ma_cons (me_var 1) ma_nil)) (nomark _)) (mss_one (ms_ret me_bl)) mss_nil)
      (mss_one (ms_ret (me_cmp (op_oEq hr.units) (me_callB cr_oLen (by rfl) T.z_len (by decide +kernel) (ma_cons (me_lc (T := (.n 3)) fin_F rfl sc__law_equal.nd (mi_range1 (by rfl) T.z_range (ma_cons (me_callB cr_oLen (by rfl) T.z_len (by decide +kernel) (ma_cons (me_var 1) ma_nil)) ma_nil)) (by exact blkOk_by (own := [("k", 3)]) (N := N__law_equal) (sc := defScope (topS 14)) (by decide +kernel)) rfl (by decide) (fun _ _ _ _ _ => pg_name (i := 3) sc__law_equal.nd rfl (by first | exact Or.inl rfl | exact Or.inr rfl)) (fun _ _ _ _ _ => (mts_one (mt_not (mt_tru (me_call IH hr (by omega) tkB (by rfl) (ma_cons (me_ix (me_var 0) (me_var 3)) (ma_cons (me_ix (me_var 1) (me_var 3)) ma_nil))))))) (fun _ _ _ _ _ => (me_var 3))) ma_nil)) me_int (nomark _))))) mss_nil)
      (mss_cons (ms_if (mt_tru (me_isi (T := "dict") (by decide) (by rfl) T.z_isinstance (by rfl) T.z_dict (by decide +kernel) (me_var 1))) (mss_cons (ms_if (mt_cmp (op_oNe hr.units) (me_callB cr_oLen (by rfl) T.z_len (by decide +kernel) (ma_cons (me_var 0) ma_nil)) (me_callB cr_oLen (by rfl) T.z_len (by decide +kernel) (ma_cons (me_var 1) ma_nil)) (nomark _)) (mss_one (ms_ret me_bl)) mss_nil)
      (mss_cons (ms_for (passes_of rfl) rfl (mi_seq (me_var 0)) (mg_name (i := 2) sc__law_equal.nd rfl (by first | exact Or.inl rfl | exact Or.inr rfl)) (mss_cons (ms_if (mt_bool (mw_or (mt_cmp (op_oNotIn (hu65 hr)) (me_var 2) (me_var 1) (by rfl)) (mw_or1 (mt_not (mt_tru (me_call IH hr (by omega) (passAt tkD) (by rfl) (ma_cons (me_ix (me_var 0) (me_var 2)) (ma_cons (me_ix (me_var 1) (me_var 2)) ma_nil)))))))) (mss_one (ms_ret me_bl)) mss_nil)
      (mss_one (ms_if (mt_cmp (op_oEq hr.units) (me_callB cr_oLen (by rfl) T.z_len (by decide +kernel) (ma_cons (me_lc (T := (.n 4)) fin_F rfl sc__law_equal.nd (mi_seq (me_var 1)) (by exact blkOk_by (own := [("other", 4)]) (N := N__law_equal) (sc := defScope (topS 14)) (by decide +kernel)) rfl (by decide) (fun _ _ _ _ _ => pg_name (i := 4) sc__law_equal.nd rfl (by first | exact Or.inl rfl | exact Or.inr rfl)) (fun _ _ _ _ _ => (mts_one (mt_bool (mw_and (mt_cmp (op_oEq hr.units) (me_var 4) (me_var 2) (nomark _)) (mw_and1 (mt_tru (me_call IH hr (by omega) tkB (by rfl) (ma_cons (me_var 2) (ma_cons (me_var 4) ma_nil))))))))) (fun _ _ _ _ _ => (me_var 4))) ma_nil)) me_int (nomark _)) (mss_one (ms_ret me_bl)) mss_nil))))
      (mss_one (ms_ret me_bl)))) mss_nil)
      (mss_one (ms_ret (me_cmp (op_oEq hr.units) (me_var 0) (me_var 1) (nomark _)))))))
theorem ok__law_pool (T : Txt w K mg) : FnA P w K mg base "_law_pool" 2 1 F__law_pool :=
  fn_ok (k := 1) (b := B__law_pool) (N := N__law_pool) T.d__law_pool sc__law_pool (fun _ _ _ _ _ _ us hl => match us, hl with | [_], _ => rfl) fun f cdv A outer s H E hr =>
      (mss_cons (ms_set (i := 1) sc__law_pool.nd rfl (by first | exact Or.inl rfl | exact Or.inr rfl) (me_lst ma_nil))
      (mss_cons (ms_for (passes_of rfl) rfl (mi_range1 (by rfl) T.z_range (ma_cons (me_callB (cr_oMin2 rfl) (by rfl) T.z_min (by decide +kernel) (ma_cons me_int (ma_cons (me_callB (cr_oMax2 rfl) (by rfl) T.z_max (by decide +kernel) (ma_cons me_int (ma_cons (me_callB cr_oLen (by rfl) T.z_len (by decide +kernel) (ma_cons (me_var 0) ma_nil)) ma_nil))) ma_nil))) ma_nil)) (mg_name (i := 2) sc__law_pool.nd rfl (by first | exact Or.inl rfl | exact Or.inr rfl)) (mss_one (ms_set (i := 1) sc__law_pool.nd rfl (by first | exact Or.inl rfl | exact Or.inr rfl) (me_bin op_oAdd (me_var 1) (me_call (ok__law_draws T) hr (by decide) (passAt tkD) (by rfl) (ma_cons (me_bin op_oAdd (me_call (ok__law_cell T) hr (by decide) (passAt tkD) (by rfl) (ma_cons (me_var 0) (ma_cons (me_var 2) ma_nil))) (me_bin op_oMul me_int (me_var 2))) (ma_cons me_int ma_nil)))))))
      (mss_one (ms_ret (me_lst (ma_cons (me_var 1) (ma_cons (me_lstM (ma_cons me_int ma_nil)) ma_nil)))))))
theorem ok__law_pick (T : Txt w K mg) : FnA P w K mg base "_law_pick" 1 2 F__law_pick :=
  fn_ok (k := 0) (b := B__law_pick) (N := N__law_pick) T.d__law_pick sc__law_pick (fun _ _ _ _ _ _ us hl => match us, hl with | [_, _], _ => rfl) fun f cdv A outer s H E hr =>
      (mss_cons (ms_set (i := 2) sc__law_pick.nd rfl (by first | exact Or.inl rfl | exact Or.inr rfl) (me_ix (me_ix (me_var 0) me_int) me_int))
      (mss_cons (ms_put (me_bin op_oAdd (me_var 2) me_int) (me_ix (me_var 0) me_int) me_int)
      (mss_cons (ms_set (i := 3) sc__law_pick.nd rfl (by first | exact Or.inl rfl | exact Or.inr rfl) (me_bin op_oDiv (me_var 2) (me_callB cr_oLen (by rfl) T.z_len (by decide +kernel) (ma_cons (me_ix (me_var 0) me_int) ma_nil))))
      (mss_one (ms_ret (me_bin op_oMod (me_callTy cr_oInt (by rfl) T.z_int (by decide +kernel) (ma_cons (me_bin op_oAdd (me_bin op_oAdd (me_ix (me_ix (me_var 0) me_int) (me_bin op_oMod (me_var 2) (me_callB cr_oLen (by rfl) T.z_len (by decide +kernel) (ma_cons (me_ix (me_var 0) me_int) ma_nil)))) (me_bin op_oMul (me_var 3) me_int)) (me_bin op_oMul (me_var 3) (me_var 2))) ma_nil)) (me_var 1)))))))
theorem ok__law_m_gcd (T : Txt w K mg) : FnA P w K mg base "_law_m_gcd" 1 2 F__law_m_gcd :=
  fn_ok (k := 0) (b := B__law_m_gcd) (N := N__law_m_gcd) T.d__law_m_gcd sc__law_m_gcd (fun _ _ _ _ _ _ us hl => match us, hl with | [_, _], _ => rfl) fun f cdv A outer s H E hr =>
      (mss_cons (ms_par2 (i := 0) (j := 1) rfl sc__law_m_gcd.nd rfl rfl (by decide) rfl rfl (ma_cons (me_callB cr_oAbs (by rfl) T.z_abs (by decide +kernel) (ma_cons (me_var 0) ma_nil)) (ma_cons (me_callB cr_oAbs (by rfl) T.z_abs (by decide +kernel) (ma_cons (me_var 1) ma_nil)) ma_nil)) rfl)
      (mss_cons (ms_while (fun e _ => (evI e 1).natAbs + 1) (passes_of rfl) (mt_cmp (op_oNe hr.units) (me_var 1) me_int (nomark _)) (mss_one (ms_par2 (i := 0) (j := 1) rfl sc__law_m_gcd.nd rfl rfl (by decide) rfl rfl (ma_cons (me_var 1) (ma_cons (me_bin op_oMod (me_callTy cr_oInt (by rfl) T.z_int (by decide +kernel) (ma_cons (me_var 0) ma_nil)) (me_var 1)) ma_nil)) rfl)))
      (mss_one (ms_ret (me_var 0)))))
theorem ok__law_m_f (T : Txt w K mg) : FnA P w K mg base "_law_m_f" 2 2 F__law_m_f :=
  fn_ok (k := 1) (b := B__law_m_f) (N := N__law_m_f) T.d__law_m_f sc__law_m_f (fun _ _ _ _ _ _ us hl => match us, hl with | [_, _], _ => rfl) fun f cdv A outer s H E hr =>
      (mss_cons (ms_set (i := 2) sc__law_m_f.nd rfl (by first | exact Or.inl rfl | exact Or.inr rfl) (me_call (ok__law_m_gcd T) hr (by decide) (passAt tkD) (by rfl) (ma_cons (me_var 0) (ma_cons (me_var 1) ma_nil))))
      (mss_cons (ms_if (mt_cmp (op_oLt hr.units0) (me_var 1) me_int (nomark _)) (mss_one (ms_set (i := 2) sc__law_m_f.nd rfl (by first | exact Or.inl rfl | exact Or.inr rfl) (me_neg (me_var 2)))) mss_nil)
      (mss_one (ms_ret (me_tup (ma_cons (me_bin op_oDiv (me_var 0) (me_var 2)) (ma_cons (me_bin op_oDiv (me_var 1) (me_var 2)) ma_nil)))))))
theorem ok__law_m_add (T : Txt w K mg) : FnA P w K mg base "_law_m_add" 3 2 F__law_m_add :=
  fn_ok (k := 2) (b := B__law_m_add) (N := N__law_m_add) T.d__law_m_add sc__law_m_add (fun _ _ _ _ _ _ us hl => match us, hl with | [_, _], _ => rfl) fun f cdv A outer s H E hr =>
      (mss_one (ms_ret (me_call (ok__law_m_f T) hr (by decide) (passAt tkD) (by rfl) (ma_cons (me_bin op_oAdd (me_bin op_oMul (me_ix (me_var 0) me_int) (me_ix (me_var 1) me_int)) (me_bin op_oMul (me_ix (me_var 1) me_int) (me_ix (me_var 0) me_int))) (ma_cons (me_bin op_oMul (me_ix (me_var 0) me_int) (me_ix (me_var 1) me_int)) ma_nil)))))
theorem ok__law_m_mul (T : Txt w K mg) : FnA P w K mg base "_law_m_mul" 3 2 F__law_m_mul :=
  fn_ok (k := 2) (b := B__law_m_mul) (N := N__law_m_mul) T.d__law_m_mul sc__law_m_mul (fun _ _ _ _ _ _ us hl => match us, hl with | [_, _], _ => rfl) fun f cdv A outer s H E hr =>
      (mss_one (ms_ret (me_call (ok__law_m_f T) hr (by decide) (passAt tkD) (by rfl) (ma_cons (me_bin op_oMul (me_ix (me_var 0) me_int) (me_ix (me_var 1) me_int)) (ma_cons (me_bin op_oMul (me_ix (me_var 0) me_int) (me_ix (me_var 1) me_int)) ma_nil)))))
theorem ok__law_m_trim (T : Txt w K mg) : FnA P w K mg base "_law_m_trim" 1 1 F__law_m_trim :=
  fn_ok (k := 0) (b := B__law_m_trim) (N := N__law_m_trim) T.d__law_m_trim sc__law_m_trim (fun _ _ _ _ _ _ us hl => match us, hl with | [_], _ => rfl) fun f cdv A outer s H E hr =>
      (mss_cons (ms_set (i := 1) sc__law_m_trim.nd rfl (by first | exact Or.inl rfl | exact Or.inr rfl) (me_listM cr_listM (by rfl) T.z_list (by decide +kernel) (ma_cons (me_var 0) ma_nil)))
      (mss_cons (ms_while fuel0 (passes_of rfl) (mt_bool (mw_and (mt_cmp (op_oNe hr.units) (me_var 1) (me_lst ma_nil) (nomark _)) (mw_and1 (mt_cmp (op_oEq hr.units) (me_ix (me_var 1) (me_neg me_int)) me_int (nomark _))))) (mss_one (ms_expr (me_pop (me_var 1)))))
      (mss_one (ms_ret (me_callTy cr_oTuple (by rfl) T.z_tuple (by decide +kernel) (ma_cons (me_var 1) ma_nil))))))
theorem ok__law_m_scale (T : Txt w K mg) : FnA P w K mg base "_law_m_scale" 2 2 F__law_m_scale :=
  fn_ok (k := 1) (b := B__law_m_scale) (N := N__law_m_scale) T.d__law_m_scale sc__law_m_scale (fun _ _ _ _ _ _ us hl => match us, hl with | [_, _], _ => rfl) fun f cdv A outer s H E hr =>
      (mss_one (ms_ret (me_call (ok__law_m_trim T) hr (by decide) (passAt tkD) (by rfl) (ma_cons (me_lc (T := (.n 2)) fin_F rfl sc__law_m_scale.nd (mi_seq (me_var 0)) (by exact blkOk_by (own := [("y", 2)]) (N := N__law_m_scale) (sc := defScope (topS 22)) (by decide +kernel)) rfl (by decide) (fun _ _ _ _ _ => pg_name (i := 2) sc__law_m_scale.nd rfl (by first | exact Or.inl rfl | exact Or.inr rfl)) (fun _ _ _ _ _ => mts_nil) (fun _ _ _ _ _ => (me_bin op_oMul (me_var 1) (me_var 2)))) ma_nil))))
theorem ok__law_m_times (T : Txt w K mg) : FnA P w K mg base "_law_m_times" 2 2 F__law_m_times :=
  fn_ok (k := 1) (b := B__law_m_times) (N := N__law_m_times) T.d__law_m_times sc__law_m_times (fun _ _ _ _ _ _ us hl => match us, hl with | [_, _], _ => rfl) fun f cdv A outer s H E hr =>
      (mss_cons (ms_set (i := 2) sc__law_m_times.nd rfl (by first | exact Or.inl rfl | exact Or.inr rfl) (me_binM op_repM (me_lst (ma_cons me_int ma_nil)) (me_bin op_oAdd (me_callB cr_oLen (by rfl) T.z_len (by decide +kernel) (ma_cons (me_var 0) ma_nil)) (me_callB cr_oLen (by rfl) T.z_len (by decide +kernel) (ma_cons (me_var 1) ma_nil)))))
      (mss_cons (ms_for (passes_of rfl) rfl (mi_range1 (by rfl) T.z_range (ma_cons (me_callB cr_oLen (by rfl) T.z_len (by decide +kernel) (ma_cons (me_var 0) ma_nil)) ma_nil)) (mg_name (i := 3) sc__law_m_times.nd rfl (by first | exact Or.inl rfl | exact Or.inr rfl)) (mss_one (ms_for (passes_of rfl) rfl (mi_range1 (by rfl) T.z_range (ma_cons (me_callB cr_oLen (by rfl) T.z_len (by decide +kernel) (ma_cons (me_var 1) ma_nil)) ma_nil)) (mg_name (i := 4) sc__law_m_times.nd rfl (by first | exact Or.inl rfl | exact Or.inr rfl)) (mss_one (ms_put (me_bin op_oAdd (me_ix (me_var 2) (me_bin op_oAdd (me_var 3) (me_var 4))) (me_bin op_oMul (me_ix (me_var 0) (me_var 3)) (me_ix (me_var 1) (me_var 4)))) (me_var 2) (me_bin op_oAdd (me_var 3) (me_var 4)))))))
      (mss_one (ms_ret (me_call (ok__law_m_trim T) hr (by decide) (passAt tkD) (by rfl) (ma_cons (me_frz (me_var 2)) ma_nil))))))
theorem ok__law_m_all (T : Txt w K mg) : FnA P w K mg base "_law_m_all" 3 1 F__law_m_all :=
  fn_ok (k := 2) (b := B__law_m_all) (N := N__law_m_all) T.d__law_m_all sc__law_m_all (fun _ _ _ _ _ _ us hl => match us, hl with | [_], _ => rfl) fun f cdv A outer s H E hr =>
      (mss_cons (ms_set (i := 1) sc__law_m_all.nd rfl (by first | exact Or.inl rfl | exact Or.inr rfl) (me_tup (ma_cons me_int ma_nil)))
      (mss_cons (ms_for (passes_of rfl) rfl (mi_seq (me_var 0)) (mg_name (i := 2) sc__law_m_all.nd rfl (by first | exact Or.inl rfl | exact Or.inr rfl)) (mss_one (ms_set (i := 1) sc__law_m_all.nd rfl (by first | exact Or.inl rfl | exact Or.inr rfl) (me_call (ok__law_m_times T) hr (by decide) (passAt tkD) (by rfl) (ma_cons (me_var 1) (ma_cons (me_var 2) ma_nil))))))
      (mss_one (ms_ret (me_var 1)))))
theorem ok__law_m_val (T : Txt w K mg) : FnA P w K mg base "_law_m_val" 4 2 F__law_m_val :=
  fn_ok (k := 3) (b := B__law_m_val) (N := N__law_m_val) T.d__law_m_val sc__law_m_val (fun _ _ _ _ _ _ us hl => match us, hl with | [_, _], _ => rfl) fun f cdv A outer s H E hr =>
      (mss_cons (ms_set (i := 2) sc__law_m_val.nd rfl (by first | exact Or.inl rfl | exact Or.inr rfl) (me_tup (ma_cons me_int (ma_cons me_int ma_nil))))
      (mss_cons (ms_for (passes_of rfl) rfl (mi_seq (me_rev (me_var 0))) (mg_name (i := 3) sc__law_m_val.nd rfl (by first | exact Or.inl rfl | exact Or.inr rfl)) (mss_one (ms_set (i := 2) sc__law_m_val.nd rfl (by first | exact Or.inl rfl | exact Or.inr rfl) (me_call (ok__law_m_add T) hr (by decide) (passAt tkD) (by rfl) (ma_cons (me_call (ok__law_m_mul T) hr (by decide) (passAt tkD) (by rfl) (ma_cons (me_var 2) (ma_cons (me_var 1) ma_nil))) (ma_cons (me_tup (ma_cons (me_var 3) (ma_cons me_int ma_nil))) ma_nil))))))
      (mss_one (ms_ret (me_var 2)))))
theorem ok__law_m_orders (T : Txt w K mg) : FnA P w K mg base "_law_m_orders" 1 1 F__law_m_orders :=
  fn_ok (k := 0) (b := B__law_m_orders) (N := N__law_m_orders) T.d__law_m_orders sc__law_m_orders (fun _ _ _ _ _ _ us hl => match us, hl with | [_], _ => rfl) fun f cdv A outer s H E hr =>
      (mss_cons (ms_set (i := 1) sc__law_m_orders.nd rfl (by first | exact Or.inl rfl | exact Or.inr rfl) (me_lst (ma_cons (me_tup ma_nil) ma_nil)))
      (mss_cons (ms_for (passes_of rfl) rfl (mi_range1 (by rfl) T.z_range (ma_cons (me_var 0) ma_nil)) (mg_name (i := 2) sc__law_m_orders.nd rfl (by first | exact Or.inl rfl | exact Or.inr rfl)) (mss_cons (ms_set (i := 3) sc__law_m_orders.nd rfl (by first | exact Or.inl rfl | exact Or.inr rfl) (me_lst ma_nil))
      (mss_cons (ms_for (passes_of rfl) rfl (mi_seq (me_var 1)) (mg_name (i := 4) sc__law_m_orders.nd rfl (by first | exact Or.inl rfl | exact Or.inr rfl)) (mss_one (ms_set (i := 3) sc__law_m_orders.nd rfl (by first | exact Or.inl rfl | exact Or.inr rfl) (me_bin op_oAdd (me_var 3) (me_lc (T := (.n 5)) fin_F rfl sc__law_m_orders.nd (mi_range1 (by rfl) T.z_range (ma_cons (me_var 0) ma_nil)) (by exact blkOk_by (own := [("x", 5)]) (N := N__law_m_orders) (sc := defScope (topS 26)) (by decide +kernel)) rfl (by decide) (fun _ _ _ _ _ => pg_name (i := 5) sc__law_m_orders.nd rfl (by first | exact Or.inl rfl | exact Or.inr rfl)) (fun _ _ _ _ _ => (mts_one (mt_cmp (op_oNotIn (hu65 hr)) (me_var 5) (me_var 4) (by rfl)))) (fun _ _ _ _ _ => (me_bin op_oAdd (me_var 4) (me_tup (ma_cons (me_var 5) ma_nil)))))))))
      (mss_one (ms_set (i := 1) sc__law_m_orders.nd rfl (by first | exact Or.inl rfl | exact Or.inr rfl) (me_var 3))))))
      (mss_one (ms_ret (me_var 1)))))
theorem ok__law_m_odd (T : Txt w K mg) : FnA P w K mg base "_law_m_odd" 1 1 F__law_m_odd :=
  fn_ok (k := 0) (b := B__law_m_odd) (N := N__law_m_odd) T.d__law_m_odd sc__law_m_odd (fun _ _ _ _ _ _ us hl => match us, hl with | [_], _ => rfl) fun f cdv A outer s H E hr =>
      (mss_one (ms_ret (me_bin op_oMod (me_callB (cr_oSum rfl) (by rfl) T.z_sum (by decide +kernel) (ma_cons (me_lc (T := (.n 2)) fin_F rfl sc__law_m_odd.nd (mi_range1 (by rfl) T.z_range (ma_cons (me_callB cr_oLen (by rfl) T.z_len (by decide +kernel) (ma_cons (me_var 0) ma_nil)) ma_nil)) (by exact blkOk_by (own := [("j", 2)]) (N := N__law_m_odd) (sc := defScope (topS 27)) (by decide +kernel)) rfl (by decide) (fun _ _ _ _ _ => pg_name (i := 2) sc__law_m_odd.nd rfl (by first | exact Or.inl rfl | exact Or.inr rfl)) (fun _ _ _ _ _ => mts_nil) (fun _ _ _ _ _ => (me_callB cr_oLen (by rfl) T.z_len (by decide +kernel) (ma_cons (me_lc (T := (.n 1)) fin_F rfl sc__law_m_odd.nd (mi_range1 (by rfl) T.z_range (ma_cons (me_var 2) ma_nil)) (blkOk_by (own := [("i", 1)]) (by kernel_rfl)) rfl (by decide) (fun _ _ _ _ _ => pg_name (i := 1) sc__law_m_odd.nd rfl (by first | exact Or.inl rfl | exact Or.inr rfl)) (fun _ _ _ _ _ => (mts_one (mt_cmp op_oGt (me_ix (me_var 0) (me_var 1)) (me_ix (me_var 0) (me_var 2)) (nomark _)))) (fun _ _ _ _ _ => (me_var 1))) ma_nil)))) ma_nil)) me_int)))
theorem ok_law_body (T : Txt w K mg) (f : Addr) (cdv : Value) (A : Around) (outer : List Env) (s : Shared) (H : Hp) (E : XK) (hr : Room 22 (A.deeper (envOfC "law" (defScope (topS 28)) s.heap.objs.size f cdv))) : MSs (bodyCx P w K mg base N_law "law" (topS 28) f cdv A outer s H E) (WE0 E) (defBody (topS 28)) B_law :=
      (mss_cons (ms_set (i := 1) sc_law.nd rfl (by first | exact Or.inl rfl | exact Or.inr rfl) (me_call (ok__law_pool T) hr (by decide) (passAt tkD) (by rfl) (ma_cons (me_var 0) ma_nil)))
      (mss_cons (ms_set (i := 2) sc_law.nd rfl (by first | exact Or.inl rfl | exact Or.inr rfl) (me_call (ok__law_pick T) hr (by decide) (passAt tkD) (by rfl) (ma_cons (me_var 1) (ma_cons me_int ma_nil))))
      (mss_cons (ms_lc (T := (.n 7)) fin_M rfl sc_law.nd (i := 3) rfl rfl (sw_true rfl rfl rfl (by decide +kernel)) (mi_range1 (by rfl) T.z_range (ma_cons (me_var 2) ma_nil)) (by exact blkOk_by (own := [("j", 7)]) (N := N_law) (sc := defScope (topS 28)) (by decide +kernel)) rfl (by decide) (fun _ _ _ _ _ => pg_name (i := 7) sc_law.nd rfl (by first | exact Or.inl rfl | exact Or.inr rfl)) (fun _ _ _ _ _ => mts_nil) (fun _ _ _ _ _ => (me_lc (T := (.n 21)) fin_F rfl sc_law.nd (mi_range1 (by rfl) T.z_range (ma_cons (me_var 2) ma_nil)) (blkOk_by (own := [("k", 21)]) (by kernel_rfl)) rfl (by decide) (fun _ _ _ _ _ => pg_name (i := 21) sc_law.nd rfl (by first | exact Or.inl rfl | exact Or.inr rfl)) (fun _ _ _ _ _ => mts_nil) (fun _ _ _ _ _ => (me_bin op_oSub2 (me_call (ok__law_pick T) hr (by decide) tkB (by rfl) (ma_cons (me_var 1) (ma_cons me_int ma_nil))) me_int)))))
      (mss_cons (ms_if (mt_bool (mw_and (mt_cmp op_oGt (me_var 2) me_int (nomark _)) (mw_and1 (mt_cmp (op_oEq hr.units) (me_call (ok__law_pick T) hr (by decide) (passAt tkD) (by rfl) (ma_cons (me_var 1) (ma_cons me_int ma_nil))) me_int (nomark _))))) (mss_one (ms_put (me_callTy cr_oList (by rfl) T.z_list (by decide +kernel) (ma_cons (me_ix (me_var 3) me_int) ma_nil)) (me_var 3) (me_bin op_oSub2 (me_var 2) me_int))) mss_nil)
      (mss_cons (ms_set (i := 4) sc_law.nd rfl (by first | exact Or.inl rfl | exact Or.inr rfl) me_int)
      (mss_cons (ms_for (passes_of rfl) rfl (mi_seq (me_call (ok__law_m_orders T) hr (by decide) (passAt tkD) (by rfl) (ma_cons (me_var 2) ma_nil))) (mg_name (i := 5) sc_law.nd rfl (by first | exact Or.inl rfl | exact Or.inr rfl)) (mss_cons (ms_set (i := 6) sc_law.nd rfl (by first | exact Or.inl rfl | exact Or.inr rfl) (me_ix (me_lst (ma_cons me_int (ma_cons (me_neg me_int) ma_nil))) (me_call (ok__law_m_odd T) hr (by decide) (passAt tkD) (by rfl) (ma_cons (me_var 5) ma_nil))))
      (mss_cons (ms_for (passes_of rfl) rfl (mi_range1 (by rfl) T.z_range (ma_cons (me_var 2) ma_nil)) (mg_name (i := 7) sc_law.nd rfl (by first | exact Or.inl rfl | exact Or.inr rfl)) (mss_one (ms_set (i := 6) sc_law.nd rfl (by first | exact Or.inl rfl | exact Or.inr rfl) (me_bin op_oMul (me_var 6) (me_ix (me_ix (me_var 3) (me_var 7)) (me_ix (me_var 5) (me_var 7)))))))
      (mss_one (ms_set (i := 4) sc_law.nd rfl (by first | exact Or.inl rfl | exact Or.inr rfl) (me_bin op_oAdd (me_var 4) (me_var 6)))))))
      (mss_cons (ms_if (mt_not (mt_tru (me_call (ok__law_equal T (20)) hr (by decide) (passAt tkD) (by rfl) (ma_cons (me_call (ok_determinant T) hr (by decide) (passAt tkD) (by rfl) (ma_cons (me_frz (me_var 3)) ma_nil)) (ma_cons (me_var 4) ma_nil))))) (mss_one (ms_ret me_bl)) mss_nil)
      (mss_cons (ms_par2 (i := 8) (j := 9) rfl sc_law.nd rfl rfl (by decide) rfl rfl (ma_cons (me_lc (T := (.n 21)) fin_F rfl sc_law.nd (mi_range1 (by rfl) T.z_range (ma_cons (me_call (ok__law_pick T) hr (by decide) (passAt tkD) (by rfl) (ma_cons (me_var 1) (ma_cons me_int ma_nil))) ma_nil)) (by exact blkOk_by (own := [("k", 21)]) (N := N_law) (sc := defScope (topS 28)) (by decide +kernel)) rfl (by decide) (fun _ _ _ _ _ => pg_name (i := 21) sc_law.nd rfl (by first | exact Or.inl rfl | exact Or.inr rfl)) (fun _ _ _ _ _ => mts_nil) (fun _ _ _ _ _ => (me_bin op_oSub2 (me_call (ok__law_pick T) hr (by decide) tkB (by rfl) (ma_cons (me_var 1) (ma_cons me_int ma_nil))) me_int))) (ma_cons (me_lc (T := (.n 21)) fin_F rfl sc_law.nd (mi_range1 (by rfl) T.z_range (ma_cons (me_call (ok__law_pick T) hr (by decide) (passAt tkD) (by rfl) (ma_cons (me_var 1) (ma_cons me_int ma_nil))) ma_nil)) (by exact blkOk_by (own := [("k", 21)]) (N := N_law) (sc := defScope (topS 28)) (by decide +kernel)) rfl (by decide) (fun _ _ _ _ _ => pg_name (i := 21) sc_law.nd rfl (by first | exact Or.inl rfl | exact Or.inr rfl)) (fun _ _ _ _ _ => mts_nil) (fun _ _ _ _ _ => (me_bin op_oSub2 (me_call (ok__law_pick T) hr (by decide) tkB (by rfl) (ma_cons (me_var 1) (ma_cons me_int ma_nil))) me_int))) ma_nil)) rfl)
      (mss_cons (ms_par2 (i := 10) (j := 11) rfl sc_law.nd rfl rfl (by decide) rfl rfl (ma_cons (me_bin op_oAdd me_int (me_call (ok__law_pick T) hr (by decide) (passAt tkD) (by rfl) (ma_cons (me_var 1) (ma_cons me_int ma_nil)))) (ma_cons (me_ix (me_lst (ma_cons (me_neg me_int) (ma_cons (me_neg me_int) (ma_cons me_int (ma_cons me_int ma_nil))))) (me_call (ok__law_pick T) hr (by decide) (passAt tkD) (by rfl) (ma_cons (me_var 1) (ma_cons me_int ma_nil)))) ma_nil)) rfl)
      (mss_cons (ms_set (i := 12) sc_law.nd rfl (by first | exact Or.inl rfl | exact Or.inr rfl) (me_call (ok__law_m_scale T) hr (by decide) (passAt tkD) (by rfl) (ma_cons (me_call (ok__law_m_all T) hr (by decide) (passAt tkD) (by rfl) (ma_cons (me_lc (T := (.n 15)) fin_F rfl sc_law.nd (mi_seq (me_var 8)) (by exact blkOk_by (own := [("x", 15)]) (N := N_law) (sc := defScope (topS 28)) (by decide +kernel)) rfl (by decide) (fun _ _ _ _ _ => pg_name (i := 15) sc_law.nd rfl (by first | exact Or.inl rfl | exact Or.inr rfl)) (fun _ _ _ _ _ => mts_nil) (fun _ _ _ _ _ => (me_tup (ma_cons (me_neg (me_var 15)) (ma_cons me_int ma_nil))))) ma_nil)) (ma_cons (me_var 10) ma_nil))))
      (mss_cons (ms_set (i := 13) sc_law.nd rfl (by first | exact Or.inl rfl | exact Or.inr rfl) (me_call (ok__law_m_scale T) hr (by decide) (passAt tkD) (by rfl) (ma_cons (me_call (ok__law_m_all T) hr (by decide) (passAt tkD) (by rfl) (ma_cons (me_lc (T := (.n 15)) fin_F rfl sc_law.nd (mi_seq (me_var 9)) (by exact blkOk_by (own := [("x", 15)]) (N := N_law) (sc := defScope (topS 28)) (by decide +kernel)) rfl (by decide) (fun _ _ _ _ _ => pg_name (i := 15) sc_law.nd rfl (by first | exact Or.inl rfl | exact Or.inr rfl)) (fun _ _ _ _ _ => mts_nil) (fun _ _ _ _ _ => (me_tup (ma_cons (me_neg (me_var 15)) (ma_cons me_int ma_nil))))) ma_nil)) (ma_cons (me_var 11) ma_nil))))
      (mss_cons (ms_set (i := 14) sc_law.nd rfl (by first | exact Or.inl rfl | exact Or.inr rfl) me_int)
      (mss_cons (ms_for (passes_of rfl) rfl (mi_seq (me_var 8)) (mg_name (i := 15) sc_law.nd rfl (by first | exact Or.inl rfl | exact Or.inr rfl)) (mss_cons (ms_set (i := 14) sc_law.nd rfl (by first | exact Or.inl rfl | exact Or.inr rfl) (me_bin op_oMul (me_var 14) (me_var 11)))
      (mss_one (ms_for (passes_of rfl) rfl (mi_seq (me_var 9)) (mg_name (i := 16) sc_law.nd rfl (by first | exact Or.inl rfl | exact Or.inr rfl)) (mss_one (ms_set (i := 14) sc_law.nd rfl (by first | exact Or.inl rfl | exact Or.inr rfl) (me_bin op_oMul (me_var 14) (me_bin op_oSub2 (me_var 15) (me_var 16)))))))))
      (mss_cons (ms_for (passes_of rfl) rfl (mi_seq (me_var 9)) (mg_name (i := 16) sc_law.nd rfl (by first | exact Or.inl rfl | exact Or.inr rfl)) (mss_one (ms_set (i := 14) sc_law.nd rfl (by first | exact Or.inl rfl | exact Or.inr rfl) (me_bin op_oMul (me_var 14) (me_var 10)))))
      (mss_cons (ms_if (mt_not (mt_tru (me_call (ok__law_equal T (20)) hr (by decide) (passAt tkD) (by rfl) (ma_cons (me_call (ok_resultant T) hr (by decide) (passAt tkD) (by rfl) (ma_cons (me_var 12) (ma_cons (me_var 13) (ma_cons (me_callB cr_oLen (by rfl) T.z_len (by decide +kernel) (ma_cons (me_var 8) ma_nil)) (ma_cons (me_callB cr_oLen (by rfl) T.z_len (by decide +kernel) (ma_cons (me_var 9) ma_nil)) ma_nil))))) (ma_cons (me_var 14) ma_nil))))) (mss_one (ms_ret me_bl)) mss_nil)
      (mss_cons (ms_lc (T := (.n 21)) fin_F rfl sc_law.nd (i := 17) rfl rfl (sw_true rfl rfl rfl (by decide +kernel)) (mi_range1 (by rfl) T.z_range (ma_cons (me_call (ok__law_pick T) hr (by decide) (passAt tkD) (by rfl) (ma_cons (me_var 1) (ma_cons me_int ma_nil))) ma_nil)) (by exact blkOk_by (own := [("k", 21)]) (N := N_law) (sc := defScope (topS 28)) (by decide +kernel)) rfl (by decide) (fun _ _ _ _ _ => pg_name (i := 21) sc_law.nd rfl (by first | exact Or.inl rfl | exact Or.inr rfl)) (fun _ _ _ _ _ => mts_nil) (fun _ _ _ _ _ => (me_bin op_oSub2 (me_call (ok__law_pick T) hr (by decide) tkB (by rfl) (ma_cons (me_var 1) (ma_cons me_int ma_nil))) me_int)))
      (mss_cons (ms_set (i := 18) sc_law.nd rfl (by first | exact Or.inl rfl | exact Or.inr rfl) (me_call (ok__law_m_trim T) hr (by decide) (passAt tkD) (by rfl) (ma_cons (me_var 17) ma_nil)))
      (mss_cons (ms_set (i := 19) sc_law.nd rfl (by first | exact Or.inl rfl | exact Or.inr rfl) (me_bin op_oAdd (me_callB cr_oLen (by rfl) T.z_len (by decide +kernel) (ma_cons (me_var 17) ma_nil)) (me_call (ok__law_pick T) hr (by decide) (passAt tkD) (by rfl) (ma_cons (me_var 1) (ma_cons me_int ma_nil)))))
      (mss_cons (ms_lc (T := (.n 21)) fin_F rfl sc_law.nd (i := 20) rfl rfl (sw_true rfl rfl rfl (by decide +kernel)) (mi_range1 (by rfl) T.z_range (ma_cons (me_var 19) ma_nil)) (by exact blkOk_by (own := [("k", 21)]) (N := N_law) (sc := defScope (topS 28)) (by decide +kernel)) rfl (by decide) (fun _ _ _ _ _ => pg_name (i := 21) sc_law.nd rfl (by first | exact Or.inl rfl | exact Or.inr rfl)) (fun _ _ _ _ _ => mts_nil) (fun _ _ _ _ _ => (me_ix (me_call (ok__law_m_val T) hr (by decide) tkB (by rfl) (ma_cons (me_var 18) (ma_cons (me_tup (ma_cons (me_var 21) (ma_cons me_int ma_nil))) ma_nil))) me_int)))
      (mss_one (ms_ret (me_and (me_call (ok__law_equal T (20)) hr (by decide) (passAt tkD) (by rfl) (ma_cons (me_call (ok_through_values T) hr (by decide) (passAt tkD) (by rfl) (ma_cons (me_var 20) ma_nil)) (ma_cons (me_var 18) ma_nil))) (me_one (me_cmp (op_oEq hr.units) (me_call (ok_through_values T) hr (by decide) (passAt tkD) (by rfl) (ma_cons (me_lst ma_nil) ma_nil)) (me_tup ma_nil) (nomark _)))))))))))))))))))))))))
end
end Z

set_option maxRecDepth 100000
set_option maxHeartbeats 4000000
set_option autoImplicit false
namespace Z
open PySem PySem.Spec PyProof.Rows L2
open PolA (Po Dv len mono Dom)
def Itr (xs : List Int) (m : Mem) (k : Nat) (e : Ev) (m1 : Mem) : Prop := ∃ (ys : List Int) (i : Nat), e = [some (.loc i)] ∧ m1[i]? = some (.lst (ys.map D.int)) ∧ m.length ≤ i ∧ trim ys = trim xs ∧ Keep m m1 ∧ k = ys.length
theorem wF_trimmed {d : D} {xs : List Int} {m : Mem} (h : seqO m d = some (xs.map D.int)) (hl : xs.length ≤ 100000) : wpE (F_trimmed [d] m) fun r m1 => r = .tup ((trim xs).map D.int) ∧ Keep m m1 := by
  refine wp_fn ?_
  simp [B_trimmed, startE, seqO_listL h]
  refine wp_while (Itr xs m) ?_ _ xs.length _ _ ⟨xs, m.length, rfl, by simp, by omega, rfl, Keep.push _ _, rfl⟩ (by unfold fuel0; omega)
  rintro k e m1 ⟨ys, i, rfl, hi, hmi, ht, hk, rfl⟩
  have hlen : oLen [.loc i] m1 = some (.int (ys.length : Nat)) := by simp only [oLen, asL, hi, List.length_map]
  have htup : oTuple [.loc i] m1 = some (.tup (ys.map D.int)) := by simp only [oTuple, asL, hi]
  rcases List.eq_nil_or_concat ys with rfl | ⟨zs, z, rfl⟩
  · simp [hlen, htup]
    exact ⟨by rw [← ht]; rfl, hk⟩
  · rw [List.concat_eq_append] at *
    have hix : oIx (.loc i) (.int (-1)) m1 = some (.int z) := by simp only [oIx, asL, hi]; rw [List.map_append]; exact atI_last _ _
    have hpop : oPop i m1 = some (.ok (.int z) (m1.set i (.lst (zs.map D.int)))) := by rw [List.map_append] at hi; exact oPop_at hi
    have hp : (0 : Int) < (zs.length : Int) + 1 := by omega
    by_cases hz : z = 0
    · simp [hlen, hix, hpop, hz, hp]
      subst hz
      exact ⟨zs.length, by simp, zs, i, rfl, set_at hi, hmi, by rw [← ht, trim_snoc0], hk.set hmi _, rfl⟩
    · simp [hlen, hix, hz, hp, htup]
      exact ⟨by rw [← ht, trim_snoc _ hz]; simp, hk⟩
theorem wF_number_at (f : List Int) (k : Nat) (m : Mem) : wpE (F_number_at [.tup (f.map D.int), .int k] m) fun r m1 => r = .int (co f k) ∧ m1 = m := by
  refine wp_fn ?_
  by_cases h : k < f.length
  · simp [B_number_at, startE, h, atI_of_nat, co_lt h]
  · simp [B_number_at, startE, h, co_ge (Nat.le_of_not_lt h)]
theorem wF_add (f g : List Int) (m : Mem) (hf : f.length ≤ 100000) (hg : g.length ≤ 100000) : wpE (F_add [.tup (f.map D.int), .tup (g.map D.int)] m) fun r m1 => r = .tup ((padd f g).map D.int) ∧ Keep m m1 := by
  refine wp_fn ?_
  obtain ⟨n, hn, hn2⟩ : ∃ n : Nat, (if f.length < g.length then (g.length : Int) else f.length) = n ∧ n = max f.length g.length := by
    refine ⟨_, ?_, rfl⟩
    split <;> omega
  have h1 : (n : Int) ≤ 1000000000 := by omega
  have h2 : -1000000000 ≤ (n : Int) := by omega
  have h3 : (intR 0 1 n).length ≤ SL := slLe (by simp [intR_rng, rng_len]; omega)
  simp [B_add, startE, hn, pLc, pLcG_app, h1, h2, h3]
  rw [intR_rng]
  refine (wp_lcI (fun _ => true) (fun x => co f x.toNat + co g x.toNat) _ ?_).mono ?_
  · intro x hx
    obtain ⟨k, rfl⟩ := Int.eq_ofNat_of_zero_le (mem_rng.1 hx).1
    simp
    refine (wF_number_at f k m).mono ?_
    rintro _ m1 ⟨rfl, rfl⟩
    refine (wF_number_at g k m1).mono ?_
    rintro _ m2 ⟨rfl, rfl⟩
    simp
  · rintro ys m1 ⟨rfl, rfl⟩
    rw [List.filter_eq_self.2 (fun _ _ => rfl)]
    refine (wF_trimmed (xs := (rng 0 n).map fun x => co f x.toNat + co g x.toNat) rfl (by simp [rng_len]; omega)).mono ?_
    rintro _ m2 ⟨rfl, hk⟩
    refine ⟨?_, hk⟩
    unfold padd
    rw [← hn2]
    congr 3
    unfold rng
    rw [List.map_map]
    exact List.map_congr_left fun k _ => by simp
theorem wF_scaled (f : List Int) (x : Int) (m : Mem) (d : D) (hd : d = .tup (f.map D.int) ∨ d = .lst (f.map D.int)) (hf : f.length ≤ 100000) (hx : x.natAbs < 2 ^ 60) : wpE (F_scaled [d, .int x] m) fun r m1 => r = .tup ((psc x f).map D.int) ∧ Keep m m1 := by
  have h3 : f.length ≤ SL := slLe (by omega)
  have hm : ∀ y, mulFits x y = true := fun y => mulF_l (by omega)
  have key : ∀ e : Ev, e[1]? = some (some (.int x)) → 2 < e.length → wpE (lcF (.n 2) tYesF (pBin oMul (pVar 1) (pVar 2)) e (f.map D.int) m) fun ys m1 => ys = (f.map fun y => x * y).map D.int ∧ m1 = m := by
    intro e h1 h2
    refine (wp_lcI (fun _ => true) (fun y => x * y) f ?_).mono ?_
    · intro y hy
      simp [List.getElem?_set_ne (show (2 : Nat) ≠ 1 by decide), h1, List.getElem?_set_self h2, hm]
    · rintro ys m1 ⟨rfl, rfl⟩
      rw [List.filter_eq_self.2 (fun _ _ => rfl)]
      exact ⟨rfl, rfl⟩
  refine wp_fn ?_
  have fin : ∀ (ys : List D) (m1 : Mem), (ys = (f.map fun y => x * y).map D.int ∧ m1 = m) → wpE (F_trimmed [.lst ys] m1) fun r m2 => r = .tup ((psc x f).map D.int) ∧ Keep m m2 := by
    rintro ys m1 ⟨rfl, rfl⟩
    exact wF_trimmed (xs := f.map fun y => x * y) rfl (by simpa using hf)
  rcases hd with rfl | rfl
  · simp [B_scaled, startE, pLc, pLcG_app, h3]
    exact (key _ rfl (by simp)).mono fin
  · simp [B_scaled, startE, pLc, pLcG_app, h3]
    exact (key _ rfl (by simp)).mono fin
def ImJ (f g : List Int) (n : Nat) (m : Mem) (i : Nat) (k : Nat) (e : Ev) (m1 : Mem) : Prop := ∃ z z' : Option D, e = [some (.tup (f.map D.int)), some (.tup (g.map D.int)), some (.loc i), z, z'] ∧ m1[i]? = some (.lst ((rowsJ f g (List.replicate n 0) k).map D.int)) ∧ m.length ≤ i ∧ Keep m m1
def ImK (f g acc : List Int) (m : Mem) (i j : Nat) (k : Nat) (e : Ev) (m1 : Mem) : Prop := ∃ z' : Option D, e = [some (.tup (f.map D.int)), some (.tup (g.map D.int)), some (.loc i), some (.int j), z'] ∧ m1[i]? = some (.lst ((rowsK f g j k acc).map D.int)) ∧ m.length ≤ i ∧ Keep m m1
theorem wF_multiply (f g : List Int) (m : Mem) {a b : Nat} (hf : f.length ≤ 10000) (hg : g.length ≤ 10000) (bf : Bd a f) (bg : Bd b g) (ha : a ≤ 200000) (hb : b ≤ 200000) : wpE (F_multiply [.tup (f.map D.int), .tup (g.map D.int)] m) fun r m1 => r = .tup ((pmul f g).map D.int) ∧ Keep m m1 := by
  refine wp_fn ?_
  by_cases h0 : f.length = 0 ∨ g.length = 0
  · have hp : pmul f g = [] := by
      rw [← pmul_trim]
      refine (trim_ext (r := []) fun t => ?_).trans trim_nil
      rw [co_pmul, co_nil]
      refine sm_eq0 fun j hj => ?_
      split
      · rw [co_ge (l := g) (by omega), Int.mul_zero]
      · rfl
    rw [hp]
    rcases h0 with h | h
    · simp [B_multiply, startE, List.length_eq_zero_iff.1 h]
      exact Keep.refl m
    · by_cases h2 : f.length = 0
      · simp [B_multiply, startE, List.length_eq_zero_iff.1 h2]
        exact Keep.refl m
      · have h2' : f ≠ [] := fun e => h2 (by rw [e]; rfl)
        simp [B_multiply, startE, List.length_eq_zero_iff.1 h, h2', h2]
        exact Keep.refl m
  · obtain ⟨h1, h2⟩ := not_or.1 h0
    have f0 : f ≠ [] := fun e => h1 (by rw [e]; rfl)
    have g0 : g ≠ [] := fun e => h2 (by rw [e]; rfl)
    obtain ⟨n, hn⟩ : ∃ n : Nat, (f.length : Int) + g.length - 1 = n := ⟨f.length + g.length - 1, by omega⟩
    have hn63 : -(2 ^ 63) ≤ (n : Int) ∧ (n : Int) < 2 ^ 63 ∧ ([D.int 0] : List D).length * (n : Int).toNat ≤ SL := ⟨by omega, by omega, slLe (by simp; omega)⟩
    have hrep : oRepL (.lst [.int 0]) (.int n) m = some ((List.replicate n (0 : Int)).map D.int) := by
      unfold oRepL
      simp only [asH]
      rw [if_pos hn63, Int.toNat_natCast, rep_flat1, List.map_replicate]
    have b1 : (f.length : Int) ≤ 1000000000 := by omega
    have b2 : -1000000000 ≤ (f.length : Int) := by omega
    have b3 : (g.length : Int) ≤ 1000000000 := by omega
    have b4 : -1000000000 ≤ (g.length : Int) := by omega
    simp [B_multiply, startE, f0, g0, hn, hrep, b1, b2]
    refine wp_rng (ImJ f g n m m.length) f.length ?_ ?_ _ _ ⟨none, none, rfl, by simp [rowsJ], Nat.le_refl _, Keep.push _ _⟩
    · rintro j hj e m1 ⟨z, z', rfl, hi, hmi, hk⟩
      simp [b3, b4]
      refine wpS.toL (wp_rng (ImK f g (rowsJ f g (List.replicate n 0) j) m m.length j) g.length ?_ ?_ _ _ ⟨z', rfl, hi, hmi, hk⟩)
      · rintro k hk e m2 ⟨w, rfl, hi2, hmi2, hk2⟩
        have hlt : j + k < (rowsK f g j k (rowsJ f g (List.replicate n 0) j)).length := by rw [rowsK_len, rowsJ_len, List.length_replicate]; omega
        have hg : getAt (.loc m.length) (.int ((j : Int) + k)) m2 = some (.int (co (rowsK f g j k (rowsJ f g (List.replicate n 0) j)) (j + k))) := by
          show (match asH m2 (.loc m.length) with | some l => atI l ((j : Int) + k) | none => none) = _
          simp only [asH, hi2]
          rw [show (j : Int) + k = ((j + k : Nat) : Int) by omega, atI_of_nat, List.getElem?_map, List.getElem?_eq_getElem hlt, co_lt hlt]; rfl
        have hp : ∀ x : Int, putAt (.loc m.length) (.int ((j : Int) + k)) (.int x) m2 = some (m2.set m.length (.lst (((rowsK f g j k (rowsJ f g (List.replicate n 0) j)).set (j + k) x).map D.int))) := by
          intro x
          unfold putAt
          simp only [hi2]
          rw [show (j : Int) + k = ((j + k : Nat) : Int) by omega, ixN_nat (by simpa using hlt)]
          simp only [List.map_set]
        have fj : atI (f.map D.int) (j : Int) = some (.int (co f j)) := by rw [atI_of_nat, List.getElem?_map, List.getElem?_eq_getElem hj, co_lt hj]; rfl
        have gk : atI (g.map D.int) (k : Int) = some (.int (co g k)) := by rw [atI_of_nat, List.getElem?_map, List.getElem?_eq_getElem hk, co_lt hk]; rfl
        have mu := bf.fits bg ha hb j k
        simp [hg, fj, gk, mu, hp]
        exact ⟨_, rfl, by rw [set_at hi2]; simp [rowsK, addAt, List.map_set], hmi2, hk2.set hmi2 _⟩
      · rintro e m2 ⟨w, rfl, hi2, hmi2, hk2⟩
        exact ⟨_, _, rfl, hi2, hmi2, hk2⟩
    · rintro e m1 ⟨z, z', rfl, hi, hmi, hk⟩
      simp [frzD, hi]
      refine (wF_trimmed (xs := rowsJ f g (List.replicate n 0) f.length) rfl (by rw [rowsJ_len, List.length_replicate]; omega)).mono ?_
      rintro _ m2 ⟨rfl, hk2⟩
      rw [rows_pmul f g n (by omega)]
      exact ⟨rfl, (hk.set hmi _).trans hk2⟩
theorem wF_cell (ns : List Int) (k : Int) (m : Mem) (hk : 0 ≤ k) : wpE (F__law_cell [.ro (ns.map D.int), .int k] m) fun d m1 => (∃ c, d = .int c) ∧ m1 = m := by
  obtain ⟨k, rfl⟩ := Int.eq_ofNat_of_zero_le hk
  refine wp_fn ?_
  simp [B__law_cell, startE]
  by_cases h : k < ns.length
  · simp [h, atI_of_nat]
  · simp [h]
def IdrA (c : Int) (n : Nat) (e : Ev) (m1 : Mem) : Prop := ∃ (l : List Int) (left : Int) (i : Nat) (z z' : Option D), e = [some (.int c), some (.int 20), some (.loc i), some (.int left), z, z'] ∧ m1[i]? = some (.lst (l.map D.int)) ∧ l.length + n = 20 ∧ Sm l
def Idr (c : Int) (ds : List D) (e : Ev) (m1 : Mem) : Prop := IdrA c ds.length e m1 ∧ ∀ d ∈ ds, ∃ k : Int, d = .int k ∧ 0 ≤ k ∧ k < 20
theorem idr_go {c : Int} {ds : List D} {l : List Int} {m1 : Mem} {i : Nat} {k x left : Int} {zz : Option D} (hm : m1[i]? = some (.lst (l.map D.int))) (hl : l.length + (ds.length + 1) = 20) (hr : Sm l) (hd : ∀ d ∈ ds, ∃ k : Int, d = .int k ∧ 0 ≤ k ∧ k < 20) (h0 : 0 ≤ x ∧ x < 4096) :
    Idr c ds [some (.int c), some (.int 20), some (.loc i), some (.int left), some (.int k), zz] (m1.set i (.lst (l.map D.int ++ [.int x]))) := by
  refine ⟨⟨l ++ [x], left, i, _, _, rfl, ?_, by simp; omega, ?_⟩, hd⟩
  · rw [set_at hm]; simp
  · intro r h
    rcases List.mem_append.1 h with h | h
    · exact hr r h
    · simp at h; omega
theorem wF_draws (c : Int) (m : Mem) : wpE (F__law_draws [.int c, .int 20] m) fun d m1 => ∃ l : List Int, d = .lst (l.map D.int) ∧ l.length = 20 ∧ Sm l := by
  refine wp_fn ?_
  simp [B__law_draws, startE]
  refine wp_loop (Idr c) ?_ ?_ _ _ _ ⟨⟨[], c, m.length, none, none, rfl, by simp, by simp [intR_rng, rng_len], by simp [Sm]⟩, ?_⟩
  · rintro d ds e m1 ⟨⟨l, left, i, z, z', rfl, hm, hl, hr⟩, hd⟩
    obtain ⟨k, rfl, hk0, hk⟩ := hd _ (List.mem_cons_self ..)
    refine ⟨_, _, rfl, ?_⟩
    have hlen : (l.map D.int).length < SL := slLt (by simp at hl ⊢; omega)
    have hd' := fun d h => hd d (List.mem_cons_of_mem _ h)
    have h13 : mulFits 13 k = true := mulF_l (by decide)
    simp [oPow_int, mulF_r, divFits, oApp_at hm hlen, mulF_m, h13, show Nat.log2 4096 < 9000 by decide, show Nat.log2 7 < 9000 by decide]
    split
    · split
      · exact idr_go hm hl hr hd' (fmodN _ (by decide))
      · exact idr_go hm hl hr hd' (fmodN _ (by decide))
    · exact idr_go hm hl hr hd' (fmodN _ (by decide))
  · rintro e m1 ⟨⟨l, left, i, z, z', rfl, hm, hl, hr⟩, hd⟩
    simp at hl
    simp [frzD, hm]
    exact ⟨l, rfl, hl, hr⟩
  · intro d hd
    rw [intR_rng] at hd
    obtain ⟨k, hk, rfl⟩ := List.mem_map.1 hd
    exact ⟨k, rfl, by have := mem_rng.1 hk; omega⟩
theorem wF_kind (d : D) (m : Mem) : wpE (F__law_kind [d] m) fun r m1 => r = .int (kindN d) ∧ m1 = m := by
  refine wp_fn ?_
  cases d <;> simp [B__law_kind, startE, kindN]
theorem wF_equal {m : Mem} : ∀ (n : Nat) (x y : D), Sim m n x y → wpE (F__law_equal n [x, y] m) fun r m1 => r = .bl true ∧ m1 = m
  | 0, _, _, h => h.elim
  | n + 1, x, y, h => by
    refine wp_fn ?_
    have ki : kindN x = kindN y := by
      rcases h with ⟨h, _⟩ | ⟨l, r, _, _, h, _⟩
      · rw [h]
      · exact h
    simp [B__law_equal, startE, isi_tup, isi_lst, isi_dct]
    refine (wF_kind x m).mono ?_
    rintro _ m1 ⟨rfl, rfl⟩
    refine (wF_kind y m1).mono ?_
    rintro _ m2 ⟨rfl, rfl⟩
    simp [ki]
    rcases h with ⟨rfl, h⟩ | ⟨l, r, hx, hy, _, hl, hl6, hs⟩
    · cases x <;> first | (simp [kindN]; done) | cases h
    · have hk := seqO_k hy
      have hle : (r.length : Int) ≤ 1000000000 := by omega
      have hge : -1000000000 ≤ (r.length : Int) := by omega
      have hle2 : (intR 0 1 r.length).length ≤ SL := slLe (by simp [intR_rng, rng_len]; omega)
      have body : wpE (lcF (Tgt.n 3) (pNotT (pTru (pApp (F__law_equal n) 2 (pCons (pBin oIx (pVar 0) (pVar 3)) (pCons (pBin oIx (pVar 1) (pVar 3)) pNil))))) (pVar 3) [some x, some y, none, none, none] (intR 0 1 r.length) m2) (fun d m1 => d = [] ∧ m1 = m2) := by
        rw [intR_rng]
        refine (wp_lcI (fun _ => false) (fun x => x) _ ?_).mono ?_
        · intro i hi
          have hi := mem_rng.1 hi
          obtain ⟨j, rfl⟩ := Int.eq_ofNat_of_zero_le hi.1
          have hj : j < r.length := by omega
          have hj2 : j < l.length := by omega
          simp [seqO_ix hx, seqO_ix hy, atI_of_nat, List.getElem?_eq_getElem hj, List.getElem?_eq_getElem hj2]
          refine (wF_equal n _ _ (hs j _ _ (List.getElem?_eq_getElem hj2) (List.getElem?_eq_getElem hj))).mono ?_
          rintro _ m1 ⟨rfl, rfl⟩
          simp
        · rintro ys m1 ⟨rfl, rfl⟩
          simp
      rcases hk with hk | hk <;> (simp [hk, seqO_len hx, seqO_len hy, hl, pLcG_app, pLc, hle, hge, hle2]; exact body)
def Ipo (s : D) (ds : List D) (e : Ev) (m1 : Mem) : Prop := ∃ (l : List Int) (z : Option D), e = [some s, some (.lst (l.map D.int)), z] ∧ l.length + 20 * ds.length ≤ 80 ∧ Sm l ∧ (l ≠ [] ∨ ds ≠ []) ∧ ∀ d ∈ ds, ∃ k : Int, d = .int k ∧ 0 ≤ k
theorem wF_pool (ns : List Int) (m : Mem) : wpE (F__law_pool [.ro (ns.map D.int)] m) fun d m1 => Pool d 0 m1 := by
  refine wp_fn ?_
  obtain ⟨n, hn, h1, h4⟩ : ∃ n : Nat, (if (if 1 < (ns.length : Int) then (ns.length : Int) else 1) < 4 then if 1 < (ns.length : Int) then (ns.length : Int) else 1 else 4) = n ∧ 1 ≤ n ∧ n ≤ 4 := by
    by_cases a : (1 : Int) < ns.length
    · rw [if_pos a]
      by_cases b : (ns.length : Int) < 4
      · rw [if_pos b]; exact ⟨ns.length, rfl, by omega, by omega⟩
      · rw [if_neg b]; exact ⟨4, rfl, by omega, by omega⟩
    · rw [if_neg a]
      exact ⟨1, rfl, by omega, by omega⟩
  have h62 : (n : Int) ≤ 1000000000 := by omega
  have h63 : -1000000000 ≤ (n : Int) := by omega
  simp [B__law_pool, startE, hn, h62, h63]
  refine wp_loop (Ipo (.ro (ns.map D.int))) ?_ ?_ _ _ _ ⟨[], none, rfl, ?_, by simp [Sm], ?_, ?_⟩
  · rintro d ds e m1 ⟨l, z, rfl, hl, hr, hn, hd⟩
    obtain ⟨k, rfl, hk0⟩ := hd _ (List.mem_cons_self ..)
    refine ⟨_, _, rfl, ?_⟩
    simp
    refine (wF_cell ns k m1 hk0).mono ?_
    rintro _ m2 ⟨⟨c, rfl⟩, rfl⟩
    simp [mulF_l]
    refine (wF_draws _ m2).mono ?_
    rintro _ m3 ⟨l', rfl, h20, hs⟩
    simp at hl
    simp
    refine ⟨slLe (by omega), l ++ l', _, by simp; rfl, by simp; omega, ?_, .inl (by intro h; simp at h; simp [h] at h20), fun d h => hd d (List.mem_cons_of_mem _ h)⟩
    intro r h
    rcases List.mem_append.1 h with h | h
    · exact hr r h
    · exact hs r h
  · rintro e m1 ⟨l, z, rfl, hl, hr, hn, hd⟩
    simp
    exact ⟨l, m1.length, rfl, by simp, by simpa using hn, by simpa using hl, hr⟩
  · simp [intR_rng, rng_len]
    omega
  · refine .inr fun h => ?_
    have := congrArg List.length h
    simp [intR_rng, rng_len] at this
    omega
  · intro d hd
    rw [intR_rng] at hd
    obtain ⟨k, hk, rfl⟩ := List.mem_map.1 hd
    exact ⟨k, rfl, by have := mem_rng.1 hk; omega⟩
theorem wF_pick {p : D} {k : Nat} {m : Mem} (n : Int) (hp : Pool p k m) (hk : k < 1000000) (hn : 0 < n) : wpE (F__law_pick [p, .int n] m) fun d m1 => (∃ x : Int, d = .int x ∧ 0 ≤ x ∧ x < n) ∧ Pool p (k + 1) m1 := by
  obtain ⟨l, i, rfl, hm, hl, hl8, hr⟩ := hp
  refine wp_fn ?_
  have hll : (0 : Int) < l.length := by
    have := List.length_pos_iff.2 hl
    omega
  have hdk := Int.fdiv_nonneg (a := (k : Int)) (b := l.length) (by omega) (by omega)
  have hdf : divFits l.length = true := divF (n := 20) (by decide) (by omega) (by omega)
  have hmk := fmodN (k : Int) hll
  obtain ⟨x, hx, e⟩ := atI_mem (l := l) hmk.1 hmk.2
  have hn0 : n ≠ 0 := by omega
  have h2 := set_at (c' := .lst [.int (k + 1)]) hm
  have hmf : mulFits ((k : Int).fdiv l.length) 1009 = true := mulF_r (by decide)
  have hle : (k : Int).fdiv l.length ≤ k := by
    rw [Int.fdiv_eq_ediv_of_nonneg _ (by omega)]
    exact Int.ediv_le_self _ (by omega)
  have hmg : mulFits ((k : Int).fdiv l.length) k = true := mulF_l (by omega)
  have e0 : l.length ≠ 0 := by omega
  simp [B__law_pick, startE, oIx, asL, hm, putAt, atI_0, atI_1, hdf, show ixN 1 0 = some 0 by decide, e, hn0, hmf, hmg, e0]
  exact ⟨fmodN _ hn, l, i, rfl, h2, hl, hl8, hr⟩
theorem wp_picks {p : D} {v j : Nat} {q : Int} (hq : 0 < q) (hv : v ≠ j) : ∀ (ds : List D) (e : Ev) (m : Mem) (k : Nat), e[j]? = some (some p) → Pool p k m → k + ds.length < 100000 → wpE (lcF (.n v) tYesF (pApp F__law_pick 2 (pCons (pVar j) (pCons (pC (.int q)) pNil))) e ds m) fun ys m1 => ∃ xs : List Int, ys = xs.map D.int ∧ xs.length = ds.length ∧ (∀ x ∈ xs, 0 ≤ x ∧ x < q) ∧ Pool p (k + ds.length) m1 := by
  intro ds
  induction ds with
  | nil => intro e m k _ h _; rw [lcF_nil, wpE_ok]; exact ⟨[], rfl, rfl, by simp, h⟩
  | cons d ds ih =>
    intro e m k h0 h hk
    rw [List.length_cons] at hk
    rw [lcF_cons]
    have g0 : (e.set v (some d))[j]? = some (some p) := by rw [List.getElem?_set_ne hv]; exact h0
    obtain ⟨_, m2, e2, ⟨x, rfl, x0, x1⟩, h2⟩ := (wF_pick q h (by omega) hq).out
    simp [g0, e2]
    obtain ⟨_, m3, e3, xs, rfl, hxl, hxs, h3⟩ := (ih e m2 (k + 1) h0 h2 (by omega)).out
    simp [e3]
    refine ⟨x :: xs, by simp, by simp [hxl], ?_, by rw [show k + (ds.length + 1) = k + 1 + ds.length by omega]; exact h3⟩
    intro y hy
    rcases List.mem_cons.1 hy with rfl | hy
    · exact ⟨x0, x1⟩
    · exact hxs y hy
theorem wp_picksC {p : D} {v j : Nat} {q c : Int} (hq : 0 < q) (hv : v ≠ j) : ∀ (ds : List D) (e : Ev) (m : Mem) (k : Nat), e[j]? = some (some p) → Pool p k m → k + ds.length < 100000 → wpE (lcF (.n v) tYesF (pBin oSub2 (pApp F__law_pick 2 (pCons (pVar j) (pCons (pC (.int q)) pNil))) (pC (.int c))) e ds m) fun ys m1 => ∃ xs : List Int, ys = xs.map D.int ∧ xs.length = ds.length ∧ (∀ x ∈ xs, -c ≤ x ∧ x < q - c) ∧ Pool p (k + ds.length) m1 := by
  intro ds
  induction ds with
  | nil => intro e m k _ h _; rw [lcF_nil, wpE_ok]; exact ⟨[], rfl, rfl, by simp, h⟩
  | cons d ds ih =>
    intro e m k h0 h hk
    rw [List.length_cons] at hk
    rw [lcF_cons]
    have g0 : (e.set v (some d))[j]? = some (some p) := by rw [List.getElem?_set_ne hv]; exact h0
    obtain ⟨_, m2, e2, ⟨x, rfl, x0, x1⟩, h2⟩ := (wF_pick q h (by omega) hq).out
    simp [g0, e2]
    obtain ⟨_, m3, e3, xs, rfl, hxl, hxs, h3⟩ := (ih e m2 (k + 1) h0 h2 (by omega)).out
    simp [e3]
    refine ⟨(x - c) :: xs, by simp, by simp [hxl], ?_, by rw [show k + (ds.length + 1) = k + 1 + ds.length by omega]; exact h3⟩
    intro y hy
    rcases List.mem_cons.1 hy with rfl | hy
    · omega
    · exact hxs y hy
theorem wF_m_gcd (a b : Int) (m : Mem) : wpE (F__law_m_gcd [.int a, .int b] m) fun d m1 => d = .int (Int.gcd a b) ∧ m1 = m := by
  refine wp_fn ?_
  simp [B__law_m_gcd, startE, absI]
  refine wp_while (fun k e m1 => ∃ x y : Int, e = [some (.int x), some (.int y)] ∧ m1 = m ∧ k = y.natAbs ∧ 0 ≤ x ∧ 0 ≤ y ∧ Int.gcd x y = Int.gcd a b) ?_ _ b.natAbs _ _ ⟨_, _, rfl, rfl, by omega, by omega, by omega, by simp [Int.gcd]⟩ (by simp [evI])
  rintro k e m1 ⟨x, y, rfl, rfl, rfl, hx, hy, hg⟩
  simp
  by_cases h : 0 < y
  · have := fmodLt (a := x) (b := y) (by omega)
    have := Int.fmod_nonneg_of_pos x h
    have h0 : y ≠ 0 := by omega
    simp [h, h0]
    exact ⟨_, by omega, y, x.fmod y, ⟨rfl, rfl⟩, rfl, by omega, by omega, by rw [gcd_fmod, hg]⟩
  · obtain rfl : y = 0 := by omega
    rw [← hg]
    simp [Int.gcd]
    omega
theorem wF_m_f (p q : Int) (m : Mem) {a : Nat} (hq : q ≠ 0) (hb : q.natAbs < 2 ^ a) (ha : a ≤ 8000) : wpE (F__law_m_f [.int p, .int q] m) fun d m1 => d = rD ((p : Rat) / (q : Rat)) ∧ m1 = m := by
  refine wp_fn ?_
  have hs := divF ha (frS_ne (p := p) hq) (frS_bits hq hb)
  have hr := rD_frac (p := p) hq
  by_cases h : q < 0
  · have e : frS p q = -(Int.gcd p q : Int) := if_neg (by omega)
    rw [e] at hs hr
    simp [B__law_m_f, startE]
    refine (wF_m_gcd p q m).mono ?_
    rintro _ m1 ⟨rfl, rfl⟩
    simp [h, hs, hr]
  · have e : frS p q = Int.gcd p q := if_pos (by omega)
    rw [e] at hs hr
    simp [B__law_m_f, startE]
    refine (wF_m_gcd p q m).mono ?_
    rintro _ m1 ⟨rfl, rfl⟩
    simp [h, hs, hr]
theorem wF_m_add (a b : Rat) (m : Mem) {n k : Nat} (ha : RB n a) (hb : RB k b) (hn : n + k ≤ 7000) : wpE (F__law_m_add [rD a, rD b] m) fun d m1 => d = rD (a + b) ∧ m1 = m := by
  refine wp_fn ?_
  have f1 : mulFits a.num b.den = true := mulF_b (n := max n k) (by omega) (ha.up (Nat.le_max_left ..)).1 (by simpa using (hb.up (Nat.le_max_right ..)).2)
  have f2 : mulFits b.num a.den = true := mulF_b (n := max n k) (by omega) (hb.up (Nat.le_max_right ..)).1 (by simpa using (ha.up (Nat.le_max_left ..)).2)
  have f3 : mulFits a.den b.den = true := mulF_b (n := max n k) (by omega) (by simpa using (ha.up (Nat.le_max_left ..)).2) (by simpa using (hb.up (Nat.le_max_right ..)).2)
  simp [B__law_m_add, startE, rD, atI_0, atI_1, f1, f2, f3]
  have h3 := mul_bits (x := a.den) (y := b.den) (by simpa using ha.2) (by simpa using hb.2)
  have h := wF_m_f (a.num * b.den + b.num * a.den) (a.den * b.den) m (dd_ne a b) h3 (by omega)
  rw [rat_add] at h
  exact h
theorem wF_m_mul (a b : Rat) (m : Mem) {n k : Nat} (ha : RB n a) (hb : RB k b) (hn : n + k ≤ 7000) : wpE (F__law_m_mul [rD a, rD b] m) fun d m1 => d = rD (a * b) ∧ m1 = m := by
  refine wp_fn ?_
  have f1 : mulFits a.num b.num = true := mulF_b (n := max n k) (by omega) (ha.up (Nat.le_max_left ..)).1 (hb.up (Nat.le_max_right ..)).1
  have f3 : mulFits a.den b.den = true := mulF_b (n := max n k) (by omega) (by simpa using (ha.up (Nat.le_max_left ..)).2) (by simpa using (hb.up (Nat.le_max_right ..)).2)
  simp [B__law_m_mul, startE, rD, atI_0, atI_1, f1, f3]
  have h3 := mul_bits (x := a.den) (y := b.den) (by simpa using ha.2) (by simpa using hb.2)
  have h := wF_m_f (a.num * b.num) (a.den * b.den) m (dd_ne a b) h3 (by omega)
  rw [rat_mul] at h
  exact h
def Imt (d : D) (xs : List Int) (m : Mem) (k : Nat) (e : Ev) (m1 : Mem) : Prop := ∃ (ys : List Int) (i : Nat), e = [some d, some (.loc i)] ∧ m1[i]? = some (.lst (ys.map D.int)) ∧ m.length ≤ i ∧ trim ys = trim xs ∧ Keep m m1 ∧ k = ys.length
theorem wF_m_trim {d : D} {xs : List Int} {m : Mem} (h : seqO m d = some (xs.map D.int)) (hl : xs.length ≤ 100000) : wpE (F__law_m_trim [d] m) fun r m1 => r = .tup ((trim xs).map D.int) ∧ Keep m m1 := by
  refine wp_fn ?_
  simp [B__law_m_trim, startE, seqO_listL h]
  refine wp_while (Imt d xs m) ?_ _ xs.length _ _ ⟨xs, m.length, rfl, by simp, by omega, rfl, Keep.push _ _, rfl⟩ (by unfold fuel0; omega)
  rintro k e m1 ⟨ys, i, rfl, hi, hmi, ht, hk, rfl⟩
  have htup : oTuple [.loc i] m1 = some (.tup (ys.map D.int)) := by simp only [oTuple, asL, hi]
  have hne := oNe_loc0 hi
  rcases List.eq_nil_or_concat ys with rfl | ⟨zs, z, rfl⟩
  · simp [hne, htup]
    exact ⟨by rw [← ht]; rfl, hk⟩
  · rw [List.concat_eq_append] at *
    have hix : oIx (.loc i) (.int (-1)) m1 = some (.int z) := by simp only [oIx, asL, hi]; rw [List.map_append]; exact atI_last _ _
    have hpop : oPop i m1 = some (.ok (.int z) (m1.set i (.lst (zs.map D.int)))) := by rw [List.map_append] at hi; exact oPop_at hi
    by_cases hz : z = 0
    · simp [hne, hix, hpop, hz]
      subst hz
      exact ⟨zs.length, by simp, zs, i, rfl, set_at hi, hmi, by rw [← ht, trim_snoc0], hk.set hmi _, rfl⟩
    · simp [hne, hix, hz, htup]
      exact ⟨by rw [← ht, trim_snoc _ hz]; simp, hk⟩
theorem wF_m_scale (f : List Int) (x : Int) (m : Mem) (hf : f.length ≤ 100000) (hx : x.natAbs < 2 ^ 60) : wpE (F__law_m_scale [.tup (f.map D.int), .int x] m) fun r m1 => r = .tup ((psc x f).map D.int) ∧ Keep m m1 := by
  have h3 : f.length ≤ SL := slLe (by omega)
  have hm : ∀ y, mulFits x y = true := fun y => mulF_l (by omega)
  refine wp_fn ?_
  simp [B__law_m_scale, startE, pLc, pLcG_app, h3]
  refine (wp_lcI (fun _ => true) (fun y => x * y) f ?_).mono ?_
  · intro y hy
    simp [hm]
  · rintro ys m1 ⟨rfl, rfl⟩
    rw [List.filter_eq_self.2 (fun _ _ => rfl)]
    exact wF_m_trim (xs := f.map fun y => x * y) rfl (by simpa using hf)
def IlJ (f g : List Int) (n : Nat) (m : Mem) (i : Nat) (k : Nat) (e : Ev) (m1 : Mem) : Prop := ∃ z z' : Option D, e = [some (.tup (f.map D.int)), some (.tup (g.map D.int)), some (.loc i), z, z'] ∧ m1[i]? = some (.lst ((rowsJ f g (List.replicate n 0) k).map D.int)) ∧ m.length ≤ i ∧ Keep m m1
def IlK (f g acc : List Int) (m : Mem) (i j : Nat) (k : Nat) (e : Ev) (m1 : Mem) : Prop := ∃ z' : Option D, e = [some (.tup (f.map D.int)), some (.tup (g.map D.int)), some (.loc i), some (.int j), z'] ∧ m1[i]? = some (.lst ((rowsK f g j k acc).map D.int)) ∧ m.length ≤ i ∧ Keep m m1
theorem wF_m_times (f g : List Int) (m : Mem) {a b : Nat} (hf : f.length ≤ 10000) (hg : g.length ≤ 10000) (bf : Bd a f) (bg : Bd b g) (ha : a ≤ 200000) (hb : b ≤ 200000) : wpE (F__law_m_times [.tup (f.map D.int), .tup (g.map D.int)] m) fun r m1 => r = .tup ((pmul f g).map D.int) ∧ Keep m m1 := by
  refine wp_fn ?_
  obtain ⟨n, hn⟩ : ∃ n : Nat, (f.length : Int) + g.length = n := ⟨f.length + g.length, by omega⟩
  have hn63 : -(2 ^ 63) ≤ (n : Int) ∧ (n : Int) < 2 ^ 63 ∧ ([D.int 0] : List D).length * (n : Int).toNat ≤ SL := ⟨by omega, by omega, slLe (by simp; omega)⟩
  have hrep : oRepL (.lst [.int 0]) (.int n) m = some ((List.replicate n (0 : Int)).map D.int) := by
    unfold oRepL
    simp only [asH]
    rw [if_pos hn63, Int.toNat_natCast, rep_flat1, List.map_replicate]
  have b1 : (f.length : Int) ≤ 1000000000 := by omega
  have b2 : -1000000000 ≤ (f.length : Int) := by omega
  have b3 : (g.length : Int) ≤ 1000000000 := by omega
  have b4 : -1000000000 ≤ (g.length : Int) := by omega
  simp [B__law_m_times, startE, hn, hrep, b1, b2]
  refine wp_rng (IlJ f g n m m.length) f.length ?_ ?_ _ _ ⟨none, none, rfl, by simp [rowsJ], Nat.le_refl _, Keep.push _ _⟩
  · rintro j hj e m1 ⟨z, z', rfl, hi, hmi, hk⟩
    simp [b3, b4]
    refine wpS.toL (wp_rng (IlK f g (rowsJ f g (List.replicate n 0) j) m m.length j) g.length ?_ ?_ _ _ ⟨z', rfl, hi, hmi, hk⟩)
    · rintro k hk e m2 ⟨w, rfl, hi2, hmi2, hk2⟩
      have hlt : j + k < (rowsK f g j k (rowsJ f g (List.replicate n 0) j)).length := by rw [rowsK_len, rowsJ_len, List.length_replicate]; omega
      have hg : oIx (.loc m.length) (.int ((j : Int) + k)) m2 = some (.int (co (rowsK f g j k (rowsJ f g (List.replicate n 0) j)) (j + k))) := by
        simp only [oIx, asL, hi2]
        rw [show (j : Int) + k = ((j + k : Nat) : Int) by omega, atI_of_nat, List.getElem?_map, List.getElem?_eq_getElem hlt, co_lt hlt]; rfl
      have hp : ∀ x : Int, putAt (.loc m.length) (.int ((j : Int) + k)) (.int x) m2 = some (m2.set m.length (.lst (((rowsK f g j k (rowsJ f g (List.replicate n 0) j)).set (j + k) x).map D.int))) := by
        intro x
        unfold putAt
        simp only [hi2]
        rw [show (j : Int) + k = ((j + k : Nat) : Int) by omega, ixN_nat (by simpa using hlt)]
        simp only [List.map_set]
      have fj : atI (f.map D.int) (j : Int) = some (.int (co f j)) := by rw [atI_of_nat, List.getElem?_map, List.getElem?_eq_getElem hj, co_lt hj]; rfl
      have gk : atI (g.map D.int) (k : Int) = some (.int (co g k)) := by rw [atI_of_nat, List.getElem?_map, List.getElem?_eq_getElem hk, co_lt hk]; rfl
      have mu := bf.fits bg ha hb j k
      simp [hg, fj, gk, mu, hp]
      exact ⟨_, rfl, by rw [set_at hi2]; simp [rowsK, addAt, List.map_set], hmi2, hk2.set hmi2 _⟩
    · rintro e m2 ⟨w, rfl, hi2, hmi2, hk2⟩
      exact ⟨_, _, rfl, hi2, hmi2, hk2⟩
  · rintro e m1 ⟨z, z', rfl, hi, hmi, hk⟩
    simp [frzD, hi]
    refine (wF_m_trim (xs := rowsJ f g (List.replicate n 0) f.length) rfl (by rw [rowsJ_len, List.length_replicate]; omega)).mono ?_
    rintro _ m2 ⟨rfl, hk2⟩
    rw [rows_pmul f g n (by omega)]
    exact ⟨rfl, (hk.set hmi _).trans hk2⟩
theorem wF_m_all {d : D} {fs : List (List Int)} {m : Mem} {a c : Nat} (hd : seqO m d = some (fs.map tupI)) (hn : ∀ i, d ≠ .loc i) (hf : ∀ f ∈ fs, Bd a f ∧ f.length ≤ 2 ^ c) (hc : c ≤ 8) (ha : a ≤ 1000) (hl : fs.length ≤ 30) : wpE (F__law_m_all [d] m) fun r m1 => r = .tup ((fs.foldl pmul [1]).map D.int) ∧ Keep m m1 := by
  refine wp_fn ?_
  simp [B__law_m_all, startE, itemsOf_seq hd hn]
  have p8 : 2 ^ c ≤ 256 := Nat.le_trans (Nat.pow_le_pow_right (by decide) hc) (by decide)
  have key : ∀ (gs : List (List Int)) (acc : List Int) (b k : Nat) (z : Option D) (m1 : Mem), (∀ f ∈ gs, Bd a f ∧ f.length ≤ 2 ^ c) → Bd b acc → acc.length ≤ (k + 1) * 2 ^ c → k + gs.length ≤ 30 → b + gs.length * (a + c + 5) ≤ 200000 → Keep m m1 →
      wpS (loopF (gN 2) (sSet 1 (pApp F__law_m_times 2 (pCons (pVar 1) (pCons (pVar 2) pNil)))) (gs.map tupI) [some d, some (.tup (acc.map D.int)), z] m1) (fun e m2 => wpE (rdV e[1]? m2) fun r m3 => r = .tup ((gs.foldl pmul acc).map D.int) ∧ Keep m m3) (fun r m1 => r = .tup ((gs.foldl pmul acc).map D.int) ∧ Keep m m1) := by
    intro gs
    induction gs with
    | nil => intro acc b k z m1 _ _ _ _ _ hk; simp; exact hk
    | cons g gs ih =>
      intro acc b k z m1 h1 h2 h3 h4 h5 hk
      rw [List.length_cons] at h4 h5
      rw [Nat.succ_mul] at h5
      have hg := h1 g (by simp)
      have hle : (k + 1) * 2 ^ c ≤ 31 * 256 := Nat.mul_le_mul (by omega) p8
      simp [loopF_cons, tupI]
      obtain ⟨_, m2, e, rfl, hk2⟩ := (wF_m_times acc g m1 (by omega) (by omega) h2 hg.1 (by omega) (by omega)).out
      simp [e]
      have hb := prod_bd [g] (fun f hf => by rw [List.mem_singleton.1 hf]; exact hg) acc b k h2 h3 (by simp; omega)
      exact ih (pmul acc g) (b + (a + c + 5)) (k + 1) _ m2 (fun f hf => h1 f (by simp [hf])) (by have := hb.1; simpa using this) (by have := hb.2; simpa using this) (by omega) (by omega) (hk.trans hk2)
  exact key fs [1] 1 0 none m hf (Bd.of fun x hx => by rw [List.mem_singleton.1 hx]; decide) (by have := Nat.two_pow_pos c; simp; omega) (by omega) (by
    have : fs.length * (a + c + 5) ≤ 30 * 1013 := Nat.mul_le_mul hl (by omega)
    omega) (Keep.refl m)
theorem wF_m_val (f : List Int) (r : Rat) (m : Mem) {n k : Nat} (hr : RB n r) (hf : Bd k f) (hk : 0 < k) (hb : (f.length + 1) * (n + k + 2) ≤ 6000) : wpE (F__law_m_val [.tup (f.map D.int), rD r] m) fun d m1 => d = rD (evR f r) ∧ m1 = m := by
  refine wp_fn ?_
  have key : ∀ (l g : List Int) (d z : Option D) (b : Nat), f = l ++ g → RB b (evR g r) → b + l.length * (n + k + 2) ≤ 6000 → wpS (loopF (gN 3) (sSet 2 (pApp F__law_m_add 2 (pCons (pApp F__law_m_mul 2 (pCons (pVar 2) (pCons (pVar 1) pNil))) (pCons (pTup (pCons (pVar 3) (pCons (pC (.int 1)) pNil))) pNil)))) (l.reverse.map D.int) [d, some (rD r), some (rD (evR g r)), z] m) (fun e m1 => wpE (rdV e[2]? m1) fun d m1 => d = rD (evR f r) ∧ m1 = m) (fun d m1 => d = rD (evR f r) ∧ m1 = m) := by
    intro l
    induction h : l.length generalizing l with
    | zero =>
      intro g d z b e _ _
      rw [List.length_eq_zero_iff.1 h] at e ⊢
      simp at e
      simp [e]
    | succ t ih =>
      intro g d z b e hg hbb
      rcases List.eq_nil_or_concat l with rfl | ⟨l', x, rfl⟩
      · simp at h
      · rw [List.concat_eq_append] at *
        have hl' : l'.length = t := by simpa using h
        rw [Nat.succ_mul] at hbb
        have hx : x.natAbs < 2 ^ k := hf.mem (by rw [e]; simp)
        simp [loopF_cons]
        obtain ⟨_, m1, e1, rfl, rfl⟩ := (wF_m_mul (evR g r) r m hg hr (by omega)).out
        simp [e1, rD_int]
        obtain ⟨_, m2, e2, rfl, rfl⟩ := (wF_m_add (evR g r * r) (x : Rat) m1 (hg.mul hr) (RB.int hx hk) (by omega)).out
        simp [e2]
        have ev : evR g r * r + (x : Rat) = evR (x :: g) r := by
          show _ = (x : Rat) + r * evR g r
          grind
        rw [ev]
        have h4 := RB.add (hg.mul hr) (RB.int hx hk)
        rw [ev] at h4
        have h5 := ih l' hl' (x :: g) d (some (.int x)) (b + n + k + 1) (by rw [e]; simp) h4 (by omega)
        simpa using h5
  have hrev : oRev (.tup (f.map D.int)) m = some (.tup (f.reverse.map D.int)) := by
    show some (D.tup (f.map D.int).reverse) = _
    rw [List.map_reverse]
  simp [B__law_m_val, startE, hrev, rD_int]
  have h0 : rD 0 = rD (evR [] r) := rfl
  rw [h0]
  have := key f [] (some (.tup (f.map D.int))) none 1 (by simp) (show RB 1 (0 : Rat) from ⟨by decide, by decide⟩) (by
    rw [Nat.succ_mul] at hb; omega)
  simpa using this
end Z

set_option maxRecDepth 100000
set_option maxHeartbeats 2000000
set_option autoImplicit false
namespace Z
open PySem PySem.Spec PyProof.Rows L2
open PolA (Po Dv len mono Dom Qt)
theorem wp_rngF {s : PSF} {N : Ev → Mem → Prop} {R : D → Mem → Prop} {v : Nat} (I : Nat → Ev → Mem → Prop) (lo n : Nat)
    (st : ∀ k, lo ≤ k → k < lo + n → ∀ e m, I k e m → wpL (s (e.set v (some (.int (k : Int)))) m) (I (k + 1)) N R) (en : ∀ e m, I (lo + n) e m → N e m) (e : Ev) (m : Mem) (i : I lo e m) : wpS (loopF (gN v) s (intR (lo : Int) 1 n) e m) N R := by
  refine wp_loop (fun ds e m => ∃ k : Nat, k + ds.length = lo + n ∧ lo ≤ k ∧ ds = (rng (k : Int) (lo + n - k)).map D.int ∧ I k e m) ?_ ?_ _ _ _ ⟨lo, by simp [intR_rng, rng_len], Nat.le_refl _, by rw [intR_rng, show lo + n - lo = n by omega], i⟩
  · rintro d ds e m ⟨k, h1, h0, h2, h3⟩
    rw [List.length_cons] at h1
    rw [show lo + n - k = ds.length + 1 by omega, rng_cons, List.map_cons] at h2
    injection h2 with h4 h5
    subst h4
    refine ⟨_, _, rfl, ?_⟩
    refine (st k h0 (by omega) e m h3).mono (fun e1 m1 h => ⟨k + 1, by omega, by omega, ?_, h⟩) (fun _ _ h => h) (fun _ _ h => h)
    rw [h5, show lo + n - (k + 1) = ds.length by omega]; rfl
  · rintro e m ⟨k, h1, h0, h2, h3⟩
    rw [List.length_nil] at h1
    obtain rfl : k = lo + n := by omega
    exact en e m h3
/-! a matrix in the memory -/
def rowD (l : List Int) : D := .lst (l.map D.int)
def en (C : List (List Int)) (j i : Nat) : Int := co (C.getD j []) i
structure MatM (m : Mem) (a : Nat) (ids : List Nat) (C : List (List Int)) (N : Nat) (m1 : Mem) : Prop where
  cell : m1[a]? = some (.lst (ids.map D.loc))
  li : ids.length = N
  lc : C.length = N
  row : ∀ j, j < N → (C.getD j []).length = N ∧ m1[ids.getD j 0]? = some (.lst ((C.getD j []).map D.int))
  nd : ids.Nodup
  na : a ∉ ids
  lo : ∀ i ∈ ids, m.length ≤ i
  la : m.length ≤ a
  kp : Keep m m1
theorem getD_at {α : Type} {l : List α} {j : Nat} (d : α) (h : j < l.length) : l.getD j d = l[j] := by
  rw [List.getD_eq_getElem?_getD, List.getElem?_eq_getElem h]; rfl
theorem getD_in {l : List Nat} {j : Nat} (h : j < l.length) : l.getD j 0 ∈ l := by
  rw [getD_at 0 h]; exact List.getElem_mem _
theorem nd_ne {l : List Nat} (nd : l.Nodup) {j k : Nat} (hj : j < l.length) (hk : k < l.length) (h : j ≠ k) : l.getD j 0 ≠ l.getD k 0 := by
  rw [getD_at 0 hj, getD_at 0 hk]
  intro e
  exact h ((List.getElem_inj nd).1 e)
section
variable {m : Mem} {a : Nat} {ids : List Nat} {C : List (List Int)} {N : Nat} {m1 : Mem} (h : MatM m a ids C N m1)
include h
theorem MatM.ro {j : Nat} (hj : j < N) : oIx (.loc a) (.int (j : Int)) m1 = some (.loc (ids.getD j 0)) := by
  have hl := h.li
  rw [seqO_ix (l := ids.map D.loc) (by simp only [seqO, asL, h.cell]), atI_of_nat, List.getElem?_map, List.getElem?_eq_getElem (by omega), getD_at 0 (by omega)]; rfl
theorem MatM.rd {j i : Nat} (hj : j < N) (hi : i < N) : oIx (.loc (ids.getD j 0)) (.int (i : Int)) m1 = some (.int (en C j i)) := by
  obtain ⟨h1, h2⟩ := h.row j hj
  rw [seqO_ix (l := (C.getD j []).map D.int) (by simp only [seqO, asL, h2]), atI_of_nat, List.getElem?_map, List.getElem?_eq_getElem (by omega)]
  unfold en
  rw [co_lt (by omega)]; rfl
theorem MatM.wr {j i : Nat} (hj : j < N) (hi : i < N) (x : Int) : ∃ m2, putAt (.loc (ids.getD j 0)) (.int (i : Int)) (.int x) m1 = some m2 ∧ MatM m a ids (C.set j ((C.getD j []).set i x)) N m2 := by
  obtain ⟨h1, h2⟩ := h.row j hj
  have hl := h.li
  have hc := h.lc
  refine ⟨m1.set (ids.getD j 0) (.lst (((C.getD j []).set i x).map D.int)), ?_, ?_⟩
  · unfold putAt
    simp only [h2]
    rw [ixN_nat (by rw [List.length_map]; omega)]
    simp only [List.map_set]
  · have hin := getD_in (l := ids) (j := j) (by omega)
    have hane : ids.getD j 0 ≠ a := fun e => h.na (e ▸ hin)
    refine ⟨by rw [List.getElem?_set_ne hane]; exact h.cell, hl, by simp [hc], fun k hk => ?_, h.nd, h.na, h.lo, h.la, h.kp.set (h.lo _ hin) _⟩
    obtain ⟨k1, k2⟩ := h.row k hk
    by_cases hkj : k = j
    · subst hkj
      have e : (C.set k ((C.getD k []).set i x)).getD k [] = (C.getD k []).set i x := by
        rw [List.getD_eq_getElem?_getD, List.getElem?_set_self (by omega)]; rfl
      rw [e]
      exact ⟨by rw [List.length_set]; exact k1, set_at k2⟩
    · have e : (C.set j ((C.getD j []).set i x)).getD k [] = C.getD k [] := by
        rw [List.getD_eq_getElem?_getD, List.getElem?_set_ne (fun e => hkj e.symm), ← List.getD_eq_getElem?_getD]
      rw [e, List.getElem?_set_ne (nd_ne h.nd (by omega) (by omega) (fun e => hkj e.symm))]
      exact ⟨k1, k2⟩
theorem MatM.sw {k l : Nat} (hk : k < N) (hl : l < N) (hne : k ≠ l) : ∃ m2 m3, putAt (.loc a) (.int (k : Int)) (.loc (ids.getD l 0)) m1 = some m2 ∧ putAt (.loc a) (.int (l : Int)) (.loc (ids.getD k 0)) m2 = some m3 ∧ (∀ j, j < N → oIx (.loc a) (.int (j : Int)) m2 = some (.loc ((ids.set k (ids.getD l 0)).getD j 0))) ∧
    MatM m a ((ids.set k (ids.getD l 0)).set l (ids.getD k 0)) ((C.set k (C.getD l [])).set l (C.getD k [])) N m3 := by
  have hli := h.li
  have hlc := h.lc
  have c2 : (m1.set a (.lst ((ids.set k (ids.getD l 0)).map D.loc)))[a]? = some (.lst ((ids.set k (ids.getD l 0)).map D.loc)) := set_at h.cell
  refine ⟨m1.set a (.lst ((ids.set k (ids.getD l 0)).map D.loc)), (m1.set a (.lst ((ids.set k (ids.getD l 0)).map D.loc))).set a (.lst (((ids.set k (ids.getD l 0)).set l (ids.getD k 0)).map D.loc)), ?_, ?_, ?_, ?_⟩
  · unfold putAt
    simp only [h.cell]
    rw [ixN_nat (by rw [List.length_map]; omega)]
    simp only [List.map_set]
  · unfold putAt
    simp only [c2]
    rw [ixN_nat (by rw [List.length_map, List.length_set]; omega)]
    simp only [List.map_set]
  · intro j hj
    rw [seqO_ix (l := (ids.set k (ids.getD l 0)).map D.loc) (by simp only [seqO, asL, c2]), atI_of_nat, List.getElem?_map, List.getElem?_eq_getElem (by rw [List.length_set]; omega), getD_at (l := ids.set k (ids.getD l 0)) 0 (by rw [List.length_set]; omega)]; rfl
  · have g1 : ∀ j, j < N → ((ids.set k (ids.getD l 0)).set l (ids.getD k 0)).getD j 0 = ids.getD (PolA.swx k l j) 0 := fun j hj => by
      unfold PolA.swx
      rw [List.getD_eq_getElem?_getD]
      by_cases h1 : j = k
      · subst h1
        rw [List.getElem?_set_ne (fun e => hne e.symm), List.getElem?_set_self (by omega), if_pos rfl]; rfl
      · rw [if_neg h1]
        by_cases h2 : j = l
        · subst h2
          rw [List.getElem?_set_self (by simp; omega), if_pos rfl]; rfl
        · rw [if_neg h2, List.getElem?_set_ne (fun e => h2 e.symm), List.getElem?_set_ne (fun e => h1 e.symm), ← List.getD_eq_getElem?_getD]
    have g2 : ∀ j, j < N → ((C.set k (C.getD l [])).set l (C.getD k [])).getD j [] = C.getD (PolA.swx k l j) [] := fun j hj => by
      unfold PolA.swx
      rw [List.getD_eq_getElem?_getD]
      by_cases h1 : j = k
      · subst h1
        rw [List.getElem?_set_ne (fun e => hne e.symm), List.getElem?_set_self (by omega), if_pos rfl]; rfl
      · rw [if_neg h1]
        by_cases h2 : j = l
        · subst h2
          rw [List.getElem?_set_self (by simp; omega), if_pos rfl]; rfl
        · rw [if_neg h2, List.getElem?_set_ne (fun e => h2 e.symm), List.getElem?_set_ne (fun e => h1 e.symm), ← List.getD_eq_getElem?_getD]
    have hsw : ∀ j, j < N → PolA.swx k l j < N := fun j hj => by
      unfold PolA.swx
      split
      · exact hl
      · split <;> omega
    have hinj : ∀ i j, PolA.swx k l i = PolA.swx k l j → i = j := fun i j e => by
      unfold PolA.swx at e
      split at e <;> split at e <;> (try split at e) <;> (try split at e) <;> omega
    have hmem : ∀ i ∈ ((ids.set k (ids.getD l 0)).set l (ids.getD k 0)), i ∈ ids := fun i hi => by
      obtain ⟨j, hj, rfl⟩ := List.mem_iff_getElem.1 hi
      have hjN : j < N := by simp at hj; omega
      rw [← getD_at 0 hj, g1 j hjN]
      exact getD_in (by have := hsw j hjN; omega)
    refine ⟨set_at c2, by simp [hli], by simp [hlc], fun j hj => ?_, ?_, fun e => h.na (hmem _ e), fun i hi => h.lo i (hmem i hi), h.la, (h.kp.set h.la _).set h.la _⟩
    · have hj2 := hsw j hj
      obtain ⟨r1, r2⟩ := h.row _ hj2
      have hane : a ≠ ids.getD (PolA.swx k l j) 0 := fun e => h.na (e ▸ getD_in (by omega))
      rw [g1 j hj, g2 j hj, List.getElem?_set_ne hane, List.getElem?_set_ne hane]
      exact ⟨r1, r2⟩
    · rw [List.nodup_iff_pairwise_ne, List.pairwise_iff_getElem]
      intro i j hi hj hij e
      have hiN : i < N := by simp at hi; omega
      have hjN : j < N := by simp at hj; omega
      rw [← getD_at 0 hi, ← getD_at 0 hj, g1 i hiN, g1 j hjN] at e
      have hne' : PolA.swx k l i ≠ PolA.swx k l j := fun e => by have := hinj i j e; omega
      exact nd_ne h.nd (by have := hsw i hiN; omega) (by have := hsw j hjN; omega) hne' e
end
def idA (ids : List Nat) (j : Nat) : Nat := ids.getD j 0
section
variable {m : Mem} {a : Nat} {ids : List Nat} {C : List (List Int)} {N : Nat} {m1 : Mem} (h : MatM m a ids C N m1)
include h
theorem MatM.roA {j : Nat} (hj : j < N) : oIx (.loc a) (.int (j : Int)) m1 = some (.loc (idA ids j)) := h.ro hj
theorem MatM.rdA {j i : Nat} (hj : j < N) (hi : i < N) : oIx (.loc (idA ids j)) (.int (i : Int)) m1 = some (.int (en C j i)) := h.rd hj hi
theorem MatM.wrA {j i : Nat} (hj : j < N) (hi : i < N) (x : Int) : ∃ m2, putAt (.loc (idA ids j)) (.int (i : Int)) (.int x) m1 = some m2 ∧ MatM m a ids (C.set j ((C.getD j []).set i x)) N m2 := h.wr hj hi x
theorem MatM.swA {k l : Nat} (hk : k < N) (hl : l < N) (hne : k ≠ l) : ∃ m2 m3 ids2, putAt (.loc a) (.int (k : Int)) (.loc (idA ids l)) m1 = some m2 ∧ putAt (.loc a) (.int (l : Int)) (.loc (idA ids k)) m2 = some m3 ∧ MatM m a ids2 ((C.set k (C.getD l [])).set l (C.getD k [])) N m3 := by
  obtain ⟨m2, m3, h1, h2, _, h3⟩ := h.sw hk hl hne
  exact ⟨m2, m3, _, h1, h2, h3⟩
end
theorem fdiv_le (x : Int) {p : Int} (hp : p ≠ 0) : (x.fdiv p).natAbs ≤ x.natAbs := by
  have key : ∀ (x p : Int), 0 < p → (x.fdiv p).natAbs ≤ x.natAbs := fun x p h => by
    have e := Int.mul_fdiv_add_fmod x p
    have f1 := Int.fmod_nonneg_of_pos x h
    have f2 := Int.fmod_lt_of_pos x h
    generalize x.fdiv p = q at *
    generalize x.fmod p = t at *
    rcases Int.lt_or_le q 0 with a | a
    · have := Int.mul_le_mul_of_nonneg_right (show 1 ≤ p by omega) (show 0 ≤ -(q + 1) by omega)
      have e2 : p * -(q + 1) = -(p * q) - p := by grind
      rw [e2] at this
      omega
    · have := Int.mul_le_mul_of_nonneg_right (show 1 ≤ p by omega) a
      omega
  rcases Int.lt_or_gt_of_ne hp with a | a
  · have := key (-x) (-p) (by omega)
    rw [Int.neg_fdiv_neg] at this
    omega
  · exact key x p a
theorem en_set {C : List (List Int)} {N : Nat} (hc : C.length = N) {j i : Nat} (hj : j < N) (hr : ∀ t, t < N → (C.getD t []).length = N) (hi : i < N) (x : Int) {j' i' : Nat} : en (C.set j ((C.getD j []).set i x)) j' i' = if j' = j ∧ i' = i then x else en C j' i' := by
  unfold en
  by_cases h1 : j' = j
  · subst h1
    have e : (C.set j' ((C.getD j' []).set i x)).getD j' [] = (C.getD j' []).set i x := by
      rw [List.getD_eq_getElem?_getD, List.getElem?_set_self (by omega)]; rfl
    rw [e]
    have hl := hr j' hj
    by_cases h2 : i' = i
    · subst h2
      rw [if_pos ⟨rfl, rfl⟩, co_lt (by rw [List.length_set]; omega), List.getElem_set_self]
    · rw [if_neg (fun c => h2 c.2)]
      by_cases h3 : i' < N
      · rw [co_lt (by rw [List.length_set]; omega), co_lt (by omega), List.getElem_set_ne (fun e => h2 e.symm)]
      · rw [co_ge (by rw [List.length_set]; omega), co_ge (by omega)]
  · rw [if_neg (fun c => h1 c.1)]
    have e : (C.set j ((C.getD j []).set i x)).getD j' [] = C.getD j' [] := by
      rw [List.getD_eq_getElem?_getD, List.getElem?_set_ne (fun e => h1 e.symm), ← List.getD_eq_getElem?_getD]
    rw [e]
theorem en_sw {C : List (List Int)} {N k l : Nat} (hc : C.length = N) (hk : k < N) (hl : l < N) (hne : k ≠ l) (j i : Nat) : en ((C.set k (C.getD l [])).set l (C.getD k [])) j i = en C (PolA.swx k l j) i := by
  unfold en PolA.swx
  rw [List.getD_eq_getElem?_getD]
  by_cases h1 : j = k
  · subst h1
    rw [List.getElem?_set_ne (fun e => hne e.symm), List.getElem?_set_self (by omega), if_pos rfl]; rfl
  · rw [if_neg h1]
    by_cases h2 : j = l
    · subst h2
      rw [List.getElem?_set_self (by simp; omega), if_pos rfl]; rfl
    · rw [if_neg h2, List.getElem?_set_ne (fun e => h2 e.symm), List.getElem?_set_ne (fun e => h1 e.symm), ← List.getD_eq_getElem?_getD]
end Z

set_option maxRecDepth 100000
set_option maxHeartbeats 2000000
set_option autoImplicit false
namespace Z
open PySem PySem.Spec PyProof.Rows L2
open PolA (Po Dv len mono Dom Qt)
def bt (B : Nat) : Nat → Nat
  | 0 => B
  | k + 1 => 2 * bt B k + 1
theorem bt_mono (B : Nat) {k n : Nat} (h : k ≤ n) : bt B k ≤ bt B n := by
  induction h with
  | refl => exact Nat.le_refl _
  | step h ih => show _ ≤ 2 * bt B _ + 1; omega
def nwE (C : List (List Int)) (k : Nat) (p : Int) (j i : Nat) : Int := (en C j i * en C k k - en C j k * en C k i).fdiv p
def DetE (a : Nat) (s p : Int) (N : Nat) (z4 z5 z6 z7 z8 : Option D) : Ev := [some (.loc a), some (.int s), some (.int p), some (.int (N : Int)), z4, z5, z6, z7, z8]
def DetO (m : Mem) (a : Nat) (ids : List Nat) (C : List (List Int)) (N k : Nat) (s p : Int) (z5 : Option D) (j : Nat) (e : Ev) (m1 : Mem) : Prop := ∃ C1 z6 z7 z8, e = DetE a s p N (some (.int (k : Int))) z5 z6 z7 z8 ∧ MatM m a ids C1 N m1 ∧ ∀ j' i', j' < N → i' < N → en C1 j' i' = if k < j' ∧ j' < j ∧ k < i' then nwE C k p j' i' else en C j' i'
def DetN (m : Mem) (a : Nat) (ids : List Nat) (C : List (List Int)) (N k : Nat) (s p : Int) (z5 : Option D) (j : Nat) (i : Nat) (e : Ev) (m1 : Mem) : Prop := ∃ C1 z7 z8, e = DetE a s p N (some (.int (k : Int))) z5 (some (.int (j : Int))) z7 z8 ∧ MatM m a ids C1 N m1 ∧ ∀ j' i', j' < N → i' < N → en C1 j' i' = if (k < j' ∧ j' < j ∧ k < i') ∨ (j' = j ∧ k < i' ∧ i' < i) then nwE C k p j' i' else en C j' i'
def DTL : PSF := (sSeq (sFor (iR2 (pCons (pBin oAdd (pVar 4) (pC (.int 1))) (pCons (pVar 3) pNil))) (gN 6) (sFor (iR2 (pCons (pBin oAdd (pVar 4) (pC (.int 1))) (pCons (pVar 3) pNil))) (gN 7) (sPut (pBin oIx (pVar 0) (pVar 6)) (pVar 7) (pBin oDiv (pBin oSub2 (pBin oMul (pBin oIx (pBin oIx (pVar 0) (pVar 6)) (pVar 7)) (pBin oIx (pBin oIx (pVar 0) (pVar 4)) (pVar 4))) (pBin oMul (pBin oIx (pBin oIx (pVar 0) (pVar 6)) (pVar 4)) (pBin oIx (pBin oIx (pVar 0) (pVar 4)) (pVar 7)))) (pVar 2)))))
  (sSet 2 (pBin oIx (pBin oIx (pVar 0) (pVar 4)) (pVar 4))))
structure DSt (m : Mem) (a N B : Nat) (det : Rat) (k : Nat) (ids : List Nat) (C : List (List Int)) (p s : Int) (m1 : Mem) : Prop where
  mat : MatM m a ids C N m1
  ei : ∃ r G, PolA.EI N det k (en C) p s r G
  bd : ∀ j i, k ≤ j → j < N → k ≤ i → i < N → (en C j i).natAbs < 2 ^ bt B k
  pb : p.natAbs < 2 ^ bt B k
def DetI (m : Mem) (a N B : Nat) (det : Rat) (k : Nat) (e : Ev) (m1 : Mem) : Prop := ∃ ids C p s z4 z5 z6 z7 z8, e = DetE a s p N z4 z5 z6 z7 z8 ∧ DSt m a N B det k ids C p s m1
theorem det_tail {m : Mem} {a N B : Nat} {det : Rat} {k : Nat} {ids : List Nat} {C : List (List Int)} {p s : Int} {m1 : Mem} (h : DSt m a N B det k ids C p s m1) (hk : k < N) (hN : N ≤ 1000) (hB : bt B N ≤ 8000) (hp : en C k k ≠ 0) (z5 z6 z7 z8 : Option D) (R : D → Mem → Prop) :
    wpS (DTL (DetE a s p N (some (.int (k : Int))) z5 z6 z7 z8) m1) (DetI m a N B det (k + 1)) R := by
  obtain ⟨hM, ⟨r, G, hE⟩, hbd, hpb⟩ := h
  have hbk : bt B k ≤ 8000 := Nat.le_trans (bt_mono B (by omega)) hB
  have hp0 := hE.p0
  have hdiv : divFits p = true := divF (n := bt B k) hbk hp0 hpb
  have b1 : (N : Int) ≤ 1000000000 := by omega
  have b2 : -1000000000 ≤ (N : Int) := by omega
  have b3 : (k : Int) + 1 ≤ 1000000000 := by omega
  have b4 : -1000000000 ≤ (k : Int) + 1 := by omega
  have hrg : ((N : Int) - ((k : Int) + 1)).toNat = N - (k + 1) := by omega
  have hk1 : (k : Int) + 1 = ((k + 1 : Nat) : Int) := by omega
  unfold DTL DetE
  simp [b1, b2, b3, b4, hrg]
  rw [hk1]
  refine wp_rngF (DetO m a ids C N k s p z5) (k + 1) (N - (k + 1)) ?_ ?_ _ _ ⟨C, z6, z7, z8, rfl, hM, fun j' i' _ _ => by rw [if_neg (by omega)]⟩
  · rintro j hj1 hj2 e m2 ⟨C1, y6, y7, y8, rfl, hM1, hC1⟩
    refine wpS.toL ?_
    unfold DetE
    simp [b1, b2, b3, b4, hrg]
    rw [hk1]
    refine wp_rngF (DetN m a ids C N k s p z5 j) (k + 1) (N - (k + 1)) ?_ ?_ _ _ ⟨C1, y7, y8, rfl, hM1, fun j' i' h1 h2 => by
      rw [hC1 j' i' h1 h2]
      by_cases h : k < j' ∧ j' < j ∧ k < i'
      · rw [if_pos h, if_pos (.inl h)]
      · rw [if_neg h, if_neg (by omega)]⟩
    · rintro i hi1 hi2 e m3 ⟨C2, x7, x8, rfl, hM2, hC2⟩
      have jN : j < N := by omega
      have iN : i < N := by omega
      have r1 := hM2.roA jN
      have r2 := hM2.roA hk
      have d1 := hM2.rdA jN iN
      have d2 := hM2.rdA hk hk
      have d3 := hM2.rdA jN hk
      have d4 := hM2.rdA hk iN
      rw [hC2 j i jN iN, if_neg (by omega)] at d1
      rw [hC2 k k hk hk, if_neg (by omega)] at d2
      rw [hC2 j k jN hk, if_neg (by omega)] at d3
      rw [hC2 k i hk iN, if_neg (by omega)] at d4
      have f1 : mulFits (en C j i) (en C k k) = true := mulF_b (n := bt B k) (by omega) (hbd j i (by omega) jN (by omega) iN) (hbd k k (Nat.le_refl _) hk (Nat.le_refl _) hk)
      have f2 : mulFits (en C j k) (en C k i) = true := mulF_b (n := bt B k) (by omega) (hbd j k (by omega) jN (Nat.le_refl _) hk) (hbd k i (Nat.le_refl _) hk (by omega) iN)
      obtain ⟨m4, w1, w2⟩ := hM2.wrA jN iN (nwE C k p j i)
      unfold nwE at w1
      refine wpS.toL ?_
      unfold DetE
      simp [r1, r2, d1, d2, d3, d4, f1, f2, hdiv, hp0, w1]
      refine ⟨_, _, x8, rfl, w2, fun j' i' h1 h2 => ?_⟩
      rw [en_set hM2.lc jN (fun t ht => (hM2.row t ht).1) iN, hC2 j' i' h1 h2]
      by_cases h3 : j' = j ∧ i' = i
      · obtain ⟨rfl, rfl⟩ := h3
        rw [if_pos ⟨rfl, rfl⟩, if_pos (by omega)]
      · rw [if_neg h3]
        by_cases h4 : k < j' ∧ j' < j ∧ k < i' ∨ j' = j ∧ k < i' ∧ i' < i
        · rw [if_pos h4, if_pos (by omega)]
        · rw [if_neg h4, if_neg (by omega)]
    · rintro e m3 ⟨C2, x7, x8, rfl, hM2, hC2⟩
      refine ⟨C2, _, x7, x8, rfl, hM2, fun j' i' h1 h2 => ?_⟩
      rw [hC2 j' i' h1 h2]
      by_cases h4 : k < j' ∧ j' < j ∧ k < i' ∨ j' = j ∧ k < i' ∧ i' < k + 1 + (N - (k + 1))
      · rw [if_pos h4, if_pos (by omega)]
      · rw [if_neg h4, if_neg (by omega)]
  · rintro e m2 ⟨C1, y6, y7, y8, rfl, hM1, hC1⟩
    have r2 := hM1.roA hk
    have d2 := hM1.rdA hk hk
    rw [hC1 k k hk hk, if_neg (by omega)] at d2
    unfold DetE
    simp [r2, d2]
    have hnew : ∀ j i, k < j → j < N → k < i → i < N → en C1 j i = nwE C k p j i := fun j i h1 h2 h3 h4 => by
      rw [hC1 j i h2 h4, if_pos (by omega)]
    refine ⟨ids, C1, en C k k, s, _, _, _, _, _, rfl, hM1, ⟨_, _, hE.step hk hp (en C1) hnew⟩, fun j i h1 h2 h3 h4 => ?_, ?_⟩
    · rw [hnew j i (by omega) h2 (by omega) h4]
      unfold nwE
      refine Nat.lt_of_le_of_lt (fdiv_le _ hp0) ?_
      have c1 := mul_bits (hbd j i (by omega) h2 (by omega) h4) (hbd k k (Nat.le_refl _) hk (Nat.le_refl _) hk)
      have c2 := mul_bits (hbd j k (by omega) h2 (Nat.le_refl _) hk) (hbd k i (Nat.le_refl _) hk (by omega) h4)
      show _ < 2 ^ (2 * bt B k + 1)
      rw [show 2 * bt B k + 1 = (bt B k + bt B k) + 1 by omega, Nat.pow_succ]
      generalize en C j i * en C k k = x at *
      generalize en C j k * en C k i = y at *
      omega
    · exact Nat.lt_of_lt_of_le (hbd k k (Nat.le_refl _) hk (Nat.le_refl _) hk) (Nat.pow_le_pow_right (by decide) (by show _ ≤ 2 * bt B k + 1; omega))
end Z

set_option maxRecDepth 100000
set_option maxHeartbeats 2000000
set_option autoImplicit false
namespace Z
open PySem PySem.Spec PyProof.Rows L2
open PolA (Po Dv len mono Dom Qt)
theorem det_rows : ∀ (C : List (List Int)) (e : Ev) (m : Mem), 8 < e.length → wpE (lcF (.n 8) tYesF (pCallM oListL (pCons (pVar 8) pNil)) e (C.map rowD) m) fun ys m1 => ys = (List.range' m.length C.length).map D.loc ∧ m1 = m ++ C.map fun r => Cell.lst (r.map D.int)
  | [], e, m, _ => by rw [List.map_nil, lcF_nil, wpE_ok]; exact ⟨rfl, by simp⟩
  | r :: C, e, m, he => by
    rw [List.map_cons, lcF_cons]
    have g0 : (e.set 8 (some (rowD r)))[8]? = some (some (rowD r)) := List.getElem?_set_self he
    have hl : oListL [rowD r] m = some (r.map D.int) := seqO_listL rfl
    obtain ⟨_, m3, e3, rfl, rfl⟩ := (det_rows C e (m ++ [.lst (r.map D.int)]) he).out
    have e1 : pCallM oListL (pCons (pVar 8) pNil) (e.set 8 (some (rowD r))) m = some (.ok (.loc m.length) (m ++ [.lst (r.map D.int)])) := by
      simp [g0, hl, liftM]
    have e2 : tgtE (.n 8) (rowD r) e = some (e.set 8 (some (rowD r))) := rfl
    rw [e2]
    simp only [okE, tYesF, okB, okD, e1, if_true, e3]
    simp [List.range'_succ]
theorem Keep_app (m l : Mem) : Keep m (m ++ l) := fun a c h => by rw [List.getElem?_append_left (List.getElem?_eq_some_iff.1 h).1]; exact h
theorem mat_new (m : Mem) (C : List (List Int)) (N : Nat) (hC : C.length = N) (hr : ∀ r ∈ C, r.length = N) : MatM m (m.length + N) (List.range' m.length N) C N ((m ++ C.map fun r => Cell.lst (r.map D.int)) ++ [.lst ((List.range' m.length N).map D.loc)]) := by
  have hl : (m ++ C.map fun r => Cell.lst (r.map D.int)).length = m.length + N := by simp [hC]
  refine ⟨?_, by simp, hC, fun j hj => ?_, List.nodup_range', fun h => ?_, fun i hi => (List.mem_range'_1.1 hi).1, by omega, (Keep_app _ _).trans (Keep.push _ _)⟩
  · rw [List.getElem?_append_right (by omega), hl, Nat.sub_self]; rfl
  · have e : (List.range' m.length N).getD j 0 = m.length + j := by
      rw [getD_at 0 (by simpa using hj)]; simp
    have e2 : C.getD j [] = C[j] := getD_at [] (by omega)
    refine ⟨by rw [e2]; exact hr _ (List.getElem_mem _), ?_⟩
    rw [e, List.getElem?_append_left (by omega), List.getElem?_append_right (by omega), show m.length + j - m.length = j by omega, List.getElem?_map, List.getElem?_eq_getElem (by omega), e2]; rfl
  · have := (List.mem_range'_1.1 h).2
    omega
/-- the determinant of a square of whole numbers -/
def detI (N : Nat) (c : Nat → Nat → Int) : Int := PolA.DD N ((List.range N).map c)
theorem DD_cast : ∀ (n : Nat) (L : List (Nat → Int)), PolA.DD n (L.map fun v => (fun i => ((v i : Int) : Rat))) = ((PolA.DD n L : Int) : Rat)
  | 0, _ => rfl
  | n + 1, L => by
    have key : ∀ (post pre : List (Nat → Int)), PolA.exD (PolA.DD n) (pre.map fun v => (fun i => ((v i : Int) : Rat))) (post.map fun v => (fun i => ((v i : Int) : Rat))) = ((PolA.exD (PolA.DD n) pre post : Int) : Rat) := by
      intro post
      induction post with
      | nil => intro pre; rfl
      | cons r post ih =>
        intro pre
        have ih := ih (pre ++ [r])
        have h := DD_cast n ((pre ++ post).map PolA.tlv)
        rw [List.map_append, List.map_singleton] at ih
        rw [List.map_cons, PolA.exD, PolA.exD, ih, Rat.intCast_sub, Rat.intCast_mul, ← h, ← List.map_append, List.map_map, List.map_map]
        rfl
    exact key L []
theorem det_body {m : Mem} {a N B : Nat} {det : Rat} (hN : N ≤ 1000) (hB : bt B N ≤ 8000) {k : Nat} (hk : k < N) {e : Ev} {m1 : Mem} (h : DetI m a N B det k e m1) (d0 : Int) (hd0 : det = (d0 : Rat)) (s : PSF) (hs : s = (sSeq (sSet 5 (pLc [6] (iR2 (pCons (pVar 4) (pCons (pVar 3) pNil))) (.n 6) (pTst (pBin oNe (pBin oIx (pBin oIx (pVar 0) (pVar 6)) (pVar 4)) (pC (.int 0)))) (pVar 6)))
  (sSeq (sIf (pTst (pBin oEq (pCall oLen (pCons (pVar 5) pNil)) (pC (.int 0)))) (sRet (pC (.int 0))) sNop)
  (sSeq (sIf (pTst (pBin oNe (pBin oIx (pVar 5) (pC (.int 0))) (pVar 4))) (sSeq (sAsg (gTp 2 (gsCons (gPut (pVar 0) (pVar 4)) (gsCons (gPut (pVar 0) (pBin oIx (pVar 5) (pC (.int 0)))) gsNil))) (pTup (pCons (pBin oIx (pVar 0) (pBin oIx (pVar 5) (pC (.int 0)))) (pCons (pBin oIx (pVar 0) (pVar 4)) pNil))))
  (sSet 1 (pUn oNeg (pVar 1)))) sNop) DTL)))) :
    wpS (s (e.set 4 (some (.int (k : Int)))) m1) (DetI m a N B det (k + 1)) (fun d m2 => d = .int d0 ∧ Keep m m2) := by
  obtain ⟨ids, C, p, sg, z4, z5, z6, z7, z8, rfl, hS⟩ := h
  have hM := hS.mat
  have b1 : (N : Int) ≤ 1000000000 := by omega
  have b2 : -1000000000 ≤ (N : Int) := by omega
  have b3 : (k : Int) ≤ 1000000000 := by omega
  have b4 : -1000000000 ≤ (k : Int) := by omega
  have hrg : ((N : Int) - (k : Int)).toNat = N - k := by omega
  have hsl : (intR (k : Int) 1 (N - k)).length ≤ SL := slLe (by rw [intR_rng, List.length_map, rng_len]; omega)
  subst hs
  unfold DetE
  simp [pLc, pLcG_app, b1, b2, b3, b4, hrg, hsl]
  rw [intR_rng]
  refine (wp_lcI (fun x => !decide (en C x.toNat k = 0)) (fun x => x) _ ?_).mono ?_
  · intro x hx
    have hx := mem_rng.1 hx
    obtain ⟨j, rfl⟩ := Int.eq_ofNat_of_zero_le (show 0 ≤ x by omega)
    have r1 := hM.roA (j := j) (by omega)
    have d1 := hM.rdA (j := j) (i := k) (by omega) hk
    simp [r1, d1]
  · rintro ys m2 ⟨rfl, rfl⟩
    rw [List.map_id']
    have hmem : ∀ x, x ∈ (rng (k : Int) (N - k)).filter (fun x => !decide (en C x.toNat k = 0)) ↔ ((k : Int) ≤ x ∧ x < N) ∧ en C x.toNat k ≠ 0 := fun x => by
      rw [List.mem_filter, mem_rng]
      simp
      omega
    generalize (rng (k : Int) (N - k)).filter (fun x => !decide (en C x.toNat k = 0)) = Ld at hmem
    cases Ld with
    | nil =>
      have hz : det = 0 := by
        obtain ⟨r, G, hE⟩ := hS.ei
        refine hE.zero hk fun j h1 h2 => ?_
        refine Classical.byContradiction fun hc => ?_
        have := (hmem (j : Int)).2 ⟨⟨by omega, by omega⟩, by simpa using hc⟩
        simp at this
      simp
      refine ⟨?_, hM.kp⟩
      rw [hd0] at hz
      exact (Rat.intCast_eq_zero_iff.1 hz).symm
    | cons x Ld =>
      obtain ⟨⟨x0, x1⟩, hx⟩ := (hmem x).1 (List.mem_cons_self ..)
      obtain ⟨l, rfl⟩ := Int.eq_ofNat_of_zero_le (show 0 ≤ x by omega)
      have hkl : k ≤ l := by omega
      have hlN : l < N := by omega
      have hx' : en C l k ≠ 0 := hx
      have ha0 : atI (.int (l : Int) :: Ld.map D.int) 0 = some (.int (l : Int)) := atI_0 _ _
      have hlen : ¬ ((Ld.length : Int) + 1 = 0) := by omega
      by_cases hlk : l = k
      · subst hlk
        have := det_tail hS hk hN hB hx' (some (.lst (.int (l : Int) :: Ld.map D.int))) z6 z7 z8 (fun d m2 => d = .int d0 ∧ Keep m m2)
        unfold DetE at this
        simp [ha0, hlen]
        exact this
      · have hkl' : k < l := by omega
        have hne : ¬ ((l : Int) = (k : Int)) := by omega
        obtain ⟨m3, m4, ids2, w1, w2, hM2⟩ := hM.swA hk hlN (by omega)
        have r1 := hM.roA hk
        have r2 := hM.roA hlN
        have hsw : ∀ j i, en ((C.set k (C.getD l [])).set l (C.getD k [])) j i = en C (PolA.swx k l j) i := en_sw hM.lc hk hlN (by omega)
        have hS2 : DSt m a N B det k ids2 ((C.set k (C.getD l [])).set l (C.getD k [])) p (-sg) m4 := by
          obtain ⟨_, ⟨r, G, hE⟩, hb, hp⟩ := hS
          refine ⟨hM2, ⟨_, _, hE.swap hkl' hlN _ fun j i _ _ _ _ => hsw j i⟩, fun j i h1 h2 h3 h4 => ?_, hp⟩
          rw [hsw]
          have : k ≤ PolA.swx k l j ∧ PolA.swx k l j < N := by
            unfold PolA.swx
            split
            · omega
            · split <;> omega
          exact hb _ i this.1 this.2 h3 h4
        have hpv : en ((C.set k (C.getD l [])).set l (C.getD k [])) k k ≠ 0 := by
          rw [hsw]
          unfold PolA.swx
          rw [if_pos rfl]
          exact hx'
        have := det_tail hS2 hk hN hB hpv (some (.lst (.int (l : Int) :: Ld.map D.int))) z6 z7 z8 (fun d m2 => d = .int d0 ∧ Keep m m2)
        unfold DetE at this
        simp [ha0, hlen, hne, r1, r2, gPut, w1, w2, oNeg]
        exact this
theorem wF_determinant (C : List (List Int)) (m : Mem) {N B : Nat} (hC : C.length = N) (hr : ∀ r ∈ C, r.length = N) (hb : ∀ j i, (en C j i).natAbs < 2 ^ B) (hN : N ≤ 1000) (hB0 : 1 ≤ B) (hB : bt B N ≤ 8000) : wpE (F_determinant [.lst (C.map rowD)] m) fun d m1 => d = .int (detI N (en C)) ∧ Keep m m1 := by
  have hcast : PolA.DD N ((List.range N).map fun j i => (en C j i : Rat)) = ((detI N (en C) : Int) : Rat) := by
    unfold detI
    rw [← DD_cast, List.map_map]
    rfl
  have hst := PolA.EI.start N (en C)
  have b1 : (N : Int) ≤ 1000000000 := by omega
  have b2 : -1000000000 ≤ (N : Int) := by omega
  have hsl : C.length ≤ SL := slLe (by omega)
  refine wp_fn ?_
  have e1 : (C.map rowD).length = N := by rw [List.length_map, hC]
  simp [B_determinant, startE, pLcM, pLcG_app, hsl]
  refine (det_rows C [some (.lst (C.map rowD)), none, none, none, none, none, none, none, none] m (by simp)).mono ?_
  rintro ys m1 ⟨rfl, rfl⟩
  rw [hC]
  have hml : (m ++ C.map fun r => Cell.lst (r.map D.int)).length = m.length + N := by simp [hC]
  have hmat := mat_new m C N hC hr
  have hlen : oLen [.loc (m.length + N)] ((m ++ C.map fun r => Cell.lst (r.map D.int)) ++ [.lst ((List.range' m.length N).map D.loc)]) = some (.int (N : Int)) := by
    rw [seqO_len (l := (List.range' m.length N).map D.loc) (by simp only [seqO, asL, hmat.cell])]
    simp
  rw [hml]
  simp only [List.append_assoc] at hmat hlen
  simp [hlen, b1, b2]
  refine wp_rng (DetI m (m.length + N) N B (PolA.DD N ((List.range N).map fun j i => (en C j i : Rat)))) N ?_ ?_ _ _ ⟨_, C, 1, 1, none, none, none, none, none, rfl, hmat, ⟨_, _, hst⟩, fun j i _ _ _ _ => hb j i, Nat.lt_of_lt_of_le (by decide) (Nat.pow_le_pow_right (by decide) hB0)⟩
  · intro k hk e m2 hI
    refine wpS.toL ?_
    have := det_body hN hB hk hI _ hcast _ rfl
    unfold DTL at this
    exact this
  · rintro e m2 ⟨ids, D, p, s, z4, z5, z6, z7, z8, rfl, hM, ⟨r, G, hE⟩, hbd, hpb⟩
    have hd := hE.done
    rw [hcast] at hd
    have hd := Rat.intCast_inj.1 hd
    unfold DetE
    by_cases h0 : 0 < N
    · have h0' : (0 : Int) < N := by omega
      have hmf : mulFits s p = true := by
        rcases hE.sg with rfl | rfl <;> exact mulF_l (by decide)
      simp [h0, h0', hmf]
      exact ⟨hd.symm, hM.kp⟩
    · obtain rfl : N = 0 := by omega
      simp
      exact ⟨rfl, hM.kp⟩
end Z

set_option maxRecDepth 100000
set_option maxHeartbeats 2000000
set_option autoImplicit false
namespace Z
open PySem PySem.Spec PyProof.Rows L2
open PolA (Po Dv len mono Dom Qt)
theorem wp_lcT {α : Type} {i : Nat} {p : PEF} {e : Ev} {m : Mem} (mk f : α → D) : ∀ (xs : List α), (∀ x ∈ xs, wpE (p (e.set i (some (mk x))) m) fun y m1 => y = f x ∧ m1 = m) → wpE (lcF (.n i) tYesF p e (xs.map mk) m) fun ys m1 => ys = xs.map f ∧ m1 = m
  | [], _ => by rw [List.map_nil, lcF_nil, wpE_ok]; exact ⟨rfl, rfl⟩
  | x :: xs, h => by
    obtain ⟨_, _, e1, rfl, rfl⟩ := (h x (List.mem_cons_self ..)).out
    obtain ⟨_, _, e2, rfl, rfl⟩ := (wp_lcT mk f xs fun y hy => h y (List.mem_cons_of_mem _ hy)).out
    have e3 : tgtE (.n i) (mk x) e = some (e.set i (some (mk x))) := rfl
    rw [List.map_cons, lcF_cons, e3]
    simp only [okE, tYesF, okB, okD, e1, if_true, e2]
    simp
theorem oMul_z (k : Int) (m : Mem) (h : k ≤ 1000) (h' : -1000 ≤ k) : oMul (.lst [.int 0]) (.int k) m = some (.lst ((List.replicate k.toNat (0 : Int)).map D.int)) := by
  unfold oMul
  simp only [asH]
  rw [if_pos ⟨by omega, by omega, slLe (by simp; omega)⟩, List.map_replicate, rep_flat1]
/-- a row of the resultant's square: k noughts, the numbers from the highest, noughts -/
def sylR (f : List Int) (n t k : Nat) : List Int := List.replicate k 0 ++ (f ++ List.replicate (n + 1 - f.length) 0).reverse ++ List.replicate (t - 1 - k) 0
def sylM (f g : List Int) (n m : Nat) : List (List Int) := (List.range m).map (sylR f n m) ++ (List.range n).map (sylR g m n)
theorem sylR_len {f : List Int} {n t k : Nat} (hf : f.length ≤ n + 1) (hk : k < t) : (sylR f n t k).length = n + t := by
  unfold sylR
  simp
  omega
theorem co_rev0 (f : List Int) (n i : Nat) (hf : f.length ≤ n + 1) (hi : i ≤ n) : co (f ++ List.replicate (n + 1 - f.length) 0).reverse i = co f (n - i) := by
  have hl : (f ++ List.replicate (n + 1 - f.length) (0 : Int)).length = n + 1 := by simp; omega
  rw [co_lt (by rw [List.length_reverse, hl]; omega), List.getElem_reverse]
  by_cases h : n - i < f.length
  · have e : (f ++ List.replicate (n + 1 - f.length) (0 : Int)).length - 1 - i = n - i := by omega
    have e2 : ∀ (a b : Nat) (ha : a < (f ++ List.replicate (n + 1 - f.length) (0 : Int)).length) (hb : b < (f ++ List.replicate (n + 1 - f.length) (0 : Int)).length), a = b → (f ++ List.replicate (n + 1 - f.length) (0 : Int))[a] = (f ++ List.replicate (n + 1 - f.length) (0 : Int))[b] := fun a b ha hb e => by subst e; rfl
    rw [e2 _ (n - i) _ (by omega) e, List.getElem_append_left h, co_lt h]
  · rw [List.getElem_append_right (by omega), List.getElem_replicate, co_ge (by omega)]
theorem co_sylR {f : List Int} {n t k : Nat} (hf : f.length ≤ n + 1) (hk : k < t) (i : Nat) (hi : i < n + t) : co (sylR f n t k) i = PolA.pvc (n + t) (PolA.upw (t - 1 - k) (P f)) i := by
  have hu : ∀ j d, (PolA.upw j (P f)).c d = if j ≤ d then co f (d - j) else 0 := by
    intro j
    induction j with
    | zero => intro d; rw [PolA.upw_0, if_pos (Nat.zero_le _), c_P]; rfl
    | succ j ih =>
      intro d
      rw [PolA.upw_s, PolA.c_X_mul]
      by_cases h : d = 0
      · rw [if_pos h, if_neg (by omega)]
      · rw [if_neg h, ih]
        by_cases h2 : j ≤ d - 1
        · rw [if_pos h2, if_pos (by omega), show d - 1 - j = d - (j + 1) by omega]
        · rw [if_neg h2, if_neg (by omega)]
  show _ = if i < n + t then (PolA.upw (t - 1 - k) (P f)).c (n + t - 1 - i) else 0
  rw [if_pos hi, hu]
  have hl : ((f ++ List.replicate (n + 1 - f.length) (0 : Int)).reverse).length = n + 1 := by simp; omega
  unfold sylR
  generalize hG : (f ++ List.replicate (n + 1 - f.length) (0 : Int)).reverse = G at *
  by_cases h1 : i < k
  · rw [List.append_assoc, co_app_l (by simpa using h1)]
    have z : co (List.replicate k (0 : Int)) i = 0 := by rw [co_lt (by simpa using h1), List.getElem_replicate]
    rw [z]
    by_cases h2 : t - 1 - k ≤ n + t - 1 - i
    · rw [if_pos h2, co_ge (by omega)]
    · rw [if_neg h2]
  · rw [List.append_assoc, co_app_r (by simp; omega), List.length_replicate]
    by_cases h2 : i - k < n + 1
    · rw [co_app_l (by omega), ← hG, co_rev0 f n (i - k) hf (by omega), if_pos (by omega)]
      congr 1
      omega
    · rw [co_app_r (by omega), if_neg (by omega), hl]
      by_cases h3 : i - k - (n + 1) < t - 1 - k
      · rw [co_lt (by simpa using h3), List.getElem_replicate]
      · rw [co_ge (by simp; omega)]
theorem rst_det (f g : List Int) (n m : Nat) (hf : f.length ≤ n + 1) (hg : g.length ≤ m + 1) : detI (n + m) (en (sylM f g n m)) = PolA.rst n m (P f) (P g) := by
  unfold detI PolA.rst
  have h := PolA.DD_same (R := Int) (n := n + m) ((List.range (n + m)).map (en (sylM f g n m))) (PolA.dnw (n + m) (P f) m ++ PolA.dnw (n + m) (P g) n) [] (by rw [List.length_map, List.length_range, List.length_append, PolA.dnw_len, PolA.dnw_len]; omega) (by simp) (fun k k1 k2 i hi => by
    rw [List.getElem_map]
    simp only [List.getElem_range]
    rw [List.length_map, List.length_range] at k1
    unfold en sylM
    by_cases hk : k < m
    · have e : ((List.range m).map (sylR f n m) ++ (List.range n).map (sylR g m n)).getD k [] = sylR f n m k := by
        rw [getD_at [] (by simp; omega), List.getElem_append_left (by simpa using hk), List.getElem_map, List.getElem_range]
      rw [e, List.getElem_append_left (by rw [PolA.dnw_len]; exact hk), PolA.dnw_get, co_sylR hf hk i hi]
    · have e : ((List.range m).map (sylR f n m) ++ (List.range n).map (sylR g m n)).getD k [] = sylR g m n (k - m) := by
        rw [getD_at [] (by simp; omega), List.getElem_append_right (by simp; omega), List.getElem_map]
        simp
      rw [e, List.getElem_append_right (by rw [PolA.dnw_len]; omega), PolA.dnw_get, co_sylR hg (by omega) i (by omega)]
      simp only [PolA.dnw_len]
      rw [Nat.add_comm m n])
  rw [List.nil_append, List.nil_append] at h
  exact h
theorem co_in (l : List Int) (i : Nat) : co l i = 0 ∨ co l i ∈ l := by
  by_cases h : i < l.length
  · rw [co_lt h]; exact .inr (List.getElem_mem _)
  · exact .inl (co_ge (by omega))
theorem en_sylM {f g : List Int} {n m B : Nat} (bf : Bd B f) (bg : Bd B g) (j i : Nat) : (en (sylM f g n m) j i).natAbs < 2 ^ B := by
  have key : ∀ (h : List Int) (a t k : Nat), Bd B h → ∀ x ∈ sylR h a t k, x.natAbs < 2 ^ B := by
    intro h a t k bh x hx
    unfold sylR at hx
    rcases List.mem_append.1 hx with hx | hx
    · rcases List.mem_append.1 hx with hx | hx
      · rw [(List.mem_replicate.1 hx).2]; exact Nat.two_pow_pos _
      · rcases List.mem_append.1 (List.mem_reverse.1 hx) with hx | hx
        · exact bh.mem hx
        · rw [(List.mem_replicate.1 hx).2]; exact Nat.two_pow_pos _
    · rw [(List.mem_replicate.1 hx).2]; exact Nat.two_pow_pos _
  unfold en
  rcases co_in ((sylM f g n m).getD j []) i with h | h
  · rw [h]; exact Nat.two_pow_pos _
  · by_cases hj : j < (sylM f g n m).length
    · rw [getD_at [] hj] at h ⊢
      have hm := List.getElem_mem hj
      generalize (sylM f g n m)[j] = r at *
      unfold sylM at hm
      rcases List.mem_append.1 hm with hm | hm
      · obtain ⟨k, _, rfl⟩ := List.mem_map.1 hm
        exact key _ _ _ _ bf _ h
      · obtain ⟨k, _, rfl⟩ := List.mem_map.1 hm
        exact key _ _ _ _ bg _ h
    · have e : (sylM f g n m).getD j [] = [] := by rw [List.getD_eq_getElem?_getD, List.getElem?_eq_none (by omega)]; rfl
      rw [e] at h
      simp at h
theorem oExt_at {m : Mem} {i : Nat} {l r : List D} (h : m[i]? = some (.lst l)) (hl : l.length + r.length ≤ SL) : oExt i (.lst r) m = some (.ok .non (m.set i (.lst (l ++ r)))) := by
  unfold oExt
  simp only [h, asH]
  rw [if_pos hl]
theorem wF_resultant (f g : List Int) (n k : Nat) (m : Mem) {B : Nat} (hf : f.length ≤ n + 1) (hg : g.length ≤ k + 1) (bf : Bd B f) (bg : Bd B g) (hn : n ≤ 100) (hk : k ≤ 100) (hB0 : 1 ≤ B) (hB : bt B (n + k) ≤ 8000) : wpE (F_resultant [.tup (f.map D.int), .tup (g.map D.int), .int (n : Int), .int (k : Int)] m) fun d m1 => d = .int (PolA.rst n k (P f) (P g)) ∧ Keep m m1 := by
  have hrow : ∀ (h : List Int) (a t : Nat) (z : List D) (mm : Mem), h.length ≤ a + 1 → a ≤ 100 → t ≤ 100 → ∀ (j : Int), 0 ≤ j → j < t → oAdd (.lst ((List.replicate j.toNat (0 : Int)).map D.int)) (.lst (((h ++ List.replicate (a + 1 - h.length) 0).reverse).map D.int)) mm = some (.lst ((List.replicate j.toNat (0 : Int) ++ (h ++ List.replicate (a + 1 - h.length) 0).reverse).map D.int)) ∧ oAdd (.lst ((List.replicate j.toNat (0 : Int) ++ (h ++ List.replicate (a + 1 - h.length) 0).reverse).map D.int)) (.lst ((List.replicate ((t : Int) - 1 - j).toNat (0 : Int)).map D.int)) mm = some (rowD (sylR h a t j.toNat)) := by
    intro h a t z mm h1 h2 h3 j j0 j1
    refine ⟨?_, ?_⟩
    · rw [oAdd_lst, if_pos (slLe (by simp; omega)), List.map_append]
    · rw [oAdd_lst, if_pos (slLe (by simp; omega)), ← List.map_append]
      unfold rowD sylR
      rw [show ((t : Int) - 1 - j).toNat = t - 1 - j.toNat by omega]
  have z1 := oMul_z ((n : Int) + 1 - f.length) m (by omega) (by omega)
  have z2 := oMul_z ((k : Int) + 1 - g.length) m (by omega) (by omega)
  have l1 : oList [.tup (f.map D.int)] m = some (.lst (f.map D.int)) := rfl
  have l2 : oList [.tup (g.map D.int)] m = some (.lst (g.map D.int)) := rfl
  have e1 : ((n : Int) + 1 - f.length).toNat = n + 1 - f.length := by omega
  have e2 : ((k : Int) + 1 - g.length).toNat = k + 1 - g.length := by omega
  rw [e1] at z1
  rw [e2] at z2
  have a1 : oAdd (.lst (f.map D.int)) (.lst ((List.replicate (n + 1 - f.length) (0 : Int)).map D.int)) m = some (.lst ((f ++ List.replicate (n + 1 - f.length) 0).map D.int)) := by
    rw [oAdd_lst, if_pos (slLe (by simp; omega)), List.map_append]
  have a2 : oAdd (.lst (g.map D.int)) (.lst ((List.replicate (k + 1 - g.length) (0 : Int)).map D.int)) m = some (.lst ((g ++ List.replicate (k + 1 - g.length) 0).map D.int)) := by
    rw [oAdd_lst, if_pos (slLe (by simp; omega)), List.map_append]
  have b1 : (n : Int) ≤ 1000000000 := by omega
  have b2 : -1000000000 ≤ (n : Int) := by omega
  have b3 : (k : Int) ≤ 1000000000 := by omega
  have b4 : -1000000000 ≤ (k : Int) := by omega
  have hs1 : (intR 0 1 k).length ≤ SL := slLe (by rw [intR_rng, List.length_map, rng_len]; omega)
  have hs2 : (intR 0 1 n).length ≤ SL := slLe (by rw [intR_rng, List.length_map, rng_len]; omega)
  have rv : ∀ (l : List Int) (mm : Mem), oRev (.lst (l.map D.int)) mm = some (.lst (l.reverse.map D.int)) := fun l mm => by
    unfold oRev
    simp only [asL]
    rw [List.map_reverse]
  refine wp_fn ?_
  simp only [B_resultant]
  simp [-List.map_append, -List.map_replicate, startE, l1, l2, z1, z2, a1, a2, pLcM, pLcG_app, b1, b2, b3, b4, hs1]
  rw [intR_rng]
  refine (wp_lcT D.int (fun j => rowD (sylR f n k j.toNat)) (rng 0 k) ?_).mono ?_
  · intro j hj
    have hj := mem_rng.1 hj
    have y1 := oMul_z j m (by omega) (by omega)
    have y2 := oMul_z ((k : Int) - 1 - j) m (by omega) (by omega)
    obtain ⟨w1, w2⟩ := hrow f n k [] m hf hn hk j (by omega) (by omega)
    simp [-List.map_append, -List.map_replicate, -List.map_reverse, -List.reverse_append, rv, y1, y2, w1, w2]
  · rintro ys m1 ⟨rfl, rfl⟩
    have mr : ∀ (h : List Int) (a t : Nat), (rng 0 t).map (fun j => rowD (sylR h a t j.toNat)) = ((List.range t).map (sylR h a t)).map rowD := fun h a t => by
      unfold rng
      rw [List.map_map, List.map_map]
      refine List.map_congr_left fun j _ => ?_
      show rowD (sylR h a t ((0 : Int) + j).toNat) = rowD (sylR h a t j)
      rw [show ((0 : Int) + j).toNat = j by omega]
    rw [mr]
    simp [-List.map_append, -List.map_replicate, -List.map_map, pLc, pLcG_app, b1, b2, b3, b4, hs2]
    rw [intR_rng]
    refine (wp_lcT D.int (fun j => rowD (sylR g k n j.toNat)) (rng 0 n) ?_).mono ?_
    · intro j hj
      have hj := mem_rng.1 hj
      have y1 := oMul_z j (m1 ++ [.lst (((List.range k).map (sylR f n k)).map rowD)]) (by omega) (by omega)
      have y2 := oMul_z ((n : Int) - 1 - j) (m1 ++ [.lst (((List.range k).map (sylR f n k)).map rowD)]) (by omega) (by omega)
      obtain ⟨w1, w2⟩ := hrow g k n [] (m1 ++ [.lst (((List.range k).map (sylR f n k)).map rowD)]) hg hk hn j (by omega) (by omega)
      simp [-List.map_append, -List.map_replicate, -List.map_reverse, -List.reverse_append, -List.map_map, rv, y1, y2, w1, w2]
    · rintro ys m2 ⟨rfl, rfl⟩
      rw [mr]
      have hi : (m1 ++ [Cell.lst (((List.range k).map (sylR f n k)).map rowD)])[m1.length]? = some (.lst (((List.range k).map (sylR f n k)).map rowD)) := by simp
      have hx := oExt_at (r := ((List.range n).map (sylR g k n)).map rowD) hi (slLe (by simp; omega))
      rw [← List.map_append] at hx
      simp [-List.map_append, -List.map_map, hx]
      have hi2 : (m1 ++ [Cell.lst ((sylM f g n k).map rowD)])[m1.length]? = some (.lst ((sylM f g n k).map rowD)) := by simp
      have hfz : frzD (.loc m1.length) (m1 ++ [Cell.lst ((sylM f g n k).map rowD)]) = .ok (.lst ((sylM f g n k).map rowD)) ((m1 ++ [Cell.lst ((sylM f g n k).map rowD)]).set m1.length (.frz ((sylM f g n k).map rowD))) := by
        unfold frzD
        simp only [hi2]
      have eS : (List.range k).map (sylR f n k) ++ (List.range n).map (sylR g k n) = sylM f g n k := rfl
      rw [eS]
      rw [hfz, wpE_ok]
      have hlen : (sylM f g n k).length = n + k := by unfold sylM; simp; omega
      refine (wF_determinant (sylM f g n k) _ (N := n + k) (B := B) hlen (fun r hr => ?_) (fun j i => ?_) (by omega) hB0 hB).mono ?_
      · unfold sylM at hr
        rcases List.mem_append.1 hr with hr | hr
        · obtain ⟨j, hj, rfl⟩ := List.mem_map.1 hr
          exact sylR_len hf (List.mem_range.1 hj)
        · obtain ⟨j, hj, rfl⟩ := List.mem_map.1 hr
          rw [sylR_len hg (List.mem_range.1 hj)]
          omega
      · exact en_sylM bf bg j i
      · rintro _ m3 ⟨rfl, k3⟩
        rw [rst_det f g n k hf hg]
        exact ⟨rfl, ((Keep.push m1 _).set (Nat.le_refl _) _).trans k3⟩
end Z

set_option maxRecDepth 100000
set_option maxHeartbeats 2000000
set_option autoImplicit false
namespace Z
open PySem PySem.Spec PyProof.Rows L2
open PolA (Po Dv len mono Dom Qt)
theorem wF_scaledB (f : List Int) (x : Int) (m : Mem) (d : D) (hd : d = .tup (f.map D.int) ∨ d = .lst (f.map D.int)) (hf : f.length ≤ 100000) (hx : ∀ y ∈ f, mulFits x y = true) : wpE (F_scaled [d, .int x] m) fun r m1 => r = .tup ((psc x f).map D.int) ∧ Keep m m1 := by
  have h3 : f.length ≤ SL := slLe (by omega)
  have key : ∀ e : Ev, e[1]? = some (some (.int x)) → 2 < e.length → wpE (lcF (.n 2) tYesF (pBin oMul (pVar 1) (pVar 2)) e (f.map D.int) m) fun ys m1 => ys = (f.map fun y => x * y).map D.int ∧ m1 = m := by
    intro e h1 h2
    refine (wp_lcI (fun _ => true) (fun y => x * y) f ?_).mono ?_
    · intro y hy
      simp [List.getElem?_set_ne (show (2 : Nat) ≠ 1 by decide), h1, List.getElem?_set_self h2, hx y hy]
    · rintro ys m1 ⟨rfl, rfl⟩
      rw [List.filter_eq_self.2 (fun _ _ => rfl)]
      exact ⟨rfl, rfl⟩
  refine wp_fn ?_
  have fin : ∀ (ys : List D) (m1 : Mem), (ys = (f.map fun y => x * y).map D.int ∧ m1 = m) → wpE (F_trimmed [.lst ys] m1) fun r m2 => r = .tup ((psc x f).map D.int) ∧ Keep m m2 := by
    rintro ys m1 ⟨rfl, rfl⟩
    exact wF_trimmed (xs := f.map fun y => x * y) rfl (by simpa using hf)
  rcases hd with rfl | rfl
  · simp [B_scaled, startE, pLc, pLcG_app, h3]
    exact (key _ rfl (by simp)).mono fin
  · simp [B_scaled, startE, pLc, pLcG_app, h3]
    exact (key _ rfl (by simp)).mono fin
theorem bd_fits {a b : Nat} {x : Int} {f : List Int} (hx : x.natAbs < 2 ^ a) (hf : Bd b f) (ha : a ≤ 300000) (hb : b ≤ 300000) : ∀ y ∈ f, mulFits x y = true := fun y hy =>
  mulF_b (n := max a b) (by omega) (Nat.lt_of_lt_of_le hx (Nat.pow_le_pow_right (by decide) (by omega))) ((hf.up (by omega)).mem hy)
/-! values at 0, 1, 2, ..: differences -/
def evZ : List Int → Int → Int
  | [], _ => 0
  | a :: f, x => a + x * evZ f x
theorem ev_P : ∀ (f : List Int) (x : Int), PolA.ev (P f) x = evZ f x
  | [], x => by rw [P_nil, PolA.ev_0]; rfl
  | a :: f, x => by
    have e : P (a :: f) = Po.C a + Po.X * P f := Po.ext fun k => by
      rw [PolA.c_add, PolA.c_C, PolA.c_X_mul, c_P]
      match k with
      | 0 => show a = a + 0; omega
      | k + 1 => show co f k = 0 + (P f).c (k + 1 - 1); rw [Nat.add_sub_cancel, c_P]; omega
    rw [e, PolA.ev_add, PolA.ev_C, PolA.ev_mul, PolA.ev_X, ev_P f x]; rfl
theorem evZ_pmul (f g : List Int) (x : Int) : evZ (pmul f g) x = evZ f x * evZ g x := by
  rw [← ev_P, P_pmul, PolA.ev_mul, ev_P, ev_P]
theorem evZ_padd (f g : List Int) (x : Int) : evZ (padd f g) x = evZ f x + evZ g x := by
  rw [← ev_P, P_padd, PolA.ev_add, ev_P, ev_P]
theorem evZ_psc (a : Int) (f : List Int) (x : Int) : evZ (psc a f) x = a * evZ f x := by
  rw [← ev_P, P_psc, PolA.ev_mul, PolA.ev_C, ev_P]
def bnm : Nat → Nat → Int
  | _, 0 => 1
  | 0, _ + 1 => 0
  | j + 1, t + 1 => bnm j (t + 1) + bnm j t
theorem bnm_abs : ∀ (j t : Nat), bnm j t * ((j : Int) - t) = ((t : Int) + 1) * bnm j (t + 1)
  | 0, 0 => by simp [bnm]
  | 0, t + 1 => by simp [bnm]
  | j + 1, 0 => by
    have h := bnm_abs j 0
    simp only [bnm] at h ⊢
    have e : ((j + 1 : Nat) : Int) = (j : Int) + 1 := by omega
    rw [e]
    grind
  | j + 1, t + 1 => by
    have h1 := bnm_abs j (t + 1)
    have h2 := bnm_abs j t
    simp only [bnm] at h1 h2 ⊢
    have e : ((j + 1 : Nat) : Int) = (j : Int) + 1 := by omega
    have e2 : ((t + 1 : Nat) : Int) = (t : Int) + 1 := by omega
    rw [e2] at h1
    rw [e, e2]
    grind
def dlt (u : Nat → Int) : Nat → Int := fun i => u (i + 1) - u i
def dltN : Nat → (Nat → Int) → Nat → Int
  | 0, u => u
  | k + 1, u => dltN k (dlt u)
theorem dltN_s (k : Nat) (u : Nat → Int) : dltN (k + 1) u = dlt (dltN k u) := by
  induction k generalizing u with
  | zero => rfl
  | succ k ih => exact ih (dlt u)
def nwt (u : Nat → Int) (j : Nat) : Nat → Int
  | 0 => 0
  | k + 1 => nwt u j k + bnm j k * dltN k u 0
theorem nwt_step (u : Nat → Int) (j : Nat) : ∀ k, nwt u (j + 1) (k + 1) = nwt u j (k + 1) + nwt (dlt u) j k
  | 0 => by show 0 + 1 * u 0 = 0 + bnm j 0 * u 0 + 0; simp [bnm]
  | k + 1 => by
    have ih := nwt_step u j k
    show nwt u (j + 1) (k + 1) + bnm (j + 1) (k + 1) * dltN (k + 1) u 0 = nwt u j (k + 1) + bnm j (k + 1) * dltN (k + 1) u 0 + (nwt (dlt u) j k + bnm j k * dltN k (dlt u) 0)
    rw [ih]
    have : dltN k (dlt u) 0 = dltN (k + 1) u 0 := rfl
    rw [this]
    show _ + (bnm j (k + 1) + bnm j k) * _ = _
    grind
theorem nwt_all : ∀ (j k : Nat) (u : Nat → Int), j < k → nwt u j k = u j
  | 0, k + 1, u, _ => by
    have key : ∀ k, nwt u 0 (k + 1) = u 0 := by
      intro k
      induction k with
      | zero => show 0 + 1 * u 0 = u 0; omega
      | succ k ih =>
        show nwt u 0 (k + 1) + bnm 0 (k + 1) * _ = _
        rw [ih]
        show u 0 + 0 * _ = u 0
        omega
    exact key k
  | j + 1, k + 1, u, h => by
    rw [nwt_step, nwt_all j (k + 1) u (by omega), nwt_all j k (dlt u) (by omega)]
    show u j + (u (j + 1) - u j) = u (j + 1)
    omega
def mx1 (k : Nat) : Int := if k = 0 then 1 else k
def fctI : Nat → Int
  | 0 => 1
  | k + 1 => (k + 1 : Nat) * fctI k
def szN : Nat → Int
  | 0 => 1
  | k + 1 => szN k * mx1 k
theorem szN_fct : ∀ k, mx1 k * szN k = fctI k
  | 0 => rfl
  | k + 1 => by
    show mx1 (k + 1) * (szN k * mx1 k) = (k + 1 : Nat) * fctI k
    have := szN_fct k
    rw [Int.mul_comm (szN k)]
    rw [this]
    unfold mx1
    rw [if_neg (by omega)]
def stN : Nat → List Int
  | 0 => [1]
  | k + 1 => pmul (stN k) [-(k : Int), 1]
theorem stN_ev (j : Nat) : ∀ k, evZ (stN k) (j : Int) = fctI k * bnm j k
  | 0 => by
    have : bnm j 0 = 1 := by cases j <;> rfl
    rw [this]
    show (1 : Int) + j * 0 = 1 * 1
    omega
  | k + 1 => by
    show evZ (pmul (stN k) [-(k : Int), 1]) j = _
    rw [evZ_pmul, stN_ev j k]
    have h := bnm_abs j k
    show fctI k * bnm j k * (-(k : Int) + j * (1 + j * 0)) = ((k + 1 : Nat) : Int) * fctI k * bnm j (k + 1)
    have e : ((k + 1 : Nat) : Int) = (k : Int) + 1 := by omega
    rw [e]
    grind
def fnN (u : Nat → Int) : Nat → List Int
  | 0 => []
  | k + 1 => padd (psc (mx1 k) (fnN u k)) (psc (dltN k u 0) (stN k))
theorem fnN_ev (u : Nat → Int) (j : Nat) : ∀ k, evZ (fnN u k) (j : Int) = szN k * nwt u j k
  | 0 => by show (0 : Int) = 1 * 0; omega
  | k + 1 => by
    show evZ (padd _ _) j = szN k * mx1 k * (nwt u j k + bnm j k * dltN k u 0)
    rw [evZ_padd, evZ_psc, evZ_psc, fnN_ev u j k, stN_ev, ← szN_fct]
    grind
theorem stN_trim : ∀ k, trim (stN k) = stN k
  | 0 => by decide
  | k + 1 => pmul_trim _ _
theorem stN_len : ∀ k, (stN k).length ≤ k + 1
  | 0 => by simp [stN]
  | k + 1 => by
    have ih := stN_len k
    by_cases h : stN k = []
    · show (pmul (stN k) _).length ≤ _
      have e : pmul (stN k) [-(k : Int), 1] = [] := P_inj (pmul_trim _ _) rfl (by rw [P_pmul, h, P_nil]; grind)
      rw [e]; simp
    · show (pmul (stN k) _).length ≤ _
      rw [pmul_length h (by simp) (stN_trim k) (trim_of_last fun _ => by show (1 : Int) ≠ 0; decide)]
      simp
      omega
theorem fnN_trim (u : Nat → Int) : ∀ k, trim (fnN u k) = fnN u k
  | 0 => rfl
  | k + 1 => padd_trim _ _
theorem fnN_len (u : Nat → Int) : ∀ k, (fnN u k).length ≤ k
  | 0 => by simp [fnN]
  | k + 1 => by
    have ih := fnN_len u k
    have h1 := padd_len (psc (mx1 k) (fnN u k)) (psc (dltN k u 0) (stN k))
    have h2 := psc_len (mx1 k) (fnN u k)
    have h3 := psc_len (dltN k u 0) (stN k)
    have h4 := stN_len k
    show (padd _ _).length ≤ _
    omega
/-- what agrees at as many places as numbers is the same -/
theorem agree {f g : List Int} {n : Nat} (tf : trim f = f) (tg : trim g = g) (hf : f.length ≤ n) (hg : g.length ≤ n) (h : ∀ j : Nat, j < n → evZ f j = evZ g j) : f = g := by
  refine P_inj tf tg (Classical.byContradiction fun hne => ?_)
  have h0 : P f - P g ≠ 0 := fun e => hne (by
    have : P f = (P f - P g) + P g := by grind
    rw [this, e]; grind)
  have hl : len (P f - P g) ≤ n := PolA.len_le.2 fun k hk => by rw [PolA.c_sub, c_P, c_P, co_ge (by omega), co_ge (by omega)]; rfl
  have hnd : ((List.range n).map fun j : Nat => (j : Int)).Nodup := PolA.nodup_map (fun a _ b _ e => by omega) List.nodup_range
  have := PolA.roots_le h0 hnd (fun a ha => by
    obtain ⟨j, hj, rfl⟩ := List.mem_map.1 ha
    rw [PolA.ev_sub, ev_P, ev_P, h j (List.mem_range.1 hj)]; grind)
  simp at this
  omega
theorem interp {h : List Int} {n : Nat} (th : trim h = h) (hl : h.length ≤ n) {u : Nat → Int} (hu : ∀ j : Nat, j < n → u j = evZ h j) : fnN u n = psc (szN n) h := by
  refine agree (fnN_trim u n) (psc_trim _ _) (fnN_len u n) (Nat.le_trans (psc_len _ _) hl) fun j hj => ?_
  rw [fnN_ev, nwt_all j n u hj, evZ_psc, hu j hj]
theorem szN_pos : ∀ k, 0 < szN k
  | 0 => by decide
  | k + 1 => Int.mul_pos (szN_pos k) (by unfold mx1; split <;> omega)
theorem mx1_bd {k : Nat} (hk : k ≤ 31) : (mx1 k).natAbs < 2 ^ 5 := by unfold mx1; split <;> omega
theorem szN_bd : ∀ k, k ≤ 32 → (szN k).natAbs < 2 ^ (5 * k + 1)
  | 0, _ => by decide
  | k + 1, h => by
    have h1 := szN_bd k (by omega)
    have h2 := mx1_bd (k := k) (by omega)
    have := mul_bits h1 h2
    show (szN k * mx1 k).natAbs < _
    rw [show 5 * (k + 1) + 1 = 5 * k + 1 + 5 by omega]
    exact this
theorem stN_bd : ∀ k, k ≤ 32 → Bd (6 * k + 1) (stN k)
  | 0, _ => fun k => by
    match k with
    | 0 => decide
    | k + 1 => show (co [1] (k + 1)).natAbs < _; rw [co_ge (by simp)]; decide
  | k + 1, h => fun t => by
    have ih := stN_bd k (by omega)
    have e : P (stN (k + 1)) = Po.C (-(k : Int)) * P (stN k) + Po.X * P (stN k) := by
      show P (pmul _ _) = _
      rw [P_pmul]
      have e2 : P [-(k : Int), 1] = Po.C (-(k : Int)) + Po.X := Po.ext fun t => by
        rw [PolA.c_add, PolA.c_C, c_P]
        unfold Po.X
        rw [PolA.c_mono]
        match t with
        | 0 => show -(k : Int) = -(k : Int) + 0; omega
        | 1 => rfl
        | t + 2 => show co [-(k : Int), 1] (t + 2) = _; rw [co_ge (by simp), if_neg (by omega), if_neg (by omega)]; rfl
      rw [e2]; grind
    have e3 := congrArg (fun p => Po.c p t) e
    simp only [PolA.c_add, PolA.c_Cmul, PolA.c_X_mul, c_P] at e3
    rw [e3]
    have h1 := ih t
    have h2 : (if t = 0 then 0 else co (stN k) (t - 1)).natAbs < 2 ^ (6 * k + 1) := by
      split
      · exact Nat.two_pow_pos _
      · exact ih _
    have h3 := mul_bits (show (-(k : Int)).natAbs < 2 ^ 5 by omega) h1
    rw [show 6 * (k + 1) + 1 = 5 + (6 * k + 1) + 1 by omega, Nat.pow_succ]
    have h4 : 2 ^ (6 * k + 1) ≤ 2 ^ (5 + (6 * k + 1)) := Nat.pow_le_pow_right (by decide) (by omega)
    omega
theorem dltN_bd {u : Nat → Int} {L n : Nat} (hu : ∀ j, j < n → (u j).natAbs < 2 ^ L) : ∀ k i, i + k < n → (dltN k u i).natAbs < 2 ^ (L + k)
  | 0, i, h => hu i h
  | k + 1, i, h => by
    rw [dltN_s]
    have h1 := dltN_bd hu k i (by omega)
    have h2 := dltN_bd hu k (i + 1) (by omega)
    show (dltN k u (i + 1) - dltN k u i).natAbs < _
    rw [show L + (k + 1) = L + k + 1 by omega, Nat.pow_succ]
    omega
theorem fnN_bd {u : Nat → Int} {L n : Nat} (hn : n ≤ 32) (hu : ∀ j, j < n → (u j).natAbs < 2 ^ L) : ∀ k, k ≤ n → Bd (L + 8 * k + 1) (fnN u k)
  | 0, _ => fun t => by show (0 : Int).natAbs < _; exact Nat.two_pow_pos _
  | k + 1, h => by
    have ih := fnN_bd hn hu k (by omega)
    have h1 := Bd.sc (mx1_bd (k := k) (by omega)) ih
    have h2 := Bd.sc (dltN_bd hu k 0 (by omega)) (stN_bd k (by omega))
    exact (Bd.add (h1.up (show 5 + (L + 8 * k + 1) ≤ L + 8 * k + 8 by omega)) (h2.up (show L + k + (6 * k + 1) ≤ L + 8 * k + 8 by omega))).up (by omega)
end Z

set_option maxRecDepth 100000
set_option maxHeartbeats 2000000
set_option autoImplicit false
namespace Z
open PySem PySem.Spec PyProof.Rows L2
open PolA (Po Dv len mono Dom Qt)
def dlL (u : Nat → Int) (n k : Nat) : List Int := (List.range (n - k)).map fun i => dltN k u i
def TvI (vs : List Int) (u : Nat → Int) (n : Nat) (m : Mem) (k : Nat) (e : Ev) (m1 : Mem) : Prop := ∃ z5 z6 z7, e = [some (.lst (vs.map D.int)), some (.tup ((fnN u k).map D.int)), some (.tup ((stN k).map D.int)), some (.lst ((dlL u n k).map D.int)), some (.int (szN k)), z5, z6, z7] ∧ Keep m m1
theorem wF_through (vs : List Int) (m : Mem) {L : Nat} (hn : vs.length ≤ 32) (hL : L ≤ 3000) (hb : ∀ x ∈ vs, x.natAbs < 2 ^ L) {h : List Int} (th : trim h = h) (hl : h.length ≤ vs.length) (hv : ∀ j : Nat, j < vs.length → co vs j = evZ h j) : wpE (F_through_values [.lst (vs.map D.int)] m) fun d m1 => d = .tup (h.map D.int) ∧ Keep m m1 := by
  have hu : ∀ j, j < vs.length → (co vs j).natAbs < 2 ^ L := fun j hj => by rw [co_lt hj]; exact hb _ (List.getElem_mem _)
  generalize huu : (fun j => co vs j) = u at *
  have hu : ∀ j, j < vs.length → (u j).natAbs < 2 ^ L := fun j hj => by rw [← huu]; exact hu j hj
  have hv : ∀ j : Nat, j < vs.length → u j = evZ h j := fun j hj => by rw [← huu]; exact hv j hj
  have b1 : (vs.length : Int) ≤ 1000000000 := by omega
  have b2 : -1000000000 ≤ (vs.length : Int) := by omega
  have l1 : oList [.lst (vs.map D.int)] m = some (.lst (vs.map D.int)) := rfl
  have e0 : vs = dlL u vs.length 0 := by
    unfold dlL
    refine List.ext_getElem (by simp) fun i h1 h2 => ?_
    rw [List.getElem_map, List.getElem_range, ← huu]
    show vs[i] = co vs i
    rw [co_lt h1]
  generalize hN : vs.length = n at *
  have fin : ∀ z5 z6 z7 (m1 : Mem), Keep m m1 → wpE (pApp F_trimmed 1 (pCons (pLc [7] (iSeq (pVar 1)) (.n 7) tYesF (pBin oDiv (pVar 7) (pVar 4))) pNil) [some (.lst (vs.map D.int)), some (.tup ((fnN u n).map D.int)), some (.tup ((stN n).map D.int)), some (.lst ((dlL u n n).map D.int)), some (.int (szN n)), z5, z6, z7] m1) fun d m1 => d = .tup (h.map D.int) ∧ Keep m m1 := by
    intro z5 z6 z7 m1 k1
    rw [interp th hl hv]
    have sp := szN_pos n
    have hdv : divFits (szN n) = true := divF (n := 5 * n + 1) (by omega) (by omega) (szN_bd n hn)
    have hpl := psc_len (szN n) h
    have hsl : (psc (szN n) h).length ≤ SL := slLe (by omega)
    simp [pLc, pLcG_app, hsl]
    refine (wp_lcI (fun _ => true) (fun y => y.fdiv (szN n)) (psc (szN n) h) ?_).mono ?_
    · intro y hy
      simp [hdv]
    · rintro ys m2 ⟨rfl, rfl⟩
      rw [List.filter_eq_self.2 (fun _ _ => rfl)]
      have ed : (psc (szN n) h).map (fun y => y.fdiv (szN n)) = h := by
        have e1 := (lead_psc (d := szN n) (by omega) th).2
        refine List.ext_getElem (by simp [e1]) fun i h1 h2 => ?_
        rw [List.getElem_map, ← co_lt (by simpa using h1), co_psc, Int.mul_fdiv_cancel_left _ (by omega), co_lt h2]
      rw [ed]
      refine (wF_trimmed (d := .lst _) (xs := h) rfl (by omega)).mono ?_
      rintro _ m3 ⟨rfl, k3⟩
      rw [th]
      exact ⟨rfl, k1.trans k3⟩
  refine wp_fn ?_
  simp [B_through_values, startE, l1, b1, b2, hN]
  refine wp_rng (TvI vs u n m) n ?_ ?_ _ _ ⟨none, none, none, by rw [← e0]; rfl, Keep.refl m⟩
  · rintro k hk e m1 ⟨z5, z6, z7, rfl, hk1⟩
    have hmx : (if (1 : Int) > (k : Int) then (1 : Int) else (k : Int)) = mx1 k := by
      unfold mx1
      by_cases h : k = 0
      · subst h; rfl
      · rw [if_neg (by omega), if_neg h]
    have bf := fnN_bd hn hu k (by omega)
    have bs := stN_bd k (by omega)
    have fl := fnN_len u k
    have sl := stN_len k
    have hd0 := dltN_bd hu k 0 (by omega)
    have hll : (dlL u n k).length = n - k := by unfold dlL; simp
    have a0 : atI ((dlL u n k).map D.int) 0 = some (.int (dltN k u 0)) := by
      rw [show (0 : Int) = ((0 : Nat) : Int) by rfl, atI_of_nat, List.getElem?_map, List.getElem?_eq_getElem (by omega)]
      unfold dlL
      rw [List.getElem_map, List.getElem_range]; rfl
    have s1 : mulFits (szN k) (mx1 k) = true := mulF_b (n := 5 * k + 1 + 5) (by omega) (Nat.lt_of_lt_of_le (szN_bd k (by omega)) (Nat.pow_le_pow_right (by decide) (by omega))) (Nat.lt_of_lt_of_le (mx1_bd (by omega)) (Nat.pow_le_pow_right (by decide) (by omega)))
    refine wpS.toL ?_
    simp [a0, hmx]
    refine (wF_scaledB (fnN u k) (mx1 k) m1 _ (.inl rfl) (by omega) (bd_fits (mx1_bd (by omega)) bf (by omega) (by omega))).mono ?_
    rintro _ m2 ⟨rfl, k2⟩
    refine (wF_scaledB (stN k) (dltN k u 0) m2 _ (.inl rfl) (by omega) (bd_fits hd0 bs (by omega) (by omega))).mono ?_
    rintro _ m3 ⟨rfl, k3⟩
    have p1 := psc_len (mx1 k) (fnN u k)
    have p2 := psc_len (dltN k u 0) (stN k)
    refine (wF_add (psc (mx1 k) (fnN u k)) (psc (dltN k u 0) (stN k)) m3 (by omega) (by omega)).mono ?_
    rintro _ m4 ⟨rfl, k4⟩
    have c1 : ((dlL u n k).length : Int) - 1 ≤ 1000000000 := by omega
    have c2 : -1000000000 ≤ ((dlL u n k).length : Int) - 1 := by omega
    have c3 : (((dlL u n k).length : Int) - 1).toNat = n - (k + 1) := by omega
    have c4 : (intR 0 1 (n - (k + 1))).length ≤ SL := slLe (by rw [intR_rng, List.length_map, rng_len]; omega)
    simp [pLc, pLcG_app, c1, c2, c3, c4]
    rw [intR_rng]
    refine (wp_lcI (fun _ => true) (fun j => dltN (k + 1) u j.toNat) (rng 0 (n - (k + 1))) ?_).mono ?_
    · intro j hj
      have hj := mem_rng.1 hj
      obtain ⟨i, rfl⟩ := Int.eq_ofNat_of_zero_le hj.1
      have g : ∀ t, t < n - k → atI ((dlL u n k).map D.int) (t : Int) = some (.int (dltN k u t)) := fun t ht => by
        rw [atI_of_nat, List.getElem?_map, List.getElem?_eq_getElem (by omega)]
        unfold dlL
        rw [List.getElem_map, List.getElem_range]; rfl
      have g1 := g i (by omega)
      have g2 : atI ((dlL u n k).map D.int) ((i : Int) + 1) = some (.int (dltN k u (i + 1))) := by
        have := g (i + 1) (by omega)
        rwa [show ((i + 1 : Nat) : Int) = (i : Int) + 1 by omega] at this
      simp [g1, g2, dltN_s, dlt]
    · rintro ys m5 ⟨rfl, rfl⟩
      rw [List.filter_eq_self.2 (fun _ _ => rfl)]
      have ed : (rng 0 (n - (k + 1))).map (fun j => dltN (k + 1) u j.toNat) = dlL u n (k + 1) := by
        unfold rng dlL
        rw [List.map_map]
        refine List.map_congr_left fun i _ => ?_
        show dltN (k + 1) u ((0 : Int) + i).toNat = _
        rw [show ((0 : Int) + i).toNat = i by omega]
      rw [ed]
      have bk : Bd 6 [-(k : Int), 1] := fun t => by
        match t with
        | 0 => show (-(k : Int)).natAbs < 64; omega
        | 1 => show (1 : Int).natAbs < 64; omega
        | t + 2 => rw [co_ge (by simp)]; decide
      trace_state
      refine (wF_multiply (stN k) [-(k : Int), 1] m5 (by omega) (by simp) bs bk (by omega) (by decide)).mono ?_
      rintro _ m6 ⟨rfl, k6⟩
      simp [hmx, s1]
      exact ⟨_, _, _, rfl, hk1.trans (k2.trans (k3.trans (k4.trans k6)))⟩
  · rintro e m1 ⟨z5, z6, z7, rfl, hk1⟩
    have := fin z5 z6 z7 m1 hk1
    simpa using this
end Z

set_option maxRecDepth 100000
set_option maxHeartbeats 2000000
set_option autoImplicit false
namespace Z
open PySem PySem.Spec PyProof.Rows L2
open PolA (Po Dv len mono Dom Qt)
def ordL0 : List (List Int × Int) := [([], 0)]
theorem ord0 (m : Mem) : F__law_m_orders [.int 0] m = some (.ok (.lst (ordL0.map fun o => .tup (o.1.map D.int))) m) := by rfl
theorem odd0 (m : Mem) : ∀ o ∈ ordL0, F__law_m_odd [.tup (o.1.map D.int)] m = some (.ok (.int o.2) m) := by
  unfold ordL0
  simp only [List.forall_mem_cons]
  refine ⟨rfl, by simp⟩
def ordL1 : List (List Int × Int) := [([0], 0)]
theorem ord1 (m : Mem) : F__law_m_orders [.int 1] m = some (.ok (.lst (ordL1.map fun o => .tup (o.1.map D.int))) m) := by rfl
theorem odd1 (m : Mem) : ∀ o ∈ ordL1, F__law_m_odd [.tup (o.1.map D.int)] m = some (.ok (.int o.2) m) := by
  unfold ordL1
  simp only [List.forall_mem_cons]
  refine ⟨rfl, by simp⟩
def ordL2 : List (List Int × Int) := [([0, 1], 0), ([1, 0], 1)]
theorem ord2 (m : Mem) : F__law_m_orders [.int 2] m = some (.ok (.lst (ordL2.map fun o => .tup (o.1.map D.int))) m) := by rfl
theorem odd2 (m : Mem) : ∀ o ∈ ordL2, F__law_m_odd [.tup (o.1.map D.int)] m = some (.ok (.int o.2) m) := by
  unfold ordL2
  simp only [List.forall_mem_cons]
  refine ⟨rfl, rfl, by simp⟩
def ordL3 : List (List Int × Int) := [([0, 1, 2], 0), ([0, 2, 1], 1), ([1, 0, 2], 1), ([1, 2, 0], 0), ([2, 0, 1], 0), ([2, 1, 0], 1)]
theorem ord3 (m : Mem) : F__law_m_orders [.int 3] m = some (.ok (.lst (ordL3.map fun o => .tup (o.1.map D.int))) m) := by rfl
theorem odd3 (m : Mem) : ∀ o ∈ ordL3, F__law_m_odd [.tup (o.1.map D.int)] m = some (.ok (.int o.2) m) := by
  unfold ordL3
  simp only [List.forall_mem_cons]
  refine ⟨rfl, rfl, rfl, rfl, rfl, rfl, by simp⟩
def ordL4 : List (List Int × Int) := [([0, 1, 2, 3], 0), ([0, 1, 3, 2], 1), ([0, 2, 1, 3], 1), ([0, 2, 3, 1], 0), ([0, 3, 1, 2], 0), ([0, 3, 2, 1], 1), ([1, 0, 2, 3], 1), ([1, 0, 3, 2], 0), ([1, 2, 0, 3], 0), ([1, 2, 3, 0], 1), ([1, 3, 0, 2], 1), ([1, 3, 2, 0], 0), ([2, 0, 1, 3], 0), ([2, 0, 3, 1], 1), ([2, 1, 0, 3], 1), ([2, 1, 3, 0], 0), ([2, 3, 0, 1], 0), ([2, 3, 1, 0], 1), ([3, 0, 1, 2], 1), ([3, 0, 2, 1], 0), ([3, 1, 0, 2], 0), ([3, 1, 2, 0], 1), ([3, 2, 0, 1], 1), ([3, 2, 1, 0], 0)]
theorem ord4 (m : Mem) : F__law_m_orders [.int 4] m = some (.ok (.lst (ordL4.map fun o => .tup (o.1.map D.int))) m) := by rfl
theorem odd4 (m : Mem) : ∀ o ∈ ordL4, F__law_m_odd [.tup (o.1.map D.int)] m = some (.ok (.int o.2) m) := by
  unfold ordL4
  simp only [List.forall_mem_cons]
  refine ⟨rfl, rfl, rfl, rfl, rfl, rfl, rfl, rfl, rfl, rfl, rfl, rfl, rfl, rfl, rfl, rfl, rfl, rfl, rfl, rfl, rfl, rfl, rfl, rfl, by simp⟩
end Z

set_option maxRecDepth 100000
set_option maxHeartbeats 2000000
set_option autoImplicit false
namespace Z
open PySem PySem.Spec PyProof.Rows L2
open PolA (Po Dv len mono Dom Qt)
def prT (C : List (List Int)) (o : List Int) (s : Int) : Nat → Int
  | 0 => s
  | j + 1 => prT C o s j * en C j (co o j).toNat
def sgT (z : Int) : Int := if z = 0 then 1 else -1
def smT (C : List (List Int)) (n : Nat) : List (List Int × Int) → Int → Int
  | [], t => t
  | o :: l, t => smT C n l (t + prT C o.1 (sgT o.2) n)
theorem smT_ok (C : List (List Int)) : smT C 0 ordL0 0 = detI 0 (en C) ∧ smT C 1 ordL1 0 = detI 1 (en C) ∧ smT C 2 ordL2 0 = detI 2 (en C) ∧ smT C 3 ordL3 0 = detI 3 (en C) ∧ smT C 4 ordL4 0 = detI 4 (en C) := by
  refine ⟨?_, ?_, ?_, ?_, ?_⟩
  · simp [ordL0, smT, prT, sgT, detI, PolA.DD]
  · simp [ordL1, smT, prT, sgT, detI, PolA.DD, PolA.exD, PolA.tlv, List.range_succ, co]
  · simp [ordL2, smT, prT, sgT, detI, PolA.DD, PolA.exD, PolA.tlv, List.range_succ, co]
    grind
  · simp [ordL3, smT, prT, sgT, detI, PolA.DD, PolA.exD, PolA.tlv, List.range_succ, co]
    grind
  · simp [ordL4, smT, prT, sgT, detI, PolA.DD, PolA.exD, PolA.tlv, List.range_succ, co]
    grind
end Z

set_option maxRecDepth 100000
set_option maxHeartbeats 2000000
set_option autoImplicit false
namespace Z
open PySem PySem.Spec PyProof.Rows L2
open PolA (Po Dv len mono Dom Qt)
def T_law_19 : PSF := (sRet (pAndV (pApp (F__law_equal (20)) 2 (pCons (pApp F_through_values 1 (pCons (pVar 20) pNil)) (pCons (pVar 18) pNil))) (pBin oEq (pApp F_through_values 1 (pCons (pLst pNil) pNil)) (pTup pNil))))
def T_law_18 : PSF := (sSeq (sSet 20 (pLc [21] (iR1 (pCons (pVar 19) pNil)) (.n 21) tYesF (pBin oIx (pApp F__law_m_val 2 (pCons (pVar 18) (pCons (pTup (pCons (pVar 21) (pCons (pC (.int 1)) pNil))) pNil))) (pC (.int 0))))) T_law_19)
def T_law_17 : PSF := (sSeq (sSet 19 (pBin oAdd (pCall oLen (pCons (pVar 17) pNil)) (pApp F__law_pick 2 (pCons (pVar 1) (pCons (pC (.int 2)) pNil))))) T_law_18)
def T_law_16 : PSF := (sSeq (sSet 18 (pApp F__law_m_trim 1 (pCons (pVar 17) pNil))) T_law_17)
def T_law_15 : PSF := (sSeq (sSet 17 (pLc [21] (iR1 (pCons (pApp F__law_pick 2 (pCons (pVar 1) (pCons (pC (.int 5)) pNil))) pNil)) (.n 21) tYesF (pBin oSub2 (pApp F__law_pick 2 (pCons (pVar 1) (pCons (pC (.int 19)) pNil))) (pC (.int 9))))) T_law_16)
def T_law_14 : PSF := (sSeq (sIf (pNotT (pTru (pApp (F__law_equal (20)) 2 (pCons (pApp F_resultant 4 (pCons (pVar 12) (pCons (pVar 13) (pCons (pCall oLen (pCons (pVar 8) pNil)) (pCons (pCall oLen (pCons (pVar 9) pNil)) pNil))))) (pCons (pVar 14) pNil))))) (sRet (pC (.bl false))) sNop) T_law_15)
def T_law_13 : PSF := (sSeq (sFor (iSeq (pVar 9)) (gN 16) (sSet 14 (pBin oMul (pVar 14) (pVar 10)))) T_law_14)
def T_law_12 : PSF := (sSeq (sFor (iSeq (pVar 8)) (gN 15) (sSeq (sSet 14 (pBin oMul (pVar 14) (pVar 11)))
  (sFor (iSeq (pVar 9)) (gN 16) (sSet 14 (pBin oMul (pVar 14) (pBin oSub2 (pVar 15) (pVar 16))))))) T_law_13)
def T_law_11 : PSF := (sSeq (sSet 14 (pC (.int 1))) T_law_12)
def T_law_10 : PSF := (sSeq (sSet 13 (pApp F__law_m_scale 2 (pCons (pApp F__law_m_all 1 (pCons (pLc [15] (iSeq (pVar 9)) (.n 15) tYesF (pTup (pCons (pUn oNeg (pVar 15)) (pCons (pC (.int 1)) pNil)))) pNil)) (pCons (pVar 11) pNil)))) T_law_11)
def T_law_9 : PSF := (sSeq (sSet 12 (pApp F__law_m_scale 2 (pCons (pApp F__law_m_all 1 (pCons (pLc [15] (iSeq (pVar 8)) (.n 15) tYesF (pTup (pCons (pUn oNeg (pVar 15)) (pCons (pC (.int 1)) pNil)))) pNil)) (pCons (pVar 10) pNil)))) T_law_10)
def T_law_8 : PSF := (sSeq (sPar [10, 11] (pCons (pBin oAdd (pC (.int 1)) (pApp F__law_pick 2 (pCons (pVar 1) (pCons (pC (.int 3)) pNil)))) (pCons (pBin oIx (pLst (pCons (pUn oNeg (pC (.int 2))) (pCons (pUn oNeg (pC (.int 1))) (pCons (pC (.int 1)) (pCons (pC (.int 3)) pNil))))) (pApp F__law_pick 2 (pCons (pVar 1) (pCons (pC (.int 4)) pNil)))) pNil))) T_law_9)
def T_law_7 : PSF := (sSeq (sPar [8, 9] (pCons (pLc [21] (iR1 (pCons (pApp F__law_pick 2 (pCons (pVar 1) (pCons (pC (.int 4)) pNil))) pNil)) (.n 21) tYesF (pBin oSub2 (pApp F__law_pick 2 (pCons (pVar 1) (pCons (pC (.int 9)) pNil))) (pC (.int 4)))) (pCons (pLc [21] (iR1 (pCons (pApp F__law_pick 2 (pCons (pVar 1) (pCons (pC (.int 4)) pNil))) pNil)) (.n 21) tYesF (pBin oSub2 (pApp F__law_pick 2 (pCons (pVar 1) (pCons (pC (.int 9)) pNil))) (pC (.int 4)))) pNil))) T_law_8)
def T_law_6 : PSF := (sSeq (sIf (pNotT (pTru (pApp (F__law_equal (20)) 2 (pCons (pApp F_determinant 1 (pCons (pFrz (pVar 3)) pNil)) (pCons (pVar 4) pNil))))) (sRet (pC (.bl false))) sNop) T_law_7)
def T_law_5 : PSF := (sSeq (sFor (iSeq (pApp F__law_m_orders 1 (pCons (pVar 2) pNil))) (gN 5) (sSeq (sSet 6 (pBin oIx (pLst (pCons (pC (.int 1)) (pCons (pUn oNeg (pC (.int 1))) pNil))) (pApp F__law_m_odd 1 (pCons (pVar 5) pNil))))
  (sSeq (sFor (iR1 (pCons (pVar 2) pNil)) (gN 7) (sSet 6 (pBin oMul (pVar 6) (pBin oIx (pBin oIx (pVar 3) (pVar 7)) (pBin oIx (pVar 5) (pVar 7))))))
  (sSet 4 (pBin oAdd (pVar 4) (pVar 6)))))) T_law_6)
def T_law_4 : PSF := (sSeq (sSet 4 (pC (.int 0))) T_law_5)
def T_law_3 : PSF := (sSeq (sIf (pAndT (pTst (pBin oGt (pVar 2) (pC (.int 1)))) (pTst (pBin oEq (pApp F__law_pick 2 (pCons (pVar 1) (pCons (pC (.int 3)) pNil))) (pC (.int 0))))) (sPut (pVar 3) (pBin oSub2 (pVar 2) (pC (.int 1))) (pCall oList (pCons (pBin oIx (pVar 3) (pC (.int 0))) pNil))) sNop) T_law_4)
def T_law_2 : PSF := (sSeq (sSet 3 (pLcM [7] (iR1 (pCons (pVar 2) pNil)) (.n 7) tYesF (pLc [21] (iR1 (pCons (pVar 2) pNil)) (.n 21) tYesF (pBin oSub2 (pApp F__law_pick 2 (pCons (pVar 1) (pCons (pC (.int 9)) pNil))) (pC (.int 4)))))) T_law_3)
def T_law_1 : PSF := (sSeq (sSet 2 (pApp F__law_pick 2 (pCons (pVar 1) (pCons (pC (.int 5)) pNil)))) T_law_2)
def T_law_0 : PSF := (sSeq (sSet 1 (pApp F__law_pool 1 (pCons (pVar 0) pNil))) T_law_1)
theorem T_law_eq : B_law = T_law_0 := rfl
structure OrdOk (n : Nat) (L : List (List Int × Int)) : Prop where
  run : ∀ m, F__law_m_orders [.int (n : Int)] m = some (.ok (.lst (L.map fun o => .tup (o.1.map D.int))) m)
  odd : ∀ m, ∀ o ∈ L, F__law_m_odd [.tup (o.1.map D.int)] m = some (.ok (.int o.2) m)
  rng : ∀ o ∈ L, o.1.length = n ∧ ∀ x ∈ o.1, 0 ≤ x ∧ x < n
  par : ∀ o ∈ L, o.2 = 0 ∨ o.2 = 1
  len : L.length ≤ 24
  sum : ∀ C, smT C n L 0 = detI n (en C)
theorem ordOk : ∀ n, n ≤ 4 → ∃ L, OrdOk n L
  | 0, _ => ⟨ordL0, ord0, odd0, by decide, by decide, by decide, fun C => (smT_ok C).1⟩
  | 1, _ => ⟨ordL1, ord1, odd1, by decide, by decide, by decide, fun C => (smT_ok C).2.1⟩
  | 2, _ => ⟨ordL2, ord2, odd2, by decide, by decide, by decide, fun C => (smT_ok C).2.2.1⟩
  | 3, _ => ⟨ordL3, ord3, odd3, by decide, by decide, by decide, fun C => (smT_ok C).2.2.2.1⟩
  | 4, _ => ⟨ordL4, ord4, odd4, by decide, by decide, by decide, fun C => (smT_ok C).2.2.2.2⟩
  | n + 5, h => by omega
def Env61 (a0 p : Option D) (n a : Nat) (t : Int) (z5 z6 z7 : Option D) (w : List (Option D)) : Ev := a0 :: p :: some (.int (n : Int)) :: some (.loc a) :: some (.int t) :: z5 :: z6 :: z7 :: w
theorem prT_bd {C : List (List Int)} (hC : ∀ j i, (en C j i).natAbs ≤ 4) (o : List Int) {s : Int} (hs : s.natAbs ≤ 1) : ∀ j, (prT C o s j).natAbs ≤ 4 ^ j
  | 0 => by simpa [prT] using hs
  | j + 1 => by
    have h1 := prT_bd hC o hs j
    have h2 := hC j (co o j).toNat
    show (prT C o s j * _).natAbs ≤ _
    rw [Int.natAbs_mul, Nat.pow_succ]
    exact Nat.mul_le_mul h1 h2
def OrI (C : List (List Int)) (n a : Nat) (L : List (List Int × Int)) (a0 p : Option D) (w : List (Option D)) (m : Mem) (ds : List D) (e : Ev) (m1 : Mem) : Prop := ∃ (l : List (List Int × Int)) (t : Int) (z5 z6 z7 : Option D), ds = l.map (fun o => D.tup (o.1.map D.int)) ∧ (∀ o ∈ l, o ∈ L) ∧ e = Env61 a0 p n a t z5 z6 z7 w ∧ m1 = m ∧ smT C n l t = detI n (en C)
def OrJ (C : List (List Int)) (n a : Nat) (a0 p : Option D) (w : List (Option D)) (t : Int) (o : List Int) (s : Int) (m : Mem) (j : Nat) (e : Ev) (m2 : Mem) : Prop := ∃ z7, e = Env61 a0 p n a t (some (.tup (o.map D.int))) (some (.int (prT C o s j))) z7 w ∧ m2 = m
theorem law_orders {n a : Nat} {C : List (List Int)} {L : List (List Int × Int)} (hO : OrdOk n L) (hn : n ≤ 4) (hC : C.length = n) (hr : ∀ r ∈ C, r.length = n) (hb : ∀ j i, (en C j i).natAbs ≤ 4) {m : Mem} (hm : m[a]? = some (.lst (C.map rowD))) (a0 p : Option D) (t : Int) (z5 z6 z7 : Option D) (w : List (Option D)) (N : Ev → Mem → Prop) (R : D → Mem → Prop) (hN : ∀ z5 z6 z7, N (Env61 a0 p n a (detI n (en C)) z5 z6 z7 w) m) (ht : smT C n L t = detI n (en C)) :
    wpS (loopF (gN 5) (sSeq (sSet 6 (pBin oIx (pLst (pCons (pC (.int 1)) (pCons (pUn oNeg (pC (.int 1))) pNil))) (pApp F__law_m_odd 1 (pCons (pVar 5) pNil))))
  (sSeq (sFor (iR1 (pCons (pVar 2) pNil)) (gN 7) (sSet 6 (pBin oMul (pVar 6) (pBin oIx (pBin oIx (pVar 3) (pVar 7)) (pBin oIx (pVar 5) (pVar 7))))))
  (sSet 4 (pBin oAdd (pVar 4) (pVar 6))))) (L.map fun o => .tup (o.1.map D.int)) (Env61 a0 p n a t z5 z6 z7 w) m) N R := by
  refine wp_loop (OrI C n a L a0 p w m) ?_ ?_ _ _ _ ⟨L, t, z5, z6, z7, rfl, fun o ho => ho, rfl, rfl, ht⟩
  · rintro d ds e m1 ⟨l, t, y5, y6, y7, h1, h2, rfl, rfl, h3⟩
    match l, h1 with
    | o :: l, h1 =>
      rw [List.map_cons] at h1
      injection h1 with h1 h1'
      subst h1 h1'
      have ho := h2 o (List.mem_cons_self ..)
      obtain ⟨ol, orr⟩ := hO.rng o ho
      have hodd := hO.odd m1 o ho
      have b1 : (n : Int) ≤ 1000000000 := by omega
      have b2 : -1000000000 ≤ (n : Int) := by omega
      have hsg : atI [D.int 1, D.int (-1)] o.2 = some (.int (sgT o.2)) := by
        rcases hO.par o ho with e | e <;> rw [e] <;> rfl
      have hs1 : (sgT o.2).natAbs ≤ 1 := by unfold sgT; split <;> decide
      refine ⟨_, _, rfl, ?_⟩
      refine wpS.toL ?_
      unfold Env61
      simp [hodd, oNeg, hsg, b1, b2]
      refine wp_rng (OrJ C n a a0 p w t o.1 (sgT o.2) m1) n ?_ ?_ _ _ ⟨y7, rfl, rfl⟩
      · rintro j hj e m2 ⟨z7, rfl, rfl⟩
        have r1 : oIx (.loc a) (.int (j : Int)) m2 = some (rowD (C.getD j [])) := by
          rw [seqO_ix (l := C.map rowD) (by simp only [seqO, asL, hm]), atI_of_nat, List.getElem?_map, List.getElem?_eq_getElem (by omega), getD_at [] (by omega)]; rfl
        have r2 : atI (o.1.map D.int) (j : Int) = some (.int (co o.1 j)) := by
          rw [atI_of_nat, List.getElem?_map, List.getElem?_eq_getElem (by omega), co_lt (by omega)]; rfl
        have hx : 0 ≤ co o.1 j ∧ co o.1 j < n := by
          rw [co_lt (by omega)]
          exact orr _ (List.getElem_mem _)
        have hrl : (C.getD j []).length = n := by
          rw [getD_at [] (by omega)]; exact hr _ (List.getElem_mem _)
        have r3 : oIx (rowD (C.getD j [])) (.int (co o.1 j)) m2 = some (.int (en C j (co o.1 j).toNat)) := by
          rw [seqO_ix (l := (C.getD j []).map D.int) rfl]
          obtain ⟨i, hi⟩ := Int.eq_ofNat_of_zero_le hx.1
          rw [hi, atI_of_nat, List.getElem?_map, List.getElem?_eq_getElem (by omega)]
          unfold en
          rw [Int.toNat_natCast, co_lt (by omega)]; rfl
        have hpb := prT_bd hb o.1 hs1 j
        have hp4 : 4 ^ j ≤ 4 ^ 4 := Nat.pow_le_pow_right (by decide) (by omega)
        have hmf : mulFits (prT C o.1 (sgT o.2) j) (en C j (co o.1 j).toNat) = true := mulF_b (n := 20) (by decide) (by have : (4 : Nat) ^ 4 = 256 := rfl; have : (2 : Nat) ^ 20 = 1048576 := rfl; omega) (by have := hb j (co o.1 j).toNat; have : (2 : Nat) ^ 20 = 1048576 := rfl; omega)
        refine wpS.toL ?_
        unfold Env61
        generalize hr0 : C.getD j [] = rj at *
        simp [r1, r2, r3, hmf]
        exact ⟨_, rfl, rfl⟩
      · rintro e m2 ⟨z7, rfl, rfl⟩
        unfold Env61
        simp
        exact ⟨l, _, _, _, _, rfl, fun o ho => h2 o (List.mem_cons_of_mem _ ho), rfl, rfl, h3⟩
  · rintro e m1 ⟨l, t, y5, y6, y7, h1, h2, rfl, rfl, h3⟩
    have hl0 : l = [] := by
      match l, h1 with
      | [], _ => rfl
    subst hl0
    have : t = detI n (en C) := h3
    rw [this]
    exact hN _ _ _
end Z

set_option maxRecDepth 100000
set_option maxHeartbeats 2000000
set_option autoImplicit false
namespace Z
open PySem PySem.Spec PyProof.Rows L2
open PolA (Po Dv len mono Dom Qt)
theorem evR_num (f : List Int) (x : Int) : (evR f (x : Rat)).num = evZ f x := by
  have key : ∀ f : List Int, evR f (x : Rat) = ((evZ f x : Int) : Rat) := by
    intro f
    induction f with
    | nil => rfl
    | cons a f ih =>
      show (a : Rat) + (x : Rat) * evR f (x : Rat) = ((a + x * evZ f x : Int) : Rat)
      rw [ih, Rat.intCast_add, Rat.intCast_mul]
  rw [key]; rfl
theorem evZ_sm {x : Int} (hx : x.natAbs ≤ 5) : ∀ f : List Int, (∀ c ∈ f, c.natAbs ≤ 9) → (evZ f x).natAbs ≤ 9 * 6 ^ f.length
  | [], _ => by show (0 : Int).natAbs ≤ _; simp
  | c :: f, h => by
    have h1 := evZ_sm hx f fun c hc => h c (List.mem_cons_of_mem _ hc)
    have h2 := h c (List.mem_cons_self ..)
    have h3 := Nat.mul_le_mul hx h1
    rw [← Int.natAbs_mul] at h3
    show (c + x * evZ f x).natAbs ≤ 9 * 6 ^ (f.length + 1)
    rw [Nat.pow_succ]
    have hp : 1 ≤ 6 ^ f.length := Nat.pow_pos (by decide)
    generalize x * evZ f x = y at *
    generalize 6 ^ f.length = z at *
    omega
theorem law_15 {p : D} {q : Nat} {m : Mem} (hp : Pool p q m) (hq : q < 9000) (a0 a2 a3 a4 a5 a6 a7 a8 a9 a10 a11 a12 a13 a14 a15 a16 a17 a18 a19 a20 a21 : Option D) :
    wpS (T_law_15 [a0, some p, a2, a3, a4, a5, a6, a7, a8, a9, a10, a11, a12, a13, a14, a15, a16, a17, a18, a19, a20, a21] m) (fun _ _ => False) (fun d _ => d = .bl true) := by
  simp [T_law_15, pLc, pLcG_app]
  refine (wF_pick 5 hp (by omega) (by decide)).mono ?_
  rintro _ m1 ⟨⟨x, rfl, x0, x1⟩, hp1⟩
  obtain ⟨n, rfl⟩ := Int.eq_ofNat_of_zero_le x0
  have b1 : (n : Int) ≤ 1000000000 := by omega
  have b2 : -1000000000 ≤ (n : Int) := by omega
  have hil : (intR 0 1 n).length = n := by simp [intR_rng, rng_len]
  have b3 : (intR 0 1 n).length ≤ SL := slLe (by omega)
  simp [b1, b2, b3]
  refine (wp_picksC (q := 19) (c := 9) (v := 21) (j := 1) (by decide) (by decide) (intR 0 1 n) _ m1 (q + 1) rfl hp1 (by omega)).mono ?_
  rintro _ m2 ⟨vs, rfl, hvl, hvb, hp2⟩
  rw [hil] at hvl hp2
  simp [T_law_16]
  refine (wF_m_trim (d := .lst _) (xs := vs) rfl (by omega)).mono ?_
  rintro _ m3 ⟨rfl, k3⟩
  have hp3 := hp2.keep k3
  have htl := trim_len vs
  have hth := trim_trim vs
  have hcb : ∀ c ∈ trim vs, c.natAbs ≤ 9 := fun c hc => by
    have h1 : ∀ k, (co (trim vs) k).natAbs ≤ 9 := fun k => by
      rw [co_trim]
      rcases co_in vs k with h | h
      · rw [h]; decide
      · have := hvb _ h
        omega
    obtain ⟨k, hk, rfl⟩ := List.mem_iff_getElem.1 hc
    rw [← co_lt hk]
    exact h1 k
  generalize trim vs = h at *
  simp [T_law_17]
  refine (wF_pick 2 hp3 (by omega) (by decide)).mono ?_
  rintro _ m4 ⟨⟨y, rfl, y0, y1⟩, hp4⟩
  obtain ⟨t, ht⟩ : ∃ t : Nat, ((vs.length : Int) + y) = t := ⟨vs.length + y.toNat, by omega⟩
  have c1 : (t : Int) ≤ 1000000000 := by omega
  have c2 : -1000000000 ≤ (t : Int) := by omega
  have c3 : (intR 0 1 t).length ≤ SL := slLe (by rw [intR_rng, List.length_map, rng_len]; omega)
  have hB : Bd 4 h := Bd.of fun x hx => by have := hcb x hx; omega
  simp [T_law_18, ht, pLc, pLcG_app, c1, c2, c3]
  rw [intR_rng]
  refine (wp_lcI (fun _ => true) (fun j => evZ h j) (rng 0 t) ?_).mono ?_
  · intro j hj
    have hj := mem_rng.1 hj
    have hrb : RB 3 (j : Rat) := ⟨by show j.natAbs < 8; omega, by show 1 < 8; decide⟩
    simp [rD_int]
    refine (wF_m_val h (j : Rat) m4 hrb hB (by decide) ?_).mono ?_
    · have : (h.length + 1) * (3 + 4 + 2) ≤ 10 * 9 := Nat.mul_le_mul (by omega) (by omega)
      omega
    · rintro _ m5 ⟨rfl, rfl⟩
      simp [rD, atI_0, evR_num]
  · rintro ys m5 ⟨rfl, rfl⟩
    rw [List.filter_eq_self.2 (fun _ _ => rfl)]
    have hpl : ((rng 0 t).map fun j => evZ h j).length = t := by simp [rng_len]
    have hpc : ∀ j : Nat, j < t → co ((rng 0 t).map fun j => evZ h j) j = evZ h j := fun j hj => by
      unfold rng
      rw [List.map_map, co_map_range, if_pos hj]
      show evZ h ((0 : Int) + j) = _
      rw [Int.zero_add]
    have hpb : ∀ x ∈ (rng 0 t).map (fun j => evZ h j), x.natAbs < 2 ^ 20 := fun x hx => by
      obtain ⟨j, hj, rfl⟩ := List.mem_map.1 hx
      have hj := mem_rng.1 hj
      have h1 := evZ_sm (x := j) (by omega) h hcb
      have h2 : 6 ^ h.length ≤ 6 ^ 5 := Nat.pow_le_pow_right (by decide) (by omega)
      have e1 : (6 : Nat) ^ 5 = 7776 := rfl
      have e2 : (2 : Nat) ^ 20 = 1048576 := rfl
      omega
    generalize (rng 0 t).map (fun j => evZ h j) = pts at *
    simp [T_law_19]
    refine (wF_through pts m5 (L := 20) (by omega) (by decide) hpb hth (by omega) (fun j hj => hpc j (by omega))).mono ?_
    rintro _ m6 ⟨rfl, k6⟩
    refine (wF_equal 20 _ _ (sim_ints (n := 18) (xs := h) rfl rfl rfl (by omega))).mono ?_
    rintro _ m7 ⟨rfl, rfl⟩
    simp
    have hw := wF_through [] m7 (L := 1) (h := []) (by simp) (by decide) (by simp) rfl (by simp) (by simp)
    simp only [List.map_nil] at hw
    refine hw.mono ?_
    rintro _ m8 ⟨rfl, k8⟩
    have := oEq_tup [] [] m8
    simp only [List.map_nil] at this
    simp [this]
end Z

set_option maxRecDepth 100000
set_option maxHeartbeats 2000000
set_option autoImplicit false
namespace Z
open PySem PySem.Spec PyProof.Rows L2
open PolA (Po Dv len mono Dom Qt)
/-! polynomials by their roots -/
def lins (xs : List Int) : List (List Int) := xs.map fun x => [-x, 1]
def prL (xs : List Int) : List Int := (lins xs).foldl pmul [1]
theorem P_lin (x : Int) : P [-x, 1] = Po.X - Po.C x := Po.ext fun t => by
  rw [PolA.c_sub, PolA.c_C, c_P]
  unfold Po.X
  rw [PolA.c_mono]
  match t with
  | 0 => show -x = 0 - x; omega
  | 1 => rfl
  | t + 2 => show co [-x, 1] (t + 2) = _; rw [co_ge (by simp), if_neg (by omega), if_neg (by omega)]; rfl
theorem P_foldl : ∀ (xs : List Int) (acc : List Int), P ((lins xs).foldl pmul acc) = P acc * PolA.lnX xs
  | [], acc => by show P acc = P acc * 1; grind
  | x :: xs, acc => by
    show P ((lins xs).foldl pmul (pmul acc [-x, 1])) = P acc * ((Po.X - Po.C x) * PolA.lnX xs)
    rw [P_foldl xs, P_pmul, P_lin]; grind
theorem P_prL (xs : List Int) : P (prL xs) = PolA.lnX xs := by
  unfold prL
  rw [P_foldl]
  have : P [1] = 1 := Po.ext fun k => by
    rw [c_P, PolA.c_one]
    match k with
    | 0 => rfl
    | k + 1 => rfl
  rw [this]; grind
theorem foldl_trim : ∀ (fs : List (List Int)) (acc : List Int), trim acc = acc → trim (fs.foldl pmul acc) = fs.foldl pmul acc
  | [], acc, h => h
  | f :: fs, acc, _ => foldl_trim fs (pmul acc f) (pmul_trim _ _)
theorem prL_len (a : Int) (xs : List Int) : (psc a (prL xs)).length ≤ xs.length + 1 := by
  rw [← P_len (psc_trim a (prL xs)), P_psc, P_prL]
  exact PolA.lnX_len a xs
theorem prL_bd (xs : List Int) (hx : ∀ x ∈ xs, x.natAbs ≤ 4) : Bd (3 * xs.length + 1) (prL xs) := by
  have key : ∀ (xs : List Int), (∀ x ∈ xs, x.natAbs ≤ 4) → ∀ (acc : List Int) (b : Nat), Bd b acc → Bd (b + 3 * xs.length) ((lins xs).foldl pmul acc) := by
    intro xs
    induction xs with
    | nil => intro _ acc b h; exact h
    | cons x xs ih =>
      intro hx acc b h
      have hx0 := hx x (List.mem_cons_self ..)
      have h1 : Bd (b + 3) (pmul acc [-x, 1]) := fun t => by
        have e : P (pmul acc [-x, 1]) = Po.C (-x) * P acc + Po.X * P acc := by
          rw [P_pmul, P_lin, PolA.C_neg]; grind
        have e3 := congrArg (fun p => Po.c p t) e
        simp only [PolA.c_add, PolA.c_Cmul, PolA.c_X_mul, c_P] at e3
        rw [e3]
        have g1 := h t
        have g2 : (if t = 0 then 0 else co acc (t - 1)).natAbs < 2 ^ b := by
          split
          · exact Nat.two_pow_pos _
          · exact h _
        have g3 := Nat.mul_le_mul hx0 (show (co acc t).natAbs ≤ 2 ^ b by omega)
        rw [Nat.pow_add, show (2 : Nat) ^ 3 = 8 by rfl]
        have e4 : (-x * co acc t).natAbs = x.natAbs * (co acc t).natAbs := by rw [Int.natAbs_mul, Int.natAbs_neg]
        omega
      have := ih (fun y hy => hx y (List.mem_cons_of_mem _ hy)) (pmul acc [-x, 1]) (b + 3) h1
      rw [List.length_cons, show b + 3 * (xs.length + 1) = b + 3 + 3 * xs.length by omega]
      exact this
  have h0 : Bd 1 ([1] : List Int) := fun k => by
    match k with
    | 0 => decide
    | k + 1 => show (co [1] (k + 1)).natAbs < _; rw [co_ge (by simp)]; decide
  have := key xs hx [1] 1 h0
  rw [Nat.add_comm]
  exact this
def pz (x : Int) (ys : List Int) : Int := ys.foldr (fun y z => (x - y) * z) 1
theorem ev_lnX (x : Int) : ∀ ys : List Int, PolA.ev (PolA.lnX ys) x = pz x ys
  | [] => PolA.ev_1 x
  | y :: ys => by
    show PolA.ev ((Po.X - Po.C y) * PolA.lnX ys) x = (x - y) * pz x ys
    rw [PolA.ev_mul, ev_lnX x ys, PolA.ev_sub, PolA.ev_X, PolA.ev_C]
def dy (x : Int) : List Int → Int → Int
  | [], d => d
  | y :: l, d => dy x l (d * (x - y))
def dx (b : Int) (ys : List Int) : List Int → Int → Int
  | [], d => d
  | x :: l, d => dx b ys l (dy x ys (d * b))
def da (a : Int) : List Int → Int → Int
  | [], d => d
  | _ :: l, d => da a l (d * a)
theorem dy_eq (x : Int) : ∀ (ys : List Int) (d : Int), dy x ys d = d * pz x ys
  | [], d => by show d = d * 1; omega
  | y :: ys, d => by
    show dy x ys (d * (x - y)) = d * ((x - y) * pz x ys)
    rw [dy_eq x ys]; grind
def qz (b : Int) (ys : List Int) : List Int → Int := fun xs => xs.foldr (fun x z => b * pz x ys * z) 1
theorem dx_eq (b : Int) (ys : List Int) : ∀ (xs : List Int) (d : Int), dx b ys xs d = d * qz b ys xs
  | [], d => by show d = d * 1; omega
  | x :: xs, d => by
    show dx b ys xs (dy x ys (d * b)) = d * (b * pz x ys * qz b ys xs)
    rw [dx_eq b ys xs, dy_eq]; grind
theorem da_eq (a : Int) : ∀ (ys : List Int) (d : Int), da a ys d = d * a ^ ys.length
  | [], d => by show d = d * a ^ 0; rw [Int.pow_zero]; omega
  | y :: ys, d => by
    show da a ys (d * a) = _
    rw [da_eq a ys, List.length_cons, Int.pow_succ]; grind
theorem rst_due (a b : Int) (xs ys : List Int) : PolA.rst xs.length ys.length (P (psc a (prL xs))) (P (psc b (prL ys))) = da a ys (dx b ys xs 1) := by
  have hg : PolA.len (P (psc b (prL ys))) ≤ ys.length + 1 := by
    rw [P_psc, P_prL]
    exact PolA.lnX_len b ys
  have h := PolA.rst_prod a (P (psc b (prL ys))) hg xs
  rw [P_psc a, P_prL, h, da_eq, dx_eq, Int.one_mul]
  have ev : ∀ x, PolA.ev (P (psc b (prL ys))) x = b * pz x ys := fun x => by
    rw [P_psc, P_prL, PolA.ev_mul, PolA.ev_C, ev_lnX]
  have key : ∀ (xs : List Int), (xs.map (PolA.ev (P (psc b (prL ys))))).foldr (· * ·) (a ^ ys.length) = qz b ys xs * a ^ ys.length := by
    intro xs
    induction xs with
    | nil => show a ^ ys.length = 1 * a ^ ys.length; rw [Int.one_mul]
    | cons x xs ih =>
      show PolA.ev (P (psc b (prL ys))) x * _ = (b * pz x ys * qz b ys xs) * a ^ ys.length
      rw [ih, ev]; grind
  exact key xs
/-! the walk -/
def E61 (a0 p a2 a3 a4 a5 a6 a7 : Option D) (xs ys : List Int) (a b : Int) (f g : List Int) (d : Int) (z15 z16 z17 z18 z19 z20 z21 : Option D) : Ev := [a0, p, a2, a3, a4, a5, a6, a7, some (.lst (xs.map D.int)), some (.lst (ys.map D.int)), some (.int a), some (.int b), some (.tup (f.map D.int)), some (.tup (g.map D.int)), some (.int d), z15, z16, z17, z18, z19, z20, z21]
def DxI (a0 p a2 a3 a4 a5 a6 a7 : Option D) (xs ys : List Int) (a b : Int) (f g : List Int) (z17 z18 z19 z20 z21 : Option D) (m : Mem) (ds : List D) (e : Ev) (m1 : Mem) : Prop := ∃ (l : List Int) (d : Int) (z15 z16 : Option D), ds = l.map D.int ∧ (∀ x ∈ l, x.natAbs ≤ 4) ∧ dx b ys l d = dx b ys xs 1 ∧ e = E61 a0 p a2 a3 a4 a5 a6 a7 xs ys a b f g d z15 z16 z17 z18 z19 z20 z21 ∧ m1 = m
def DyI (a0 p a2 a3 a4 a5 a6 a7 : Option D) (xs ys : List Int) (a b : Int) (f g : List Int) (x d0 : Int) (z17 z18 z19 z20 z21 : Option D) (m : Mem) (ds : List D) (e : Ev) (m1 : Mem) : Prop := ∃ (l : List Int) (d : Int) (z16 : Option D), ds = l.map D.int ∧ (∀ x ∈ l, x.natAbs ≤ 4) ∧ dy x l d = dy x ys d0 ∧ e = E61 a0 p a2 a3 a4 a5 a6 a7 xs ys a b f g d (some (.int x)) z16 z17 z18 z19 z20 z21 ∧ m1 = m
def DaI (a0 p a2 a3 a4 a5 a6 a7 : Option D) (xs ys : List Int) (a b : Int) (f g : List Int) (d0 : Int) (z15 z17 z18 z19 z20 z21 : Option D) (m : Mem) (ds : List D) (e : Ev) (m1 : Mem) : Prop := ∃ (l : List Int) (d : Int) (z16 : Option D), ds = l.map D.int ∧ da a l d = da a ys d0 ∧ e = E61 a0 p a2 a3 a4 a5 a6 a7 xs ys a b f g d z15 z16 z17 z18 z19 z20 z21 ∧ m1 = m
theorem nil_of_map {l : List Int} (h : [] = l.map D.int) : l = [] := by
  match l, h with
  | [], _ => rfl
theorem law_11 {p : D} {q : Nat} {m : Mem} (hp : Pool p q m) (hq : q < 9000) (a0 a2 a3 a4 a5 a6 a7 a14 a15 a16 a17 a18 a19 a20 a21 : Option D) {xs ys : List Int} (hx : ∀ x ∈ xs, x.natAbs ≤ 4) (hy : ∀ y ∈ ys, y.natAbs ≤ 4) (hxl : xs.length ≤ 3) (hyl : ys.length ≤ 3) {a b : Int} (ha : a.natAbs ≤ 3) (hb : b.natAbs ≤ 3) :
    wpS (T_law_11 [a0, some p, a2, a3, a4, a5, a6, a7, some (.lst (xs.map D.int)), some (.lst (ys.map D.int)), some (.int a), some (.int b), some (.tup ((psc a (prL xs)).map D.int)), some (.tup ((psc b (prL ys)).map D.int)), a14, a15, a16, a17, a18, a19, a20, a21] m) (fun _ _ => False) (fun d _ => d = .bl true) := by
  have eqi : ∀ (i : Int) (m : Mem), wpE (F__law_equal 20 [.int i, .int i] m) fun d m1 => d = .bl true ∧ m1 = m := fun i m => wF_equal 20 _ _ (.inl ⟨rfl, rfl⟩)
  have hfl := prL_len a xs
  have hgl := prL_len b ys
  have hfb : Bd 14 (psc a (prL xs)) := (Bd.sc (a := 3) (by omega) (prL_bd xs hx)).up (by omega)
  have hgb : Bd 14 (psc b (prL ys)) := (Bd.sc (a := 3) (by omega) (prL_bd ys hy)).up (by omega)
  have hdue := rst_due a b xs ys
  generalize psc a (prL xs) = f at *
  generalize psc b (prL ys) = g at *
  simp [T_law_11, T_law_12]
  refine wp_loop (DxI a0 (some p) a2 a3 a4 a5 a6 a7 xs ys a b f g a17 a18 a19 a20 a21 m) ?_ ?_ _ _ _ ⟨xs, 1, a15, a16, rfl, hx, rfl, rfl, rfl⟩
  · rintro d ds e m1 ⟨l, d0, z15, z16, h1, h2, h3, rfl, rfl⟩
    match l, h1 with
    | x :: l, h1 =>
      rw [List.map_cons] at h1
      injection h1 with h1 h1'
      subst h1 h1'
      have hx0 := h2 x (List.mem_cons_self ..)
      have hmb : mulFits d0 b = true := mulF_r (by omega)
      refine ⟨_, _, rfl, ?_⟩
      refine wpS.toL ?_
      unfold E61
      simp [hmb]
      refine wp_loop (DyI a0 (some p) a2 a3 a4 a5 a6 a7 xs ys a b f g x (d0 * b) a17 a18 a19 a20 a21 m1) ?_ ?_ _ _ _ ⟨ys, d0 * b, z16, rfl, hy, rfl, rfl, rfl⟩
      · rintro d ds e m2 ⟨k, d1, y16, g1, g2, g3, rfl, rfl⟩
        match k, g1 with
        | y :: k, g1 =>
          rw [List.map_cons] at g1
          injection g1 with g1 g1'
          subst g1 g1'
          have hy0 := g2 y (List.mem_cons_self ..)
          have hmy : mulFits d1 (x - y) = true := mulF_r (by omega)
          refine ⟨_, _, rfl, ?_⟩
          refine wpS.toL ?_
          unfold E61
          simp [hmy]
          exact ⟨k, _, _, rfl, fun z hz => g2 z (List.mem_cons_of_mem _ hz), g3, rfl, rfl⟩
      · rintro e m2 ⟨k, d1, y16, g1, g2, g3, rfl, rfl⟩
        have := nil_of_map g1
        subst this
        have g3 : d1 = dy x ys (d0 * b) := g3
        refine ⟨l, d1, _, _, rfl, fun z hz => h2 z (List.mem_cons_of_mem _ hz), ?_, rfl, rfl⟩
        rw [g3]
        exact h3
  · rintro e m1 ⟨l, d0, z15, z16, h1, h2, h3, rfl, rfl⟩
    have := nil_of_map h1
    subst this
    have h3 : d0 = dx b ys xs 1 := h3
    unfold E61
    simp [T_law_13]
    refine wp_loop (DaI a0 (some p) a2 a3 a4 a5 a6 a7 xs ys a b f g d0 z15 a17 a18 a19 a20 a21 m1) ?_ ?_ _ _ _ ⟨ys, d0, z16, rfl, rfl, rfl, rfl⟩
    · rintro d ds e m2 ⟨k, d1, y16, g1, g3, rfl, rfl⟩
      match k, g1 with
      | y :: k, g1 =>
        rw [List.map_cons] at g1
        injection g1 with g1 g1'
        subst g1 g1'
        have hma : mulFits d1 a = true := mulF_r (by omega)
        refine ⟨_, _, rfl, ?_⟩
        refine wpS.toL ?_
        unfold E61
        simp [hma]
        exact ⟨k, _, _, rfl, g3, rfl, rfl⟩
    · rintro e m2 ⟨k, d1, y16, g1, g3, rfl, rfl⟩
      have := nil_of_map g1
      subst this
      have g3 : d1 = da a ys d0 := g3
      rw [h3] at g3
      rw [← g3] at hdue
      unfold E61
      simp [T_law_14]
      refine (wF_resultant f g xs.length ys.length m2 hfl hgl hfb hgb (by omega) (by omega) (by decide) (Nat.le_trans (bt_mono 14 (show xs.length + ys.length ≤ 6 by omega)) (by decide))).mono ?_
      rintro _ m3 ⟨rfl, k3⟩
      rw [hdue]
      refine (eqi d1 m3).mono ?_
      rintro _ m4 ⟨rfl, rfl⟩
      simp
      exact law_15 (hp.keep k3) hq _ _ _ _ _ _ _ _ _ _ _ _ _ _ _ _ _ _ _ _ _
end Z

set_option maxRecDepth 100000
set_option maxHeartbeats 2000000
set_option autoImplicit false
namespace Z
open PySem PySem.Spec PyProof.Rows L2
open PolA (Po Dv len mono Dom Qt)
theorem Pool.setC {p : D} {k a : Nat} {m : Mem} {C : List (List Int)} (h : Pool p k m) (hi : m[a]? = some (.lst (C.map rowD))) (c : Cell) : Pool p k (m.set a c) := by
  obtain ⟨l, j, e, h1, h2, h3, h4⟩ := h
  refine ⟨l, j, e, ?_, h2, h3, h4⟩
  rw [List.getElem?_set_ne (fun e => ?_)]
  · exact h1
  · subst e
    rw [hi] at h1
    match C, h1 with
    | v :: vs, h1 => simp [rowD] at h1
theorem wF_pickC {p : D} {k : Nat} {m : Mem} (n : Int) (hpp : Pool p k m) (hk : k < 1000000) (hn : 0 < n) : wpE (F__law_pick [p, .int n] m) fun d m1 => (∃ x : Int, d = .int x ∧ 0 ≤ x ∧ x < n) ∧ Pool p (k + 1) m1 ∧ ∀ (a : Nat) (C : List (List Int)), m[a]? = some (.lst (C.map rowD)) → m1[a]? = some (.lst (C.map rowD)) := by
  obtain ⟨l, i, rfl, hm, hl, hl8, hr⟩ := hpp
  refine wp_fn ?_
  have hll : (0 : Int) < l.length := by
    have := List.length_pos_iff.2 hl
    omega
  have hdk := Int.fdiv_nonneg (a := (k : Int)) (b := l.length) (by omega) (by omega)
  have hdf : divFits l.length = true := divF (n := 20) (by decide) (by omega) (by omega)
  have hmk := fmodN (k : Int) hll
  obtain ⟨x, hx, e⟩ := atI_mem (l := l) hmk.1 hmk.2
  have hn0 : n ≠ 0 := by omega
  have h2 := set_at (c' := .lst [.int (k + 1)]) hm
  have hmf : mulFits ((k : Int).fdiv l.length) 1009 = true := mulF_r (by decide)
  have hle : (k : Int).fdiv l.length ≤ k := by
    rw [Int.fdiv_eq_ediv_of_nonneg _ (by omega)]
    exact Int.ediv_le_self _ (by omega)
  have hmg : mulFits ((k : Int).fdiv l.length) k = true := mulF_l (by omega)
  have e0 : l.length ≠ 0 := by omega
  simp [B__law_pick, startE, oIx, asL, hm, putAt, atI_0, atI_1, hdf, show ixN 1 0 = some 0 by decide, e, hn0, hmf, hmg, e0]
  refine ⟨fmodN _ hn, ⟨l, i, rfl, h2, hl, hl8, hr⟩, fun a C ha => ?_⟩
  rw [List.getElem?_set_ne (fun e => ?_)]
  · exact ha
  · subst e
    rw [ha] at hm
    match C, hm with
    | v :: vs, hm => simp [rowD] at hm
theorem law_9 {p : D} {q : Nat} {m : Mem} (hp : Pool p q m) (hq : q < 9000) (a0 a2 a3 a4 a5 a6 a7 a12 a13 a14 a15 a16 a17 a18 a19 a20 a21 : Option D) {xs ys : List Int} (hx : ∀ x ∈ xs, x.natAbs ≤ 4) (hy : ∀ y ∈ ys, y.natAbs ≤ 4) (hxl : xs.length ≤ 3) (hyl : ys.length ≤ 3) {a b : Int} (ha : a.natAbs ≤ 3) (hb : b.natAbs ≤ 3) :
    wpS (T_law_9 [a0, some p, a2, a3, a4, a5, a6, a7, some (.lst (xs.map D.int)), some (.lst (ys.map D.int)), some (.int a), some (.int b), a12, a13, a14, a15, a16, a17, a18, a19, a20, a21] m) (fun _ _ => False) (fun d _ => d = .bl true) := by
  have hsl : ∀ (zs : List Int), zs.length ≤ 3 → zs.length ≤ SL := fun zs h => slLe (by omega)
  have hbl : ∀ (zs : List Int), (∀ z ∈ zs, z.natAbs ≤ 4) → ∀ f ∈ lins zs, Bd 3 f ∧ f.length ≤ 2 ^ 1 := fun zs hz f hf => by
    obtain ⟨z, hz', rfl⟩ := List.mem_map.1 hf
    have := hz z hz'
    refine ⟨Bd.of fun x hx => ?_, by simp⟩
    simp at hx
    rcases hx with rfl | rfl
    · omega
    · decide
  have hmp : ∀ (zs : List Int), zs.map (fun z => D.tup [.int (-z), .int 1]) = (lins zs).map tupI := fun zs => by
    unfold lins
    rw [List.map_map]; rfl
  have hll : ∀ (zs : List Int), (lins zs).length = zs.length := fun zs => by simp [lins]
  have hpl : ∀ (zs : List Int), (prL zs).length ≤ zs.length + 1 := fun zs => by
    have h1 := prL_len 1 zs
    have : psc 1 (prL zs) = prL zs := P_inj (psc_trim _ _) (foldl_trim _ _ (by decide)) (by rw [P_psc, PolA.C_1]; grind)
    rwa [this] at h1
  simp [T_law_9, pLc, pLcG_app, hsl xs hxl]
  refine (wp_lcT D.int (fun z => D.tup [.int (-z), .int 1]) xs ?_).mono ?_
  · intro z hz
    simp [oNeg]
  · rintro zs m1 ⟨rfl, rfl⟩
    rw [hmp xs]
    have hw := wF_m_all (d := .lst ((lins xs).map tupI)) (fs := lins xs) (m := m1) (a := 3) (c := 1) rfl (fun i e => by cases e) (hbl xs hx) (by decide) (by decide) (by rw [hll]; omega)
    refine hw.mono ?_
    rintro _ m2 ⟨rfl, k2⟩
    have h1 := hpl xs
    refine (wF_m_scale (prL xs) a m2 (by omega) (by omega)).mono ?_
    rintro _ m3 ⟨rfl, k3⟩
    simp [T_law_10, pLc, pLcG_app, hsl ys hyl]
    refine (wp_lcT D.int (fun z => D.tup [.int (-z), .int 1]) ys ?_).mono ?_
    · intro z hz
      simp [oNeg]
    · rintro zs m4 ⟨rfl, rfl⟩
      rw [hmp ys]
      have hw := wF_m_all (d := .lst ((lins ys).map tupI)) (fs := lins ys) (m := m4) (a := 3) (c := 1) rfl (fun i e => by cases e) (hbl ys hy) (by decide) (by decide) (by rw [hll]; omega)
      refine hw.mono ?_
      rintro _ m5 ⟨rfl, k5⟩
      have h2 := hpl ys
      refine (wF_m_scale (prL ys) b m5 (by omega) (by omega)).mono ?_
      rintro _ m6 ⟨rfl, k6⟩
      exact law_11 (hp.keep (k2.trans (k3.trans (k5.trans k6)))) hq _ _ _ _ _ _ _ _ _ _ _ _ _ _ _ hx hy hxl hyl ha hb
theorem law_7 {p : D} {q : Nat} {m : Mem} (hp : Pool p q m) (hq : q < 8000) (a0 a2 a3 a4 a5 a6 a7 a8 a9 a10 a11 a12 a13 a14 a15 a16 a17 a18 a19 a20 a21 : Option D) :
    wpS (T_law_7 [a0, some p, a2, a3, a4, a5, a6, a7, a8, a9, a10, a11, a12, a13, a14, a15, a16, a17, a18, a19, a20, a21] m) (fun _ _ => False) (fun d _ => d = .bl true) := by
  simp [T_law_7, pLc, pLcG_app]
  refine (wF_pick 4 hp (by omega) (by decide)).mono ?_
  rintro _ m1 ⟨⟨x, rfl, x0, x1⟩, hp1⟩
  obtain ⟨n, rfl⟩ := Int.eq_ofNat_of_zero_le x0
  have b1 : (n : Int) ≤ 1000000000 := by omega
  have b2 : -1000000000 ≤ (n : Int) := by omega
  have hil : ∀ n : Nat, (intR 0 1 n).length = n := fun n => by simp [intR_rng, rng_len]
  have b3 : (intR 0 1 n).length ≤ SL := slLe (by rw [hil]; omega)
  simp [b1, b2, b3]
  refine (wp_picksC (q := 9) (c := 4) (v := 21) (j := 1) (by decide) (by decide) (intR 0 1 n) _ m1 (q + 1) rfl hp1 (by rw [hil]; omega)).mono ?_
  rintro _ m2 ⟨xs, rfl, hxl, hxb, hp2⟩
  rw [hil] at hxl hp2
  refine (wF_pick 4 hp2 (by omega) (by decide)).mono ?_
  rintro _ m3 ⟨⟨y, rfl, y0, y1⟩, hp3⟩
  obtain ⟨k, rfl⟩ := Int.eq_ofNat_of_zero_le y0
  have c1 : (k : Int) ≤ 1000000000 := by omega
  have c2 : -1000000000 ≤ (k : Int) := by omega
  have c3 : (intR 0 1 k).length ≤ SL := slLe (by rw [hil]; omega)
  simp [c1, c2, c3]
  refine (wp_picksC (q := 9) (c := 4) (v := 21) (j := 1) (by decide) (by decide) (intR 0 1 k) _ m3 (q + 1 + n + 1) rfl hp3 (by rw [hil]; omega)).mono ?_
  rintro _ m4 ⟨ys, rfl, hyl, hyb, hp4⟩
  rw [hil] at hyl hp4
  simp [T_law_8]
  refine (wF_pick 3 hp4 (by omega) (by decide)).mono ?_
  rintro _ m5 ⟨⟨z, rfl, z0, z1⟩, hp5⟩
  simp [oNeg]
  refine (wF_pick 4 hp5 (by omega) (by decide)).mono ?_
  rintro _ m6 ⟨⟨w, rfl, w0, w1⟩, hp6⟩
  obtain ⟨b, hb, hbb⟩ : ∃ b : Int, atI [D.int (-2), D.int (-1), D.int 1, D.int 3] w = some (.int b) ∧ b.natAbs ≤ 3 := by
    have : w = 0 ∨ w = 1 ∨ w = 2 ∨ w = 3 := by omega
    rcases this with rfl | rfl | rfl | rfl
    · exact ⟨-2, rfl, by decide⟩
    · exact ⟨-1, rfl, by decide⟩
    · exact ⟨1, rfl, by decide⟩
    · exact ⟨3, rfl, by decide⟩
  simp [hb]
  exact law_9 hp6 (by omega) _ _ _ _ _ _ _ _ _ _ _ _ _ _ _ _ _ (fun x hx => by have := hxb x hx; omega) (fun y hy => by have := hyb y hy; omega) (by omega) (by omega) (by omega) hbb
theorem law_4 {p : D} {q : Nat} {m : Mem} (hp : Pool p q m) (hq : q < 7000) (a0 a4 a5 a6 a7 a8 a9 a10 a11 a12 a13 a14 a15 a16 a17 a18 a19 a20 a21 : Option D) {n a : Nat} (hn : n ≤ 4) {C : List (List Int)} (hC : C.length = n) (hr : ∀ r ∈ C, r.length = n ∧ ∀ x ∈ r, x.natAbs ≤ 4) (hm : m[a]? = some (.lst (C.map rowD))) :
    wpS (T_law_4 [a0, some p, some (.int (n : Int)), some (.loc a), a4, a5, a6, a7, a8, a9, a10, a11, a12, a13, a14, a15, a16, a17, a18, a19, a20, a21] m) (fun _ _ => False) (fun d _ => d = .bl true) := by
  have eqi : ∀ (i : Int) (m : Mem), wpE (F__law_equal 20 [.int i, .int i] m) fun d m1 => d = .bl true ∧ m1 = m := fun i m => wF_equal 20 _ _ (.inl ⟨rfl, rfl⟩)
  obtain ⟨L, hO⟩ := ordOk n hn
  have hen : ∀ j i, (en C j i).natAbs ≤ 4 := fun j i => by
    unfold en
    by_cases hj : j < C.length
    · rw [getD_at [] hj]
      rcases co_in C[j] i with h | h
      · rw [h]; decide
      · exact (hr _ (List.getElem_mem hj)).2 _ h
    · have e : C.getD j [] = [] := by rw [List.getD_eq_getElem?_getD, List.getElem?_eq_none (by omega)]; rfl
      rw [e]
      show (co [] i).natAbs ≤ 4
      rw [co_ge (by simp)]; decide
  simp [T_law_4, T_law_5, hO.run m]
  have hfin : ∀ z5 z6 z7, wpS (T_law_6 (Env61 a0 (some p) n a (detI n (en C)) z5 z6 z7 [a8, a9, a10, a11, a12, a13, a14, a15, a16, a17, a18, a19, a20, a21]) m) (fun _ _ => False) (fun d _ => d = .bl true) := by
    intro z5 z6 z7
    have hfz : frzD (.loc a) m = .ok (.lst (C.map rowD)) (m.set a (.frz (C.map rowD))) := by
      unfold frzD
      simp only [hm]
    unfold Env61
    simp [T_law_6, hfz]
    refine (wF_determinant C _ (N := n) (B := 3) hC (fun r h => (hr r h).1) (fun j i => by have := hen j i; omega) (by omega) (by decide) (Nat.le_trans (bt_mono 3 hn) (by decide))).mono ?_
    rintro _ m1 ⟨rfl, k1⟩
    refine (eqi _ m1).mono ?_
    rintro _ m2 ⟨rfl, rfl⟩
    simp
    exact law_7 ((hp.setC hm _).keep k1) (by omega) _ _ _ _ _ _ _ _ _ _ _ _ _ _ _ _ _ _ _ _ _
  have := law_orders hO hn hC (fun r h => (hr r h).1) hen hm a0 (some p) 0 a5 a6 a7 [a8, a9, a10, a11, a12, a13, a14, a15, a16, a17, a18, a19, a20, a21] (fun e m1 => wpS (T_law_6 e m1) (fun _ _ => False) (fun d _ => d = .bl true)) (fun d _ => d = .bl true) hfin (hO.sum C)
  exact this
theorem rows_draw {p : D} {n : Nat} (hn : n ≤ 4) : ∀ (ds : List D) (e : Ev) (m : Mem) (k : Nat), e[1]? = some (some p) → e[2]? = some (some (.int (n : Int))) → 21 < e.length → Pool p k m → k + n * ds.length < 8000 → wpE (lcF (.n 7) tYesF (pLc [21] (iR1 (pCons (pVar 2) pNil)) (.n 21) tYesF (pBin oSub2 (pApp F__law_pick 2 (pCons (pVar 1) (pCons (pC (.int 9)) pNil))) (pC (.int 4)))) e ds m) fun ys m1 => ∃ C : List (List Int), ys = C.map rowD ∧ C.length = ds.length ∧ (∀ r ∈ C, r.length = n ∧ ∀ x ∈ r, x.natAbs ≤ 4) ∧ Pool p (k + n * ds.length) m1
  | [], e, m, k, _, _, _, h, _ => by rw [lcF_nil, wpE_ok]; exact ⟨[], rfl, rfl, by simp, h⟩
  | d :: ds, e, m, k, h1, h2, he, h, hk => by
    rw [List.length_cons, Nat.mul_succ] at hk
    have b1 : (n : Int) ≤ 1000000000 := by omega
    have b2 : -1000000000 ≤ (n : Int) := by omega
    have hil : (intR 0 1 n).length = n := by simp [intR_rng, rng_len]
    have b3 : (intR 0 1 n).length ≤ SL := slLe (by omega)
    have g1 : (e.set 7 (some d))[1]? = some (some p) := by rw [List.getElem?_set_ne (by decide)]; exact h1
    have g2 : (e.set 7 (some d))[2]? = some (some (.int (n : Int))) := by rw [List.getElem?_set_ne (by decide)]; exact h2
    have g3 : (wipeE (e.set 7 (some d)) [21])[1]? = some (some p) := by
      simp [wipeE, List.getElem?_set_ne, h1]
    have step : wpE (pLc [21] (iR1 (pCons (pVar 2) pNil)) (.n 21) tYesF (pBin oSub2 (pApp F__law_pick 2 (pCons (pVar 1) (pCons (pC (.int 9)) pNil))) (pC (.int 4))) (e.set 7 (some d)) m) fun y m1 => ∃ r : List Int, y = rowD r ∧ (r.length = n ∧ ∀ x ∈ r, x.natAbs ≤ 4) ∧ Pool p (k + n) m1 := by
      simp only [pLc, pLcG_app]
      simp [g2, b1, b2, b3]
      refine (wp_picksC (q := 9) (c := 4) (v := 21) (j := 1) (by decide) (by decide) (intR 0 1 n) _ m k g3 h (by omega)).mono ?_
      rintro _ m2 ⟨xs, rfl, hxl, hxb, hp2⟩
      rw [hil] at hxl hp2
      exact ⟨xs, rfl, ⟨hxl, fun x hx => by have := hxb x hx; omega⟩, hp2⟩
    obtain ⟨_, m2, e2, r, rfl, hr, hp2⟩ := step.out
    obtain ⟨_, m3, e3, C, rfl, hl, hC, hp3⟩ := (rows_draw hn ds e m2 (k + n) h1 h2 he hp2 (by omega)).out
    rw [lcF_cons]
    have e4 : tgtE (.n 7) d e = some (e.set 7 (some d)) := rfl
    rw [e4]
    simp only [okE, tYesF, okB, okD, e2, if_true, e3]
    simp
    refine ⟨r :: C, rfl, by simp [hl], ?_, by rw [Nat.mul_succ, show k + (n * ds.length + n) = k + n + n * ds.length by omega]; exact hp3⟩
    intro y hy
    rcases List.mem_cons.1 hy with rfl | hy
    · exact hr
    · exact hC y hy
theorem wF_law (ns : List Int) (m : Mem) : wpE (F_law [.ro (ns.map D.int)] m) fun d _ => d = .bl true := by
  refine wp_fn ?_
  rw [T_law_eq]
  simp [T_law_0, startE]
  refine (wF_pool ns m).mono ?_
  rintro p m1 hp
  simp [T_law_1]
  refine (wF_pick 5 hp (by omega) (by decide)).mono ?_
  rintro _ m2 ⟨⟨x, rfl, x0, x1⟩, hp2⟩
  obtain ⟨n, rfl⟩ := Int.eq_ofNat_of_zero_le x0
  have hn : n ≤ 4 := by omega
  have b1 : (n : Int) ≤ 1000000000 := by omega
  have b2 : -1000000000 ≤ (n : Int) := by omega
  have hil : (intR 0 1 n).length = n := by simp [intR_rng, rng_len]
  have b3 : (intR 0 1 n).length ≤ SL := slLe (by omega)
  simp [T_law_2, pLcM, pLcG_app, b1, b2, b3]
  refine (rows_draw hn (intR 0 1 n) _ m2 (0 + 1) rfl rfl (by simp [wipeE]) hp2 ?_).mono ?_
  · rw [hil]
    have := Nat.mul_le_mul hn hn
    omega
  · rintro _ m3 ⟨C, rfl, hC, hr, hp3⟩
    rw [hil] at hC hp3
    have hnn := Nat.mul_le_mul hn hn
    have hcell : (m3 ++ [Cell.lst (C.map rowD)])[m3.length]? = some (.lst (C.map rowD)) := by simp
    have hp4 := hp3.keep (Keep.push m3 (.lst (C.map rowD)))
    generalize hm4 : m3 ++ [Cell.lst (C.map rowD)] = m4 at *
    generalize hak : m3.length = ak at *
    by_cases hn1 : 1 < n
    · have hn1' : (1 : Int) < (n : Int) := by omega
      simp [T_law_3, hn1, hn1']
      refine (wF_pickC 3 hp4 (by omega) (by decide)).mono ?_
      rintro _ m5 ⟨⟨y, rfl, y0, y1⟩, hp5, hkp⟩
      have hc5 := hkp _ _ hcell
      by_cases hy : y = 0
      · have r1 : oIx (.loc ak) (.int 0) m5 = some (rowD (C.getD 0 [])) := by
          rw [seqO_ix (l := C.map rowD) (by simp only [seqO, asL, hc5]), show (0 : Int) = ((0 : Nat) : Int) by rfl, atI_of_nat, List.getElem?_map, List.getElem?_eq_getElem (by omega), getD_at [] (by omega)]; rfl
        have r2 : oList [rowD (C.getD 0 [])] m5 = some (rowD (C.getD 0 [])) := rfl
        have r3 : putAt (.loc ak) (.int ((n : Int) - 1)) (rowD (C.getD 0 [])) m5 = some (m5.set ak (.lst ((C.set (n - 1) (C.getD 0 [])).map rowD))) := by
          unfold putAt
          simp only [hc5]
          rw [show (n : Int) - 1 = ((n - 1 : Nat) : Int) by omega, ixN_nat (by rw [List.length_map]; omega)]
          simp only [List.map_set]
        have hc0 : C.getD 0 [] ∈ C := by rw [getD_at [] (by omega)]; exact List.getElem_mem _
        have hr0 := hr _ hc0
        generalize C.getD 0 [] = r0 at *
        simp [-List.map_set, hy, r1, r2, r3]
        refine law_4 (C := C.set (n - 1) r0) (hp5.setC hc5 _) (by omega) _ _ _ _ _ _ _ _ _ _ _ _ _ _ _ _ _ _ _ hn (by simp [hC]) (fun r h => ?_) (set_at hc5)
        rcases List.mem_or_eq_of_mem_set h with h | rfl
        · exact hr r h
        · exact hr0
      · simp [hy]
        exact law_4 hp5 (by omega) _ _ _ _ _ _ _ _ _ _ _ _ _ _ _ _ _ _ _ hn hC hr hc5
    · have hn1' : ¬ (1 : Int) < (n : Int) := by omega
      simp [T_law_3, hn1, hn1']
      exact law_4 hp4 (by omega) _ _ _ _ _ _ _ _ _ _ _ _ _ _ _ _ _ _ _ hn hC hr hcell
theorem law_true : ∀ ns : List Int, ns.length ≤ 63 → (∀ z ∈ ns, Builtin.Int.intBits z ≤ 1048576) → ∃ m, F_law [.ro (ns.map D.int)] [] = some (.ok (.bl true) m) := by
  intro ns _ _
  obtain ⟨d, m, h, rfl⟩ := (wF_law ns []).out
  exact ⟨m, h⟩
end Z

set_option maxRecDepth 100000
set_option maxHeartbeats 4000000
namespace Z
open PySem PySem.Spec PyProof.Rows L2
def dd_trimmed : He.DefD := ⟨("trimmed", none), "trimmed", "trimmed", defArgs (topS 1), defBody (topS 1), defScope (topS 1), [], []⟩
def dd_number_at : He.DefD := ⟨("number_at", none), "number_at", "number_at", defArgs (topS 3), defBody (topS 3), defScope (topS 3), [], []⟩
def dd_add : He.DefD := ⟨("add", none), "add", "add", defArgs (topS 2), defBody (topS 2), defScope (topS 2), [], []⟩
def dd_scaled : He.DefD := ⟨("scaled", none), "scaled", "scaled", defArgs (topS 4), defBody (topS 4), defScope (topS 4), [], []⟩
def dd_multiply : He.DefD := ⟨("multiply", none), "multiply", "multiply", defArgs (topS 5), defBody (topS 5), defScope (topS 5), [], []⟩
def dd_determinant : He.DefD := ⟨("determinant", none), "determinant", "determinant", defArgs (topS 7), defBody (topS 7), defScope (topS 7), [], []⟩
def dd_resultant : He.DefD := ⟨("resultant", none), "resultant", "resultant", defArgs (topS 8), defBody (topS 8), defScope (topS 8), [], []⟩
def dd_through_values : He.DefD := ⟨("through_values", none), "through_values", "through_values", defArgs (topS 9), defBody (topS 9), defScope (topS 9), [], []⟩
def dd__law_cell : He.DefD := ⟨("_law_cell", none), "_law_cell", "_law_cell", defArgs (topS 11), defBody (topS 11), defScope (topS 11), [], []⟩
def dd__law_draws : He.DefD := ⟨("_law_draws", none), "_law_draws", "_law_draws", defArgs (topS 12), defBody (topS 12), defScope (topS 12), [], []⟩
def dd__law_kind : He.DefD := ⟨("_law_kind", none), "_law_kind", "_law_kind", defArgs (topS 13), defBody (topS 13), defScope (topS 13), [], []⟩
def dd__law_equal : He.DefD := ⟨("_law_equal", none), "_law_equal", "_law_equal", defArgs (topS 14), defBody (topS 14), defScope (topS 14), [], []⟩
def dd__law_pool : He.DefD := ⟨("_law_pool", none), "_law_pool", "_law_pool", defArgs (topS 15), defBody (topS 15), defScope (topS 15), [], []⟩
def dd__law_pick : He.DefD := ⟨("_law_pick", none), "_law_pick", "_law_pick", defArgs (topS 16), defBody (topS 16), defScope (topS 16), [], []⟩
def dd__law_m_gcd : He.DefD := ⟨("_law_m_gcd", none), "_law_m_gcd", "_law_m_gcd", defArgs (topS 17), defBody (topS 17), defScope (topS 17), [], []⟩
def dd__law_m_f : He.DefD := ⟨("_law_m_f", none), "_law_m_f", "_law_m_f", defArgs (topS 18), defBody (topS 18), defScope (topS 18), [], []⟩
def dd__law_m_add : He.DefD := ⟨("_law_m_add", none), "_law_m_add", "_law_m_add", defArgs (topS 19), defBody (topS 19), defScope (topS 19), [], []⟩
def dd__law_m_mul : He.DefD := ⟨("_law_m_mul", none), "_law_m_mul", "_law_m_mul", defArgs (topS 20), defBody (topS 20), defScope (topS 20), [], []⟩
def dd__law_m_trim : He.DefD := ⟨("_law_m_trim", none), "_law_m_trim", "_law_m_trim", defArgs (topS 21), defBody (topS 21), defScope (topS 21), [], []⟩
def dd__law_m_scale : He.DefD := ⟨("_law_m_scale", none), "_law_m_scale", "_law_m_scale", defArgs (topS 22), defBody (topS 22), defScope (topS 22), [], []⟩
def dd__law_m_times : He.DefD := ⟨("_law_m_times", none), "_law_m_times", "_law_m_times", defArgs (topS 23), defBody (topS 23), defScope (topS 23), [], []⟩
def dd__law_m_all : He.DefD := ⟨("_law_m_all", none), "_law_m_all", "_law_m_all", defArgs (topS 24), defBody (topS 24), defScope (topS 24), [], []⟩
def dd__law_m_val : He.DefD := ⟨("_law_m_val", none), "_law_m_val", "_law_m_val", defArgs (topS 25), defBody (topS 25), defScope (topS 25), [], []⟩
def dd__law_m_orders : He.DefD := ⟨("_law_m_orders", none), "_law_m_orders", "_law_m_orders", defArgs (topS 26), defBody (topS 26), defScope (topS 26), [], []⟩
def dd__law_m_odd : He.DefD := ⟨("_law_m_odd", none), "_law_m_odd", "_law_m_odd", defArgs (topS 27), defBody (topS 27), defScope (topS 27), [], []⟩
def dd_law : He.DefD := ⟨("law", none), "law", "law", defArgs (topS 28), defBody (topS 28), defScope (topS 28), [], []⟩
def fnL : List He.DefD := [dd_trimmed, dd_number_at, dd_add, dd_scaled, dd_multiply, dd_determinant, dd_resultant, dd_through_values, dd__law_cell, dd__law_draws, dd__law_kind, dd__law_equal, dd__law_pool, dd__law_pick, dd__law_m_gcd, dd__law_m_f, dd__law_m_add, dd__law_m_mul, dd__law_m_trim, dd__law_m_scale, dd__law_m_times, dd__law_m_all, dd__law_m_val, dd__law_m_orders, dd__law_m_odd, dd_law]
def faL : List He.Fa := [.glo "trimmed", .glo "number_at", .glo "add", .glo "scaled", .glo "multiply", .glo "determinant", .glo "resultant", .glo "through_values", .glo "_law_cell", .glo "_law_draws", .glo "_law_kind", .glo "_law_equal", .glo "_law_pool", .glo "_law_pick", .glo "_law_m_gcd", .glo "_law_m_f", .glo "_law_m_add", .glo "_law_m_mul", .glo "_law_m_trim", .glo "_law_m_scale", .glo "_law_m_times", .glo "_law_m_all", .glo "_law_m_val", .glo "_law_m_orders", .glo "_law_m_odd", .glo "law", .free "abs", .free "bool", .free "dict", .free "int", .free "isinstance", .free "len", .free "list", .free "max", .free "min", .free "range", .free "str", .free "sum", .free "tuple"]
def exL (K : PySem.W.Frag) : Bool := true
def tsL : List He.Tab := []
def loose0 : List Str := ["trimmed", "add", "number_at", "scaled", "multiply", "determinant", "resultant", "through_values", "_law_cell", "_law_draws", "_law_kind", "_law_equal", "_law_pool", "_law_pick", "_law_m_gcd", "_law_m_f", "_law_m_add", "_law_m_mul", "_law_m_trim", "_law_m_scale", "_law_m_times", "_law_m_all", "_law_m_val", "_law_m_orders", "_law_m_odd"]
def looseL : List Str := loose0
abbrev RR : PySem.W.OpenRow := PySem.W.OpenLaw.row PySem.Challenge.rw_partsproved_k61_determinants_and_resulta
abbrev hkL : PySem.W.Hook := He.hookX 4 faL fnL tsL [] exL
def obL (s : PySem.W.SharedT) : He.AlX := He.obsX 4 faL fnL tsL [] exL (HandSHeadRun.getT s)
theorem obL_eq (s : PySem.W.SharedT) : obL s = hkL.obs s.abs := He.obsX_eq (HandSHeadRun.getT_eq s)
theorem runL (w : World) : HandSHeadRun.RunEq RR (PySem.W.view RR.prog [28]) hkL obL 20000 looseL w := by
  intro os
  kernel_rfl
theorem txtL {w : World} {K : PySem.W.Frag} {h : Heap} {mg : Str → Option Value} (X : K.In h) (G : h.Ns mainGlobals mg) (c : He.SaysD faL fnL K) (ex : exL K = true) : Txt w K mg where
  d_trimmed := ⟨_, _, (c.def_ 0 (d := dd_trimmed) rfl).choose_spec, He.glo_ok X G (c.fact 0 (f := .glo "trimmed") rfl)⟩
  d_number_at := ⟨_, _, (c.def_ 1 (d := dd_number_at) rfl).choose_spec, He.glo_ok X G (c.fact 1 (f := .glo "number_at") rfl)⟩
  d_add := ⟨_, _, (c.def_ 2 (d := dd_add) rfl).choose_spec, He.glo_ok X G (c.fact 2 (f := .glo "add") rfl)⟩
  d_scaled := ⟨_, _, (c.def_ 3 (d := dd_scaled) rfl).choose_spec, He.glo_ok X G (c.fact 3 (f := .glo "scaled") rfl)⟩
  d_multiply := ⟨_, _, (c.def_ 4 (d := dd_multiply) rfl).choose_spec, He.glo_ok X G (c.fact 4 (f := .glo "multiply") rfl)⟩
  d_determinant := ⟨_, _, (c.def_ 5 (d := dd_determinant) rfl).choose_spec, He.glo_ok X G (c.fact 5 (f := .glo "determinant") rfl)⟩
  d_resultant := ⟨_, _, (c.def_ 6 (d := dd_resultant) rfl).choose_spec, He.glo_ok X G (c.fact 6 (f := .glo "resultant") rfl)⟩
  d_through_values := ⟨_, _, (c.def_ 7 (d := dd_through_values) rfl).choose_spec, He.glo_ok X G (c.fact 7 (f := .glo "through_values") rfl)⟩
  d__law_cell := ⟨_, _, (c.def_ 8 (d := dd__law_cell) rfl).choose_spec, He.glo_ok X G (c.fact 8 (f := .glo "_law_cell") rfl)⟩
  d__law_draws := ⟨_, _, (c.def_ 9 (d := dd__law_draws) rfl).choose_spec, He.glo_ok X G (c.fact 9 (f := .glo "_law_draws") rfl)⟩
  d__law_kind := ⟨_, _, (c.def_ 10 (d := dd__law_kind) rfl).choose_spec, He.glo_ok X G (c.fact 10 (f := .glo "_law_kind") rfl)⟩
  d__law_equal := ⟨_, _, (c.def_ 11 (d := dd__law_equal) rfl).choose_spec, He.glo_ok X G (c.fact 11 (f := .glo "_law_equal") rfl)⟩
  d__law_pool := ⟨_, _, (c.def_ 12 (d := dd__law_pool) rfl).choose_spec, He.glo_ok X G (c.fact 12 (f := .glo "_law_pool") rfl)⟩
  d__law_pick := ⟨_, _, (c.def_ 13 (d := dd__law_pick) rfl).choose_spec, He.glo_ok X G (c.fact 13 (f := .glo "_law_pick") rfl)⟩
  d__law_m_gcd := ⟨_, _, (c.def_ 14 (d := dd__law_m_gcd) rfl).choose_spec, He.glo_ok X G (c.fact 14 (f := .glo "_law_m_gcd") rfl)⟩
  d__law_m_f := ⟨_, _, (c.def_ 15 (d := dd__law_m_f) rfl).choose_spec, He.glo_ok X G (c.fact 15 (f := .glo "_law_m_f") rfl)⟩
  d__law_m_add := ⟨_, _, (c.def_ 16 (d := dd__law_m_add) rfl).choose_spec, He.glo_ok X G (c.fact 16 (f := .glo "_law_m_add") rfl)⟩
  d__law_m_mul := ⟨_, _, (c.def_ 17 (d := dd__law_m_mul) rfl).choose_spec, He.glo_ok X G (c.fact 17 (f := .glo "_law_m_mul") rfl)⟩
  d__law_m_trim := ⟨_, _, (c.def_ 18 (d := dd__law_m_trim) rfl).choose_spec, He.glo_ok X G (c.fact 18 (f := .glo "_law_m_trim") rfl)⟩
  d__law_m_scale := ⟨_, _, (c.def_ 19 (d := dd__law_m_scale) rfl).choose_spec, He.glo_ok X G (c.fact 19 (f := .glo "_law_m_scale") rfl)⟩
  d__law_m_times := ⟨_, _, (c.def_ 20 (d := dd__law_m_times) rfl).choose_spec, He.glo_ok X G (c.fact 20 (f := .glo "_law_m_times") rfl)⟩
  d__law_m_all := ⟨_, _, (c.def_ 21 (d := dd__law_m_all) rfl).choose_spec, He.glo_ok X G (c.fact 21 (f := .glo "_law_m_all") rfl)⟩
  d__law_m_val := ⟨_, _, (c.def_ 22 (d := dd__law_m_val) rfl).choose_spec, He.glo_ok X G (c.fact 22 (f := .glo "_law_m_val") rfl)⟩
  d__law_m_orders := ⟨_, _, (c.def_ 23 (d := dd__law_m_orders) rfl).choose_spec, He.glo_ok X G (c.fact 23 (f := .glo "_law_m_orders") rfl)⟩
  d__law_m_odd := ⟨_, _, (c.def_ 24 (d := dd__law_m_odd) rfl).choose_spec, He.glo_ok X G (c.fact 24 (f := .glo "_law_m_odd") rfl)⟩
  d_law := ⟨_, _, (c.def_ 25 (d := dd_law) rfl).choose_spec, He.glo_ok X G (c.fact 25 (f := .glo "law") rfl)⟩
  z_abs := He.free_ok X G (c.fact 26 (f := .free "abs") rfl)
  z_bool := He.free_ok X G (c.fact 27 (f := .free "bool") rfl)
  z_dict := He.free_ok X G (c.fact 28 (f := .free "dict") rfl)
  z_int := He.free_ok X G (c.fact 29 (f := .free "int") rfl)
  z_isinstance := He.free_ok X G (c.fact 30 (f := .free "isinstance") rfl)
  z_len := He.free_ok X G (c.fact 31 (f := .free "len") rfl)
  z_list := He.free_ok X G (c.fact 32 (f := .free "list") rfl)
  z_max := He.free_ok X G (c.fact 33 (f := .free "max") rfl)
  z_min := He.free_ok X G (c.fact 34 (f := .free "min") rfl)
  z_range := He.free_ok X G (c.fact 35 (f := .free "range") rfl)
  z_str := He.free_ok X G (c.fact 36 (f := .free "str") rfl)
  z_sum := He.free_ok X G (c.fact 37 (f := .free "sum") rfl)
  z_tuple := He.free_ok X G (c.fact 38 (f := .free "tuple") rfl)
theorem factsL {P : Program} {w : World} {K : PySem.W.Frag} {h : Heap} {mg : Str → Option Value} {f : Addr} (X : K.In h) (G : h.Ns mainGlobals mg) (hfa : mg ("law" : Str) = some (.ref f)) (c : He.SaysD faL fnL K) (ex : exL K = true) :
    ∃ fd : FuncData, (∀ (s : Shared) (v : Value), BindsTo s fd ⟨[v], []⟩ [("script", v)]) ∧ ∀ base : Heap, K.In base → base.Ns mainGlobals mg → FnOk P w K mg base (CX P w) 23 f fd ["script"] (spF K mg 1 F_law) := by
  have T := txtL (w := w) X G c ex
  obtain ⟨f', fd, F, hm⟩ := T.d_law.ex
  have e := hfa.symm.trans hm
  cases e
  have b := FunD.bindsA (ps := ["script"]) F fun _ _ _ _ _ _ us hl => match us, hl with | [_], _ => rfl
  exact ⟨fd, fun s v => b s [v] rfl, fun base _ _ => fn_at (ps := ["script"]) F sc_law (ok_law_body T)⟩
end Z

open PySem PySem.W PySem.Calls PyProof.Rows
set_option maxRecDepth 100000 in
set_option maxHeartbeats 0 in
theorem PySem.Challenge.cw_partsproved_k61_determinants_and_resulta_holds : PySem.Challenge.rw_partsproved_k61_determinants_and_resulta.Holds := by
  w_on; o_law
  refine HandSHeadRun.head_any (r := OpenLaw.row PySem.Challenge.rw_partsproved_k61_determinants_and_resulta) (q := view (OpenLaw.row PySem.Challenge.rw_partsproved_k61_determinants_and_resulta).prog [28]) (H := Z.hkL) (ob := Z.obL) (M := 20000) (loose := Z.looseL) (d := HandSHeadRun.topDef (OpenLaw.row PySem.Challenge.rw_partsproved_k61_determinants_and_resulta).prog 28) (kwd := []) Z.obL_eq
    (by kernel_rfl) (fun s => by kernel_rfl) Z.runL (by kernel_rfl) (by kernel_rfl) (by kernel_rfl) (by rfl) (by first | assumption | decide +kernel) (by decide +kernel) ⟨rfl, rfl, rfl, rfl, rfl, by decide +kernel⟩ ?hw ?hc
  case hw => w_witness2
  case hc =>
    refine Z.walk_ofZ (l := PySem.Challenge.rw_partsproved_k61_determinants_and_resulta) (n := 63) (k := 23) (x := "script") (CX := fun w => L2.CX PySem.Challenge.rw_partsproved_k61_determinants_and_resulta.prog w) rfl (by decide) (by kernel_rfl) ⟨rfl, by decide, by decide⟩ ?F (fun w H s e s' h => Z.cx_none H s e s' h)
    intro w mg fa h Y G hmg0
    obtain ⟨K, KX, c⟩ := Y
    have hmg : mg ("law" : PySem.Str) = some (.ref fa) := by
      have e : (HandSHeadRun.topDef (OpenLaw.row PySem.Challenge.rw_partsproved_k61_determinants_and_resulta).prog 28).name = ("law" : PySem.Str) := by kernel_rfl
      rw [← e]
      exact hmg0
    obtain ⟨fd, hb, hF⟩ := Z.factsL (P := (PySem.Challenge.rw_partsproved_k61_determinants_and_resulta).prog) (w := w) KX G hmg c.t.d c.more
    exact ⟨K, fd, Z.spF _ _ 1 Z.F_law, KX, hb, Z.law_sp Z.law_true, hF⟩
