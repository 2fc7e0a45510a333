import PyProof.Rows.All
import Wide.All
import OpenK.AllK
import Wide.FinOn
import KE.KStateDown
import Lean
import HandS.ForMost
import HandS.Exc
import HandS.Defaults
import HandS.IsInst
import HandS.Gcd
import HandS.Wide
import HandS.Style
import HandS.TupAny
import HandS.TupLe
import HandS.NoneIn
import HandS.OwnEq
import HandS.Zip
import HandS.Evl
import HandS.Head0
import HandS.Head1
import HandS.Head2
import HandS.Head3
import HandS.HeadEnd
import HandS.HeadHook1
import HandS.HeadHook2
import PySem.Challenge.RW_similarforms_k51_whole_papers_of_ranks
set_option autoImplicit false
namespace K51
open Lean.Grind

/-- a pair in lowest terms, or modulo p -/
def low (p : Nat) (n d : Int) : Int × Int :=
  if p = 0 then
    let n' := if d < 0 then -n else n
    let d' := if d < 0 then -d else d
    (n' / ((Nat.gcd n'.natAbs d'.natAbs : Nat) : Int), d' / ((Nat.gcd n'.natAbs d'.natAbs : Nat) : Int))
  else (n % (p : Int), 1)

/-- a ground: its numbers, as they are written -/
structure Gnd (K : Type) [CommRing K] where
  p : Nat
  nm : K → Int
  dn : K → Int
  inv : K → K
  ic : Int → K
  hp : p = 0 ∨ p = 2 ∨ p = 3 ∨ p = 5 ∨ p = 7
  inj : ∀ x y, nm x = nm y → dn x = dn y → x = y
  q0 : p = 0 → ∀ x, 0 < dn x
  r0 : p ≠ 0 → ∀ x, dn x = 1 ∧ 0 ≤ nm x ∧ nm x < p
  zero : ∀ x, nm x = 0 ↔ x = 0
  one_ne : (1 : K) ≠ 0
  minv : ∀ x, x ≠ 0 → x * inv x = 1
  add : ∀ x y, low p (nm x * dn y + nm y * dn x) (dn x * dn y) = (nm (x + y), dn (x + y))
  sub : ∀ x y, low p (nm x * dn y - nm y * dn x) (dn x * dn y) = (nm (x - y), dn (x - y))
  mul : ∀ x y, low p (nm x * nm y) (dn x * dn y) = (nm (x * y), dn (x * y))
  neg : ∀ x, low p (-nm x) (dn x) = (nm (-x), dn (-x))
  inv0 : p = 0 → ∀ x, x ≠ 0 → low 0 (dn x) (nm x) = (nm (inv x), dn (inv x))
  invp : p ≠ 0 → ∀ x, x ≠ 0 → (nm x ^ (p - 2)) % (p : Int) = nm (inv x)
  int : ∀ n : Int, low p n 1 = (nm (ic n), dn (ic n))
  ic_mul : ∀ a b, ic (a * b) = ic a * ic b
  ic_sub : ∀ a b, ic (a - b) = ic a - ic b
  ic_one : ic 1 = 1

/-! ### the rationals -/
theorem low_mkRat (n : Int) (d : Nat) (h : d ≠ 0) : low 0 n d = ((mkRat n d).num, ((mkRat n d).den : Int)) := by
  have h1 : ¬ ((d : Int) < 0) := by omega
  rw [← Rat.normalize_eq_mkRat h, Rat.num_normalize, Rat.den_normalize]
  unfold low
  simp only [if_pos, if_neg h1]
  simp
theorem low_neg (n d : Int) (h : d < 0) : low 0 n d = low 0 (-n) (-d) := by
  have h1 : ¬ (-d < 0) := by omega
  unfold low
  simp only [if_pos, h, if_neg h1]
theorem low_copr (n : Int) (d : Int) (hd : 0 < d) (h : Nat.gcd n.natAbs d.natAbs = 1) : low 0 n d = (n, d) := by
  have h1 : ¬ (d < 0) := by omega
  unfold low
  simp only [if_pos, if_neg h1, h]
  simp
theorem den_ne (x : Rat) : x.den ≠ 0 := x.den_nz

def gq : Gnd Rat where
  p := 0
  nm := fun x => x.num
  dn := fun x => x.den
  inv := fun x => x⁻¹
  ic := fun n => (n : Rat)
  hp := .inl rfl
  inj := fun x y h1 h2 => Rat.ext h1 (Int.ofNat.inj h2)
  q0 := fun _ x => by
    have := x.den_nz
    omega
  r0 := fun h => absurd rfl h
  zero := fun x => Rat.num_eq_zero
  one_ne := by decide
  minv := fun x h => Rat.mul_inv_cancel x h
  add := fun x y => by
    rw [← Int.natCast_mul, low_mkRat _ _ (Nat.mul_ne_zero (den_ne x) (den_ne y)), ← Rat.add_def']
  sub := fun x y => by
    rw [← Int.natCast_mul, low_mkRat _ _ (Nat.mul_ne_zero (den_ne x) (den_ne y)), ← Rat.sub_def']
  mul := fun x y => by
    rw [← Int.natCast_mul, low_mkRat _ _ (Nat.mul_ne_zero (den_ne x) (den_ne y)), ← Rat.mul_def']
  neg := fun x => by
    rw [low_mkRat _ _ (den_ne x), ← Rat.neg_mkRat, Rat.mkRat_self]
  inv0 := fun _ x hx => by
    have hn : x.num ≠ 0 := fun e => hx (Rat.num_eq_zero.mp e)
    have hr := x.reduced
    have hr' : Nat.gcd x.num.natAbs x.den = 1 := hr
    rcases Int.lt_or_gt_of_ne hn with h | h
    · rw [low_neg _ _ h, low_copr _ _ (by omega) (by
        rw [Int.natAbs_neg, Int.natAbs_neg, Int.natAbs_natCast, Nat.gcd_comm]
        exact hr')]
      rw [Rat.num_inv, Rat.den_inv, if_neg hn, Int.sign_eq_neg_one_of_neg h]
      refine Prod.ext ?_ ?_
      · show -(x.den : Int) = -1 * x.den
        omega
      · show -x.num = ((x.num.natAbs : Nat) : Int)
        omega
    · rw [low_copr _ _ (by omega) (by
        rw [Int.natAbs_natCast, Nat.gcd_comm]
        exact hr')]
      rw [Rat.num_inv, Rat.den_inv, if_neg hn, Int.sign_eq_one_of_pos h]
      refine Prod.ext ?_ ?_
      · show (x.den : Int) = 1 * x.den
        omega
      · show x.num = ((x.num.natAbs : Nat) : Int)
        omega
  invp := fun h => absurd rfl h
  int := fun n => by
    have e := low_mkRat n 1 (by decide)
    rw [show ((1 : Nat) : Int) = 1 from rfl] at e
    rw [e]
    have : mkRat n 1 = ((n : Int) : Rat) := Rat.mkRat_one n
    rw [this]
  ic_mul := fun a b => Rat.intCast_mul a b
  ic_sub := fun a b => Rat.intCast_sub a b
  ic_one := rfl

/-! ### the numbers modulo a prime -/
open Fin.NatCast Fin.IntCast in
theorem int_fin (p : Nat) [NeZero p] (n : Int) : n % (p : Int) = (((n : Fin p)).val : Int) := by
  have hp : p ≠ 0 := NeZero.ne p
  show n % (p : Int) = (((Fin.intCast n : Fin p)).val : Int)
  unfold Fin.intCast
  split
  · rename_i h
    show _ = ((n.natAbs % p : Nat) : Int)
    have h1 : n = ((n.natAbs : Nat) : Int) := by omega
    rw [Int.natCast_emod, ← h1]
  · rename_i h
    show _ = (((p - (n.natAbs % p)) % p : Nat) : Int)
    have h1 : n = -((n.natAbs : Nat) : Int) := by omega
    have h2 : n.natAbs % p < p := Nat.mod_lt _ (by omega)
    by_cases h3 : n.natAbs % p = 0
    · rw [h3, Nat.sub_zero, Nat.mod_self]
      rw [h1]
      have : ((n.natAbs : Nat) : Int) % (p : Int) = 0 := by
        rw [← Int.natCast_emod, h3]
        rfl
      exact Int.emod_eq_zero_of_dvd (Int.dvd_neg.mpr (Int.dvd_of_emod_eq_zero this))
    · rw [Nat.mod_eq_of_lt (show p - n.natAbs % p < p by omega)]
      have e : ((n.natAbs : Nat) : Int) = (p : Int) * ((n.natAbs / p : Nat) : Int) + ((n.natAbs % p : Nat) : Int) := by
        rw [← Int.natCast_mul, ← Int.natCast_add, Nat.div_add_mod]
      have e2 : n = ((p - n.natAbs % p : Nat) : Int) + (p : Int) * (-(((n.natAbs / p : Nat) : Int)) - 1) := by
        rw [Int.mul_sub, Int.mul_neg]
        have h4 : ((p - n.natAbs % p : Nat) : Int) = (p : Int) - ((n.natAbs % p : Nat) : Int) := by omega
        rw [h4]
        generalize (p : Int) * ((n.natAbs / p : Nat) : Int) = q at e ⊢
        omega
      conv => lhs; rw [e2]
      rw [Int.add_mul_emod_self_left]
      exact Int.emod_eq_of_lt (by omega) (by omega)

theorem fin_mulI (p : Nat) [NeZero p] (x y : Fin p) : ((x.val : Int) * (y.val : Int)) % (p : Int) = ((x * y).val : Int) := by
  rw [Fin.val_mul, ← Int.natCast_mul, ← Int.natCast_emod]
theorem fin_subI (p : Nat) [NeZero p] (x y : Fin p) : ((x.val : Int) - (y.val : Int)) % (p : Int) = ((x - y).val : Int) := by
  have h1 := x.isLt
  have h2 := y.isLt
  have e : ((x - y).val) = (p - y.val + x.val) % p := rfl
  rw [e, Int.natCast_emod]
  have e2 : ((p - y.val + x.val : Nat) : Int) = ((x.val : Int) - (y.val : Int)) + (p : Int) * 1 := by omega
  rw [e2, Int.add_mul_emod_self_left]
open Fin.NatCast Fin.IntCast in
def icf (p : Nat) [NeZero p] (n : Int) : Fin p := (n : Fin p)
theorem icf_val (p : Nat) [NeZero p] (n : Int) : ((icf p n).val : Int) = n % (p : Int) := (int_fin p n).symm
theorem icf_mul (p : Nat) [NeZero p] (a b : Int) : icf p (a * b) = icf p a * icf p b := by
  refine Fin.ext (Int.ofNat.inj ?_)
  show ((icf p (a * b)).val : Int) = ((icf p a * icf p b).val : Int)
  rw [← fin_mulI, icf_val, icf_val, icf_val, ← Int.mul_emod]
theorem icf_sub (p : Nat) [NeZero p] (a b : Int) : icf p (a - b) = icf p a - icf p b := by
  refine Fin.ext (Int.ofNat.inj ?_)
  show ((icf p (a - b)).val : Int) = ((icf p a - icf p b).val : Int)
  rw [← fin_subI, icf_val, icf_val, icf_val, ← Int.sub_emod]
def gfin (p : Nat) [NeZero p] (hp : p = 2 ∨ p = 3 ∨ p = 5 ∨ p = 7) (h0 : p ≠ 0)
    (one_ne : (1 : Fin p) ≠ 0)
    (minv : ∀ x : Fin p, x ≠ 0 → x * (x ^ (p - 2)) = 1)
    (add : ∀ x y : Fin p, ((x.val : Int) + (y.val : Int)) % (p : Int) = ((x + y).val : Int))
    (neg : ∀ x : Fin p, (-(x.val : Int)) % (p : Int) = ((-x).val : Int))
    (pw : ∀ x : Fin p, ((x.val : Int) ^ (p - 2)) % (p : Int) = ((x ^ (p - 2)).val : Int)) : Gnd (Fin p) where
  p := p
  nm := fun x => x.val
  dn := fun _ => 1
  inv := fun x => x ^ (p - 2)
  ic := icf p
  hp := .inr hp
  inj := fun x y h1 _ => Fin.ext (Int.ofNat.inj h1)
  q0 := fun h => absurd h h0
  r0 := fun _ x => ⟨rfl, by omega, by have := x.isLt; omega⟩
  zero := fun x => ⟨fun h => Fin.ext (by
      have h1 : ((x.val : Nat) : Int) = 0 := h
      have h2 : x.val = 0 := by omega
      rw [h2]
      show 0 = 0 % p
      simp), fun h => by
      rw [h]
      show ((0 % p : Nat) : Int) = 0
      simp⟩
  one_ne := one_ne
  minv := minv
  add := fun x y => by
    unfold low
    rw [if_neg h0, Int.mul_one, Int.mul_one, add]
  sub := fun x y => by
    unfold low
    rw [if_neg h0, Int.mul_one, Int.mul_one, fin_subI]
  mul := fun x y => by
    unfold low
    rw [if_neg h0, fin_mulI]
  neg := fun x => by
    unfold low
    rw [if_neg h0, neg]
  inv0 := fun h => absurd h h0
  invp := fun _ x _ => pw x
  int := fun n => by
    unfold low
    rw [if_neg h0, ← icf_val]
  ic_mul := icf_mul p
  ic_sub := icf_sub p
  ic_one := rfl

def g2 : Gnd (Fin 2) := gfin 2 (by decide) (by decide) (by decide) (by decide) (by decide) (by decide) (by decide)
def g3 : Gnd (Fin 3) := gfin 3 (by decide) (by decide) (by decide) (by decide) (by decide) (by decide) (by decide)
def g5 : Gnd (Fin 5) := gfin 5 (by decide) (by decide) (by decide) (by decide) (by decide) (by decide) (by decide)
def g7 : Gnd (Fin 7) := gfin 7 (by decide) (by decide) (by decide) (by decide) (by decide) (by decide) (by decide)
end K51

set_option autoImplicit false
namespace K51
open Lean.Grind
section
variable {K : Type} [CommRing K]

/-! ### sums -/
def sumN (n : Nat) (f : Nat → K) : K := (List.range n).foldl (fun t k => t + f k) 0
theorem sumN_zero (f : Nat → K) : sumN 0 f = 0 := rfl
theorem sumN_succ (n : Nat) (f : Nat → K) : sumN (n + 1) f = sumN n f + f n := by
  unfold sumN
  rw [List.range_succ, List.foldl_append]
  rfl
theorem sumN_congr {n : Nat} {f g : Nat → K} (h : ∀ k, k < n → f k = g k) : sumN n f = sumN n g := by
  induction n with
  | zero => rfl
  | succ n ih =>
    rw [sumN_succ, sumN_succ, ih fun k hk => h k (by omega), h n (by omega)]
theorem sumN_z {n : Nat} {f : Nat → K} (h : ∀ k, k < n → f k = 0) : sumN n f = 0 := by
  induction n with
  | zero => rfl
  | succ n ih =>
    rw [sumN_succ, ih fun k hk => h k (by omega), h n (by omega)]
    grind
theorem sumN_lin (n : Nat) (f g : Nat → K) (c : K) : sumN n (fun k => f k + c * g k) = sumN n f + c * sumN n g := by
  induction n with
  | zero =>
    rw [sumN_zero, sumN_zero, sumN_zero]
    grind
  | succ n ih =>
    rw [sumN_succ, sumN_succ, sumN_succ, ih]
    grind
theorem sumN_mulr (n : Nat) (f : Nat → K) (c : K) : sumN n (fun k => f k * c) = sumN n f * c := by
  induction n with
  | zero =>
    rw [sumN_zero, sumN_zero]
    grind
  | succ n ih =>
    rw [sumN_succ, sumN_succ, ih]
    grind
theorem sumN_mull (n : Nat) (f : Nat → K) (c : K) : sumN n (fun k => c * f k) = c * sumN n f := by
  induction n with
  | zero =>
    rw [sumN_zero, sumN_zero]
    grind
  | succ n ih =>
    rw [sumN_succ, sumN_succ, ih]
    grind
theorem sumN_add (n : Nat) (f g : Nat → K) : sumN n (fun k => f k + g k) = sumN n f + sumN n g := by
  induction n with
  | zero =>
    rw [sumN_zero, sumN_zero, sumN_zero]
    grind
  | succ n ih =>
    rw [sumN_succ, sumN_succ, sumN_succ, ih]
    grind
theorem sumN_swap (n m : Nat) (f : Nat → Nat → K) : sumN n (fun i => sumN m fun j => f i j) = sumN m fun j => sumN n fun i => f i j := by
  induction n with
  | zero =>
    rw [sumN_zero]
    exact (sumN_z fun _ _ => rfl).symm
  | succ n ih =>
    rw [sumN_succ, ih, ← sumN_add]
    exact sumN_congr fun j _ => (sumN_succ n fun i => f i j).symm
theorem sumN_one {n i : Nat} {f : Nat → K} (hi : i < n) (h : ∀ k, k < n → k ≠ i → f k = 0) : sumN n f = f i := by
  induction n with
  | zero => omega
  | succ n ih =>
    rw [sumN_succ]
    by_cases e : i = n
    · subst e
      rw [sumN_z fun k hk => h k (by omega) (by omega)]
      grind
    · rw [ih (by omega) fun k hk hne => h k (by omega) hne, h n (by omega) (by omega)]
      grind

/-! ### spans -/
inductive Spn (rs : List (Nat → K)) : (Nat → K) → Prop where
  | zero : Spn rs (fun _ => 0)
  | add {x : Nat → K} (c : K) {r : Nat → K} (h : Spn rs x) (hr : r ∈ rs) : Spn rs (fun j => x j + c * r j)
theorem Spn.of_eq {rs : List (Nat → K)} {x y : Nat → K} (h : Spn rs x) (e : ∀ j, y j = x j) : Spn rs y := by
  have : y = x := funext e
  rw [this]
  exact h
theorem Spn.mem {rs : List (Nat → K)} {r : Nat → K} (h : r ∈ rs) : Spn rs r := (Spn.add 1 Spn.zero h).of_eq fun j => by grind
theorem Spn.lin {rs : List (Nat → K)} {x y : Nat → K} (hx : Spn rs x) (hy : Spn rs y) (c : K) : Spn rs (fun j => x j + c * y j) := by
  induction hy with
  | zero => exact hx.of_eq fun j => by grind
  | @add y a r _ hr ih => exact (ih.add (c * a) hr).of_eq fun j => by grind
theorem Spn.smul {rs : List (Nat → K)} {x : Nat → K} (hx : Spn rs x) (c : K) : Spn rs (fun j => c * x j) := (Spn.lin Spn.zero hx c).of_eq fun j => by grind
theorem Spn.trans {rs ts : List (Nat → K)} {x : Nat → K} (hx : Spn rs x) (h : ∀ r, r ∈ rs → Spn ts r) : Spn ts x := by
  induction hx with
  | zero => exact .zero
  | add c _ hr ih => exact ih.lin (h _ hr) c
/-- what is true of the generators, and linear, is true of the span -/
theorem Spn.ind {rs : List (Nat → K)} {P : (Nat → K) → Prop} (h0 : P fun _ => 0) (ha : ∀ x c r, P x → r ∈ rs → P (fun j => x j + c * r j)) {x : Nat → K} (hx : Spn rs x) : P x := by
  induction hx with
  | zero => exact h0
  | add c _ hr ih => exact ha _ c _ ih hr
theorem Spn.cons {w : Nat → K} {rs : List (Nat → K)} {x : Nat → K} (hx : Spn (w :: rs) x) : ∃ c, Spn rs (fun j => x j + c * w j) := by
  induction hx with
  | zero => exact ⟨0, Spn.zero.of_eq fun j => by grind⟩
  | @add x a r _ hr ih =>
    obtain ⟨c, hc⟩ := ih
    rcases List.mem_cons.mp hr with e | hm
    · exact ⟨c - a, hc.of_eq fun j => by rw [e]; grind⟩
    · exact ⟨c, (hc.add a hm).of_eq fun j => by grind⟩
theorem Spn.nil {x : Nat → K} (hx : Spn [] x) : ∀ j, x j = 0 := by
  induction hx with
  | zero => exact fun _ => rfl
  | add _ _ hr _ => cases hr
/-- the coefficients -/
theorem Spn.coef {rs : List (Nat → K)} {x : Nat → K} (hx : Spn rs x) : ∃ t : Nat → K, ∀ j, x j = sumN rs.length fun i => t i * (rs.getD i fun _ => 0) j := by
  induction hx with
  | zero => exact ⟨fun _ => 0, fun j => (sumN_z fun k _ => by grind).symm⟩
  | @add x a r _ hr ih =>
    obtain ⟨t, ht⟩ := ih
    obtain ⟨m, hm, e⟩ := List.getElem_of_mem hr
    refine ⟨fun i => t i + a * (if i = m then 1 else 0), fun j => ?_⟩
    have h1 : (sumN rs.length fun i => (t i + a * (if i = m then 1 else 0)) * (rs.getD i fun _ => 0) j) = (sumN rs.length fun i => t i * (rs.getD i fun _ => 0) j) + a * sumN rs.length fun i => (if i = m then 1 else 0) * (rs.getD i fun _ => 0) j := by
      rw [← sumN_lin]
      exact sumN_congr fun k _ => by grind
    rw [h1, ← ht j, sumN_one (i := m) hm fun k hk hne => by rw [if_neg hne]; grind]
    rw [if_pos rfl, List.getD_eq_getElem?_getD, List.getElem?_eq_getElem hm, e]
    show x j + a * r j = x j + a * (1 * r j)
    grind

/-! ### no more independent rows than generators -/
structure Lin (φ : (Nat → K) → K) : Prop where
  zero : φ (fun _ => 0) = 0
  lin : ∀ x y c, φ (fun j => x j + c * y j) = φ x + c * φ y
end
section
variable {K : Type} [CommRing K]
open Classical in
theorem steinitz (inv : K → K) (h01 : (1 : K) ≠ 0) (minv : ∀ x : K, x ≠ 0 → x * inv x = 1) : ∀ (W : List (Nat → K)) (ps : List ((Nat → K) × ((Nat → K) → K))),
    (∀ a, a ∈ ps → Lin a.2 ∧ a.2 a.1 = 1 ∧ Spn W a.1) → ps.Pairwise (fun a b => a.2 b.1 = 0 ∧ b.2 a.1 = 0) → ps.length ≤ W.length := by
  intro W
  induction W with
  | nil =>
    intro ps h _
    cases ps with
    | nil => exact Nat.le_refl _
    | cons a r =>
      obtain ⟨l, e, s⟩ := h a (List.mem_cons_self ..)
      have z : a.1 = fun _ => 0 := funext s.nil
      rw [z, l.zero] at e
      exact absurd e.symm h01
  | cons w W ih =>
    intro ps h hp
    by_cases hall : ∀ a, a ∈ ps → Spn W a.1
    · have := ih ps (fun a ha => ⟨(h a ha).1, (h a ha).2.1, hall a ha⟩) hp
      rw [List.length_cons]
      omega
    · have ⟨a0, h0, hn⟩ : ∃ a, a ∈ ps ∧ ¬ Spn W a.1 := by
        by_cases q : ∃ a, a ∈ ps ∧ ¬ Spn W a.1
        · exact q
        · exact absurd (fun a ha => by
            by_cases s : Spn W a.1
            · exact s
            · exact absurd ⟨a, ha, s⟩ q) hall
      obtain ⟨p1, p2, rfl⟩ := List.append_of_mem h0
      obtain ⟨c0, hc0⟩ := (h a0 h0).2.2.cons
      have c0n : c0 ≠ 0 := fun e => hn (hc0.of_eq fun j => by rw [e]; grind)
      have sym : ∀ (a b : (Nat → K) × ((Nat → K) → K)), (a.2 b.1 = 0 ∧ b.2 a.1 = 0) → (b.2 a.1 = 0 ∧ a.2 b.1 = 0) := fun a b q => ⟨q.2, q.1⟩
      have hperm : (p1 ++ a0 :: p2).Perm (a0 :: (p1 ++ p2)) := List.perm_middle
      have hp' : (a0 :: (p1 ++ p2)).Pairwise (fun a b => a.2 b.1 = 0 ∧ b.2 a.1 = 0) := (hperm.pairwise_iff (fun {a b} q => sym a b q)).mp hp
      obtain ⟨q1, q2⟩ := List.pairwise_cons.mp hp'
      have hex : ∀ a, a ∈ p1 ++ p2 → ∃ b, Spn W (fun j => a.1 j + b * a0.1 j) := fun a ha => by
        have ha' : a ∈ p1 ++ a0 :: p2 := hperm.symm.subset (List.mem_cons_of_mem _ ha)
        obtain ⟨c, hc⟩ := (h a ha').2.2.cons
        refine ⟨-(c * inv c0), (hc.lin hc0 (-(c * inv c0))).of_eq fun j => ?_⟩
        have e := minv c0 c0n
        grind
      let f : (Nat → K) × ((Nat → K) → K) → K := fun a => if q : ∃ b, Spn W (fun j => a.1 j + b * a0.1 j) then Classical.choose q else 0
      have hf : ∀ a, a ∈ p1 ++ p2 → Spn W (fun j => a.1 j + f a * a0.1 j) := fun a ha => by
        have q := hex a ha
        have e : f a = Classical.choose q := dif_pos q
        rw [e]
        exact Classical.choose_spec q
      have key := ih ((p1 ++ p2).map fun a => (fun j => a.1 j + f a * a0.1 j, a.2)) (fun b hb => by
          obtain ⟨a, ha, rfl⟩ := List.mem_map.mp hb
          have ha' : a ∈ p1 ++ a0 :: p2 := hperm.symm.subset (List.mem_cons_of_mem _ ha)
          obtain ⟨l, e, _⟩ := h a ha'
          refine ⟨l, ?_, hf a ha⟩
          show a.2 (fun j => a.1 j + f a * a0.1 j) = 1
          rw [l.lin, e, (q1 a ha).2]
          grind) (by
          rw [List.pairwise_map]
          refine q2.imp_of_mem fun {a b} ha hb q => ?_
          have la := (h a (hperm.symm.subset (List.mem_cons_of_mem _ ha))).1
          have lb := (h b (hperm.symm.subset (List.mem_cons_of_mem _ hb))).1
          refine ⟨?_, ?_⟩
          · show a.2 (fun j => b.1 j + f b * a0.1 j) = 0
            rw [la.lin, q.1, (q1 a ha).2]
            grind
          · show b.2 (fun j => a.1 j + f a * a0.1 j) = 0
            rw [lb.lin, q.2, (q1 b hb).2]
            grind)
      rw [List.length_map] at key
      rw [hperm.length_eq, List.length_cons, List.length_cons]
      omega
end
end K51

set_option autoImplicit false
namespace K51
open Lean.Grind
section
variable {K : Type} [CommRing K] [DecidableEq K]

/-- a row as a function -/
def vec (r : List K) : Nat → K := fun j => r.getD j 0
theorem vec_out {r : List K} {j : Nat} (h : r.length ≤ j) : vec r j = 0 := by
  unfold vec
  rw [List.getD_eq_getElem?_getD, List.getElem?_eq_none h]
  rfl
theorem vec_at {r : List K} {j : Nat} {x : K} (h : r[j]? = some x) : vec r j = x := by
  unfold vec
  rw [List.getD_eq_getElem?_getD, h]
  rfl
theorem vec_map (f : K → K) (h0 : f 0 = 0) (r : List K) (j : Nat) : vec (r.map f) j = f (vec r j) := by
  unfold vec
  rw [List.getD_eq_getElem?_getD, List.getD_eq_getElem?_getD, List.getElem?_map]
  cases r[j]? with
  | none => exact h0.symm
  | some x => rfl
theorem vec_ext {r s : List K} (hl : r.length = s.length) (h : ∀ j, j < r.length → vec r j = vec s j) : r = s := by
  refine List.ext_getElem hl fun j h1 h2 => ?_
  have e := h j h1
  rw [vec_at (List.getElem?_eq_getElem h1), vec_at (List.getElem?_eq_getElem h2)] at e
  exact e

/-- a row less the multiple of another one -/
def lessK (row own : List K) (c : Nat) : List K := if vec row c = 0 then row else List.zipWith (fun x y => x - vec row c * y) row own
theorem lessK_len {row own : List K} {c : Nat} (h : row.length = own.length) : (lessK row own c).length = row.length := by
  unfold lessK
  split
  · rfl
  · rw [List.length_zipWith, h, Nat.min_self]
theorem lessK_vec {row own : List K} {c : Nat} (h : row.length = own.length) (j : Nat) : vec (lessK row own c) j = vec row j - vec row c * vec own j := by
  unfold lessK
  split
  · rename_i e
    rw [e]
    grind
  · by_cases hj : j < row.length
    · have h1 : row[j]? = some row[j] := List.getElem?_eq_getElem hj
      have h2 : own[j]? = some (own[j]'(h ▸ hj)) := List.getElem?_eq_getElem (h ▸ hj)
      rw [vec_at (r := List.zipWith _ _ _) (x := row[j] - vec row c * own[j]'(h ▸ hj)) (by rw [List.getElem?_zipWith, h1, h2]), vec_at h1, vec_at h2]
    · rw [vec_out (r := List.zipWith _ _ _) (by rw [List.length_zipWith]; omega), vec_out (r := row) (by omega), vec_out (r := own) (by omega)]
      grind

/-- the state: the rest, the rows found with their pivots -/
structure RS (K : Type) where
  rest : List (List K)
  fp : List (List K × Nat)
def places (rest : List (List K)) (c : Nat) : List Nat := (List.range rest.length).filter fun i => decide (¬ vec (rest.getD i []) c = 0)
def ownK (inv : K → K) (rest : List (List K)) (c i : Nat) : List K := (rest.getD i []).map fun x => inv (vec (rest.getD i []) c) * x
def redStep (inv : K → K) (s : RS K) (c : Nat) : RS K :=
  match places s.rest c with
  | [] => s
  | i :: _ =>
    let own := ownK inv s.rest c i
    ⟨(s.rest.take i ++ s.rest.drop (i + 1)).map fun r => lessK r own c, (s.fp.map fun a => (lessK a.1 own c, a.2)) ++ [(own, c)]⟩
def redN (inv : K → K) (rows : List (List K)) (n : Nat) : RS K := (List.range n).foldl (redStep inv) ⟨rows, []⟩
theorem redN_zero (inv : K → K) (rows : List (List K)) : redN inv rows 0 = ⟨rows, []⟩ := rfl
theorem redN_succ (inv : K → K) (rows : List (List K)) (n : Nat) : redN inv rows (n + 1) = redStep inv (redN inv rows n) n := by
  unfold redN
  rw [List.range_succ, List.foldl_append]
  rfl
theorem places_mem {rest : List (List K)} {c i : Nat} (h : i ∈ places rest c) : i < rest.length ∧ vec (rest.getD i []) c ≠ 0 := by
  obtain ⟨h1, h2⟩ := List.mem_filter.mp h
  exact ⟨List.mem_range.mp h1, of_decide_eq_true h2⟩
theorem places_nil {rest : List (List K)} {c : Nat} (h : places rest c = []) : ∀ r, r ∈ rest → vec r c = 0 := fun r hr => by
  obtain ⟨i, hi, e⟩ := List.getElem_of_mem hr
  by_cases q : vec r c = 0
  · exact q
  · have hm : i ∈ places rest c := List.mem_filter.mpr ⟨List.mem_range.mpr hi, decide_eq_true (by
      rw [List.getD_eq_getElem?_getD, List.getElem?_eq_getElem hi, e]
      exact q)⟩
    rw [h] at hm
    cases hm
/-- the two cases of a step -/
theorem redStep_cases (inv : K → K) (s : RS K) (c : Nat) :
    (redStep inv s c = s ∧ places s.rest c = [] ∧ ∀ r, r ∈ s.rest → vec r c = 0) ∨
    ∃ i l pre own0 post, places s.rest c = i :: l ∧ s.rest = pre ++ own0 :: post ∧ pre.length = i ∧ vec own0 c ≠ 0 ∧ s.rest.getD i [] = own0 ∧ ownK inv s.rest c i = own0.map (fun x => inv (vec own0 c) * x) ∧
      redStep inv s c = ⟨(pre ++ post).map fun r => lessK r (own0.map fun x => inv (vec own0 c) * x) c, (s.fp.map fun a => (lessK a.1 (own0.map fun x => inv (vec own0 c) * x) c, a.2)) ++ [(own0.map fun x => inv (vec own0 c) * x, c)]⟩ := by
  cases e : places s.rest c with
  | nil =>
    refine .inl ⟨?_, rfl, places_nil e⟩
    unfold redStep
    rw [e]
  | cons i l =>
    refine .inr ?_
    obtain ⟨hi, hv⟩ := places_mem (rest := s.rest) (c := c) (i := i) (by rw [e]; exact List.mem_cons_self ..)
    have hg : s.rest.getD i [] = s.rest[i] := by rw [List.getD_eq_getElem?_getD, List.getElem?_eq_getElem hi] <;> rfl
    rw [hg] at hv
    refine ⟨i, l, s.rest.take i, s.rest[i], s.rest.drop (i + 1), rfl, ?_, ?_, hv, hg, ?_, ?_⟩
    · rw [← List.drop_eq_getElem_cons hi, List.take_append_drop]
    · rw [List.length_take]
      omega
    · unfold ownK
      rw [hg]
    · unfold redStep
      rw [e]
      show RS.mk _ _ = _
      unfold ownK
      rw [hg]

/-- what holds behind each column -/
structure RInv (w : Nat) (R : List (List K)) (c : Nat) (s : RS K) : Prop where
  wr : ∀ r, r ∈ s.rest → r.length = w
  wf : ∀ a, a ∈ s.fp → a.1.length = w
  cnt : s.rest.length + s.fp.length = R.length
  sp1 : ∀ x, Spn (R.map vec) x → Spn (s.rest.map vec ++ s.fp.map fun a => vec a.1) x
  sp2 : ∀ r, r ∈ s.rest → Spn (R.map vec) (vec r)
  sp3 : ∀ a, a ∈ s.fp → Spn (R.map vec) (vec a.1)
  d0 : ∀ a, a ∈ s.fp → vec a.1 a.2 = 1
  d1 : s.fp.Pairwise fun a b => vec a.1 b.2 = 0 ∧ vec b.1 a.2 = 0 ∧ a.2 < b.2
  d2 : ∀ r, r ∈ s.rest → ∀ a, a ∈ s.fp → vec r a.2 = 0
  z : ∀ r, r ∈ s.rest → ∀ j, j < c → vec r j = 0
  pv : ∀ a, a ∈ s.fp → a.2 < c
  g : ∀ a, a ∈ s.fp → ∀ j, j < a.2 → vec a.1 j = 0

theorem RInv.start {w : Nat} {R : List (List K)} (h : ∀ r, r ∈ R → r.length = w) : RInv w R 0 ⟨R, []⟩ where
  wr := h
  wf := fun a ha => by cases ha
  cnt := rfl
  sp1 := fun x hx => hx.trans fun r hr => .mem (List.mem_append_left _ hr)
  sp2 := fun r hr => .mem (List.mem_map_of_mem hr)
  sp3 := fun a ha => by cases ha
  d0 := fun a ha => by cases ha
  d1 := List.Pairwise.nil
  d2 := fun _ _ a ha => by cases ha
  z := fun _ _ j hj => absurd hj (Nat.not_lt_zero j)
  pv := fun a ha => by cases ha
  g := fun a ha => by cases ha

theorem RInv.step {w : Nat} {R : List (List K)} {c : Nat} {s : RS K} {inv : K → K} (minv : ∀ x : K, x ≠ 0 → x * inv x = 1) (I : RInv w R c s) : RInv w R (c + 1) (redStep inv s c) := by
  rcases redStep_cases inv s c with ⟨e, _, hz⟩ | ⟨i, l, pre, own0, post, _, hs, hpre, hv, _, _, e⟩
  · rw [e]
    refine ⟨I.wr, I.wf, I.cnt, I.sp1, I.sp2, I.sp3, I.d0, I.d1, I.d2, fun r hr j hj => ?_, fun a ha => Nat.lt_succ_of_lt (I.pv a ha), I.g⟩
    by_cases q : j < c
    · exact I.z r hr j q
    · have : j = c := by omega
      rw [this]
      exact hz r hr
  · rw [e]
    have hm0 : own0 ∈ s.rest := by
      rw [hs]
      exact List.mem_append_right _ (List.mem_cons_self ..)
    have hsub : ∀ r, r ∈ pre ++ post → r ∈ s.rest := fun r hr => by
      rw [hs]
      rcases List.mem_append.mp hr with q | q
      · exact List.mem_append_left _ q
      · exact List.mem_append_right _ (List.mem_cons_of_mem _ q)
    have hmi := minv _ hv
    generalize hh : inv (vec own0 c) = hd at *
    have ov : ∀ j, vec (own0.map fun x => hd * x) j = hd * vec own0 j := fun j => vec_map (fun x => hd * x) (by show hd * 0 = 0; grind) own0 j
    have olen : (own0.map fun x => hd * x).length = w := by rw [List.length_map, I.wr own0 hm0]
    generalize hown : (own0.map fun x => hd * x) = own at *
    have o1 : vec own c = 1 := by
      rw [ov]
      grind
    have oz : ∀ j, j < c → vec own j = 0 := fun j hj => by
      rw [ov, I.z own0 hm0 j hj]
      grind
    have od : ∀ a, a ∈ s.fp → vec own a.2 = 0 := fun a ha => oz a.2 (I.pv a ha)
    have lr : ∀ r, r ∈ pre ++ post → ∀ j, vec (lessK r own c) j = vec r j - vec r c * vec own j := fun r hr j => lessK_vec (by rw [I.wr r (hsub r hr), olen]) j
    have lf : ∀ a, a ∈ s.fp → ∀ j, vec (lessK a.1 own c) j = vec a.1 j - vec a.1 c * vec own j := fun a ha j => lessK_vec (by rw [I.wf a ha, olen]) j
    have spo : Spn (R.map vec) (vec own) := (I.sp2 own0 hm0).smul hd |>.of_eq ov
    refine ⟨fun r hr => ?_, fun a ha => ?_, ?_, fun x hx => ?_, fun r hr => ?_, fun a ha => ?_, fun a ha => ?_, ?_, fun r hr a ha => ?_, fun r hr j hj => ?_, fun a ha => ?_, fun a ha j hj => ?_⟩
    · obtain ⟨r0, h0, rfl⟩ := List.mem_map.mp hr
      rw [lessK_len (by rw [I.wr r0 (hsub r0 h0), olen]), I.wr r0 (hsub r0 h0)]
    · rcases List.mem_append.mp ha with q | q
      · obtain ⟨a0, h0, rfl⟩ := List.mem_map.mp q
        show (lessK a0.1 own c).length = w
        rw [lessK_len (by rw [I.wf a0 h0, olen]), I.wf a0 h0]
      · have : a = (own, c) := List.mem_singleton.mp q
        rw [this]
        exact olen
    · have := I.cnt
      rw [hs, List.length_append, List.length_cons] at this
      show ((pre ++ post).map _).length + _ = _
      rw [List.length_map, List.length_append, List.length_append, List.length_map, List.length_singleton]
      omega
    · refine (I.sp1 x hx).trans fun r hr => ?_
      have hin : ∀ v, v ∈ ((pre ++ post).map fun r => lessK r own c).map vec ++ ((s.fp.map fun a => (lessK a.1 own c, a.2)) ++ [(own, c)]).map (fun a => vec a.1) → Spn (((pre ++ post).map fun r => lessK r own c).map vec ++ ((s.fp.map fun a => (lessK a.1 own c, a.2)) ++ [(own, c)]).map (fun a => vec a.1)) v := fun v hv => .mem hv
      have ho : Spn (((pre ++ post).map fun r => lessK r own c).map vec ++ ((s.fp.map fun a => (lessK a.1 own c, a.2)) ++ [(own, c)]).map (fun a => vec a.1)) (vec own) := hin _ (List.mem_append_right _ (by
        rw [List.map_append]
        exact List.mem_append_right _ (List.mem_singleton.mpr rfl)))
      rcases List.mem_append.mp hr with q | q
      · obtain ⟨r0, h0, rfl⟩ := List.mem_map.mp q
        rw [hs] at h0
        have cases3 : r0 ∈ pre ++ post ∨ r0 = own0 := by
          rcases List.mem_append.mp h0 with q | q
          · exact .inl (List.mem_append_left _ q)
          · rcases List.mem_cons.mp q with q | q
            · exact .inr q
            · exact .inl (List.mem_append_right _ q)
        rcases cases3 with q | q
        · have h1 := hin (vec (lessK r0 own c)) (List.mem_append_left _ (List.mem_map_of_mem (List.mem_map_of_mem q)))
          exact (h1.lin ho (vec r0 c)).of_eq fun j => by
            rw [lr r0 q]
            grind
        · rw [q]
          exact (ho.smul (vec own0 c)).of_eq fun j => by
            rw [ov]
            grind
      · obtain ⟨a0, h0, rfl⟩ := List.mem_map.mp q
        have h1 := hin (vec (lessK a0.1 own c)) (List.mem_append_right _ (by
          rw [List.map_append]
          exact List.mem_append_left _ (List.mem_map.mpr ⟨(lessK a0.1 own c, a0.2), List.mem_map.mpr ⟨a0, h0, rfl⟩, rfl⟩)))
        exact (h1.lin ho (vec a0.1 c)).of_eq fun j => by
          show vec a0.1 j = _
          rw [lf a0 h0]
          grind
    · obtain ⟨r0, h0, rfl⟩ := List.mem_map.mp hr
      exact ((I.sp2 r0 (hsub r0 h0)).lin spo (-(vec r0 c))).of_eq fun j => by
        rw [lr r0 h0]
        grind
    · rcases List.mem_append.mp ha with q | q
      · obtain ⟨a0, h0, rfl⟩ := List.mem_map.mp q
        exact ((I.sp3 a0 h0).lin spo (-(vec a0.1 c))).of_eq fun j => by
          show vec (lessK a0.1 own c) j = _
          rw [lf a0 h0]
          grind
      · have : a = (own, c) := List.mem_singleton.mp q
        rw [this]
        exact spo
    · rcases List.mem_append.mp ha with q | q
      · obtain ⟨a0, h0, rfl⟩ := List.mem_map.mp q
        show vec (lessK a0.1 own c) a0.2 = 1
        rw [lf a0 h0, I.d0 a0 h0, od a0 h0]
        grind
      · have : a = (own, c) := List.mem_singleton.mp q
        rw [this]
        exact o1
    · refine List.pairwise_append.mpr ⟨?_, List.pairwise_singleton _ _, fun a ha b hb => ?_⟩
      · rw [List.pairwise_map]
        refine I.d1.imp_of_mem fun {a b} ha hb q => ?_
        refine ⟨?_, ?_, q.2.2⟩
        · show vec (lessK a.1 own c) b.2 = 0
          rw [lf a ha, q.1, od b hb]
          grind
        · show vec (lessK b.1 own c) a.2 = 0
          rw [lf b hb, q.2.1, od a ha]
          grind
      · obtain ⟨a0, h0, rfl⟩ := List.mem_map.mp ha
        have : b = (own, c) := List.mem_singleton.mp hb
        rw [this]
        refine ⟨?_, od a0 h0, I.pv a0 h0⟩
        show vec (lessK a0.1 own c) c = 0
        rw [lf a0 h0, o1]
        grind
    · obtain ⟨r0, h0, rfl⟩ := List.mem_map.mp hr
      rcases List.mem_append.mp ha with q | q
      · obtain ⟨a0, h1, rfl⟩ := List.mem_map.mp q
        show vec (lessK r0 own c) a0.2 = 0
        rw [lr r0 h0, I.d2 r0 (hsub r0 h0) a0 h1, od a0 h1]
        grind
      · have : a = (own, c) := List.mem_singleton.mp q
        rw [this]
        show vec (lessK r0 own c) c = 0
        rw [lr r0 h0, o1]
        grind
    · obtain ⟨r0, h0, rfl⟩ := List.mem_map.mp hr
      rw [lr r0 h0]
      by_cases q : j < c
      · rw [I.z r0 (hsub r0 h0) j q, oz j q]
        grind
      · have : j = c := by omega
        rw [this, o1]
        grind
    · rcases List.mem_append.mp ha with q | q
      · obtain ⟨a0, h0, rfl⟩ := List.mem_map.mp q
        exact Nat.lt_succ_of_lt (I.pv a0 h0)
      · have : a = (own, c) := List.mem_singleton.mp q
        rw [this]
        exact Nat.lt_succ_self c
    · rcases List.mem_append.mp ha with q | q
      · obtain ⟨a0, h0, rfl⟩ := List.mem_map.mp q
        have hj' : j < a0.2 := hj
        show vec (lessK a0.1 own c) j = 0
        rw [lf a0 h0, I.g a0 h0 j hj', oz j (Nat.lt_trans hj' (I.pv a0 h0))]
        grind
      · have : a = (own, c) := List.mem_singleton.mp q
        rw [this] at hj ⊢
        exact oz j hj
theorem RInv.all {w : Nat} {R : List (List K)} {inv : K → K} (minv : ∀ x : K, x ≠ 0 → x * inv x = 1) (h : ∀ r, r ∈ R → r.length = w) (n : Nat) : RInv w R n (redN inv R n) := by
  induction n with
  | zero => exact .start h
  | succ n ih =>
    rw [redN_succ]
    exact ih.step minv

/-- a sum over a list by its places -/
def lsum {α : Type} (l : List α) (f : α → K) : K := l.foldr (fun a t => f a + t) 0
theorem lsum_app {α : Type} (l m : List α) (f : α → K) : lsum (l ++ m) f = lsum l f + lsum m f := by
  induction l with
  | nil =>
    show lsum m f = 0 + lsum m f
    grind
  | cons a l ih =>
    show f a + lsum (l ++ m) f = (f a + lsum l f) + lsum m f
    rw [ih]
    grind
theorem lsum_z {α : Type} (l : List α) (f : α → K) (h : ∀ a, a ∈ l → f a = 0) : lsum l f = 0 := by
  induction l with
  | nil => rfl
  | cons a l ih =>
    show f a + lsum l f = 0
    rw [ih fun b hb => h b (List.mem_cons_of_mem _ hb), h a (List.mem_cons_self ..)]
    grind
theorem lsum_lin {α : Type} (l : List α) (f g : α → K) (c : K) : lsum l (fun a => f a + c * g a) = lsum l f + c * lsum l g := by
  induction l with
  | nil =>
    show (0 : K) = 0 + c * 0
    grind
  | cons a l ih =>
    show (f a + c * g a) + lsum l (fun a => f a + c * g a) = (f a + lsum l f) + c * (g a + lsum l g)
    rw [ih]
    grind
theorem lsum_sumN {α : Type} (l : List α) (f : α → K) (F : Nat → K) (h : ∀ k a, l[k]? = some a → F k = f a) : lsum l f = sumN l.length F := by
  induction l generalizing F with
  | nil => rfl
  | cons a l ih =>
    have e : lsum l f = sumN l.length fun k => F (k + 1) := ih (fun k => F (k + 1)) fun k b hb => h (k + 1) b (by simpa using hb)
    show f a + lsum l f = sumN (l.length + 1) F
    rw [e, ← h 0 a rfl]
    have : ∀ n, F 0 + sumN n (fun k => F (k + 1)) = sumN (n + 1) F := fun n => by
      induction n with
      | zero =>
        rw [sumN_succ, sumN_zero, sumN_zero]
        grind
      | succ n ih =>
        rw [sumN_succ, sumN_succ (n + 1), ← ih]
        grind
    exact this l.length
/-- a row of the span of the found ones, by its items at the pivots -/
theorem comb {fp : List (List K × Nat)} (d0 : ∀ a, a ∈ fp → vec a.1 a.2 = 1) (d1 : fp.Pairwise fun a b => vec a.1 b.2 = 0 ∧ vec b.1 a.2 = 0 ∧ a.2 < b.2) {x : Nat → K} (hx : Spn (fp.map fun a => vec a.1) x) :
    ∀ j, x j = lsum fp fun a => x a.2 * vec a.1 j := by
  refine Spn.ind (P := fun x => ∀ j, x j = lsum fp fun a => x a.2 * vec a.1 j) (fun j => (lsum_z _ _ fun a _ => by grind).symm) (fun x c r ih hr j => ?_) hx
  obtain ⟨a0, h0, rfl⟩ := List.mem_map.mp hr
  have h1 : (lsum fp fun a => (x a.2 + c * vec a0.1 a.2) * vec a.1 j) = lsum fp (fun a => x a.2 * vec a.1 j) + c * lsum fp (fun a => vec a0.1 a.2 * vec a.1 j) := by
    rw [← lsum_lin]
    congr 1
    funext a
    grind
  rw [h1, ← ih j]
  have h2 : lsum fp (fun a => vec a0.1 a.2 * vec a.1 j) = vec a0.1 j := by
    obtain ⟨p1, p2, rfl⟩ := List.append_of_mem h0
    obtain ⟨q1, q2, q3⟩ := List.pairwise_append.mp d1
    obtain ⟨q4, _⟩ := List.pairwise_cons.mp q2
    rw [lsum_app, lsum_z p1 _ fun a ha => by rw [(q3 a ha a0 (List.mem_cons_self ..)).2.1]; grind]
    show 0 + (vec a0.1 a0.2 * vec a0.1 j + lsum p2 _) = _
    rw [lsum_z p2 _ fun a ha => by rw [(q4 a ha).1]; grind, d0 a0 h0]
    grind
  rw [h2]
/-- behind all columns every row of the span is made of the found ones -/
theorem RInv.full {w : Nat} {R : List (List K)} {s : RS K} (I : RInv w R w s) {x : Nat → K} (hx : Spn (R.map vec) x) : ∀ j, x j = lsum s.fp fun a => x a.2 * vec a.1 j := by
  refine comb I.d0 I.d1 ((I.sp1 x hx).trans fun r hr => ?_)
  rcases List.mem_append.mp hr with q | q
  · obtain ⟨r0, h0, rfl⟩ := List.mem_map.mp q
    refine Spn.zero.of_eq fun j => ?_
    by_cases hj : j < w
    · exact I.z r0 h0 j hj
    · exact vec_out (by rw [I.wr r0 h0]; omega)
  · exact .mem q
end
end K51

set_option autoImplicit false
set_option linter.unusedSectionVars false
namespace K51
open Lean.Grind
section
variable {K : Type} [CommRing K] [DecidableEq K]

theorem vec_range (n : Nat) (f : Nat → K) (j : Nat) (h : j < n) : vec ((List.range n).map f) j = f j := by
  refine vec_at ?_
  rw [List.getElem?_map, List.getElem?_range h]
  rfl
theorem vec_app1 {a b : List K} {j : Nat} (h : j < a.length) : vec (a ++ b) j = vec a j := by
  unfold vec
  rw [List.getD_eq_getElem?_getD, List.getD_eq_getElem?_getD, List.getElem?_append_left h]
theorem vec_app2 {a b : List K} (j : Nat) : vec (a ++ b) (a.length + j) = vec b j := by
  unfold vec
  rw [List.getD_eq_getElem?_getD, List.getD_eq_getElem?_getD, List.getElem?_append_right (by omega)]
  congr 2
  omega
theorem vec_drop (a : List K) (w j : Nat) : vec (a.drop w) j = vec a (w + j) := by
  unfold vec
  rw [List.getD_eq_getElem?_getD, List.getD_eq_getElem?_getD, List.getElem?_drop]
theorem vec_take {a : List K} {n j : Nat} (h : j < n) : vec (a.take n) j = vec a j := by
  unfold vec
  rw [List.getD_eq_getElem?_getD, List.getD_eq_getElem?_getD, List.getElem?_take, if_pos h]
theorem getD_at {α : Type} {l : List α} {i : Nat} {d x : α} (h : l[i]? = some x) : l.getD i d = x := by
  rw [List.getD_eq_getElem?_getD, h]
  rfl
theorem getD_range {α : Type} (n : Nat) (f : Nat → α) (i : Nat) (d : α) (h : i < n) : ((List.range n).map f).getD i d = f i := by
  refine getD_at ?_
  rw [List.getElem?_map, List.getElem?_range h]
  rfl
theorem getD_map {α β : Type} (l : List α) (f : α → β) (i : Nat) (d : β) (e : α) (h : i < l.length) : (l.map f).getD i d = f (l.getD i e) := by
  rw [getD_at (x := f l[i]) (by rw [List.getElem?_map, List.getElem?_eq_getElem h] <;> rfl), getD_at (List.getElem?_eq_getElem h)]

/-! ### kernels and solutions -/
def eRow (n i : Nat) : List K := (List.range n).map fun j => if i = j then 1 else 0
theorem eRow_len (n i : Nat) : (eRow n i : List K).length = n := by
  unfold eRow
  rw [List.length_map, List.length_range]
theorem eRow_vec {n i j : Nat} (h : j < n) : vec (eRow n i : List K) j = if i = j then 1 else 0 := vec_range n _ j h
def wideK (rows : List (List K)) : List (List K) := (List.range rows.length).map fun i => rows.getD i [] ++ eRow rows.length i
def kernelK (inv : K → K) (rows : List (List K)) (w : Nat) : List (List K) := ((redN inv (wideK rows) (w + rows.length)).fp.filter fun a => decide (w ≤ a.2)).map fun a => a.1.drop w
def solveK (inv : K → K) (M : List (List K)) (w : Nat) (e : List K) : Option (List K) :=
  ((kernelK inv (M ++ [e.map fun x => -x]) w).find? fun r => decide (¬ vec r M.length = 0)).map fun r => (r.take M.length).map fun x => x * inv (vec r M.length)

variable {inv : K → K} (minv : ∀ x : K, x ≠ 0 → x * inv x = 1)
theorem wideK_len {rows : List (List K)} {w : Nat} (h : ∀ r, r ∈ rows → r.length = w) : ∀ r, r ∈ wideK rows → r.length = w + rows.length := fun r hr => by
  obtain ⟨i, hi, rfl⟩ := List.mem_map.mp hr
  have hi' := List.mem_range.mp hi
  rw [List.length_append, eRow_len, getD_at (List.getElem?_eq_getElem hi'), h _ (List.getElem_mem hi')]
theorem getD_len {rows : List (List K)} {w i : Nat} (h : ∀ r, r ∈ rows → r.length = w) (hi : i < rows.length) : (rows.getD i []).length = w := by
  rw [getD_at (List.getElem?_eq_getElem hi)]
  exact h _ (List.getElem_mem hi)
theorem wide_rel {rows : List (List K)} {w : Nat} (h : ∀ r, r ∈ rows → r.length = w) {x : Nat → K} (hx : Spn ((wideK rows).map vec) x) : ∀ j, j < w → x j = sumN rows.length fun i => x (w + i) * vec (rows.getD i []) j := by
  refine Spn.ind (P := fun x => ∀ j, j < w → x j = sumN rows.length fun i => x (w + i) * vec (rows.getD i []) j) (fun j _ => (sumN_z fun k _ => by grind).symm) (fun x c r ih hr j hj => ?_) hx
  obtain ⟨r0, h0, rfl⟩ := List.mem_map.mp hr
  obtain ⟨m, hm, rfl⟩ := List.mem_map.mp h0
  have hm' := List.mem_range.mp hm
  have e1 : (sumN rows.length fun i => (x (w + i) + c * vec (rows.getD m [] ++ eRow rows.length m) (w + i)) * vec (rows.getD i []) j) =
      (sumN rows.length fun i => x (w + i) * vec (rows.getD i []) j) + c * sumN rows.length fun i => vec (rows.getD m [] ++ eRow rows.length m) (w + i) * vec (rows.getD i []) j := by
    rw [← sumN_lin]
    exact sumN_congr fun k _ => by grind
  rw [e1, ← ih j hj]
  have e2 : (sumN rows.length fun i => vec (rows.getD m [] ++ eRow rows.length m) (w + i) * vec (rows.getD i []) j) = vec (rows.getD m []) j := by
    rw [sumN_one (i := m) hm' fun k hk hne => by
      have := vec_app2 (a := rows.getD m []) (b := eRow rows.length m) k
      rw [getD_len h hm'] at this
      rw [this, eRow_vec hk, if_neg (fun e => hne e.symm)]
      grind]
    have := vec_app2 (a := rows.getD m []) (b := eRow rows.length m) m
    rw [getD_len h hm'] at this
    rw [this, eRow_vec hm', if_pos rfl]
    grind
  rw [e2]
  show x j + c * vec (rows.getD m [] ++ eRow rows.length m) j = _
  rw [vec_app1 (by rw [getD_len h hm']; exact hj)]
theorem Spn.sumN {rows : List (List K)} (z : Nat → K) : ∀ n, n ≤ rows.length → Spn (rows.map vec) (fun j => K51.sumN n fun i => z i * vec (rows.getD i []) j) := by
  intro n
  induction n with
  | zero => exact fun _ => Spn.zero
  | succ n ih =>
    intro hn
    have hr : vec (rows.getD n []) ∈ rows.map vec := by
      rw [getD_at (List.getElem?_eq_getElem (by omega : n < rows.length))]
      exact List.mem_map_of_mem (List.getElem_mem (by omega))
    exact ((ih (by omega)).add (z n) hr).of_eq fun j => sumN_succ n _
theorem app_getD1 {M : List (List K)} {l : List K} {i : Nat} (h : i < M.length) : (M ++ [l]).getD i [] = M.getD i [] := by
  rw [List.getD_eq_getElem?_getD, List.getD_eq_getElem?_getD, List.getElem?_append_left h]
theorem app_getD2 {M : List (List K)} {l : List K} : (M ++ [l]).getD M.length [] = l := by
  rw [List.getD_eq_getElem?_getD, List.getElem?_append_right (by omega)]
  simp
theorem neg_vec (e : List K) (j : Nat) : vec (e.map fun x => -x) j = - vec e j := vec_map (fun x => -x) (by show -0 = 0; grind) e j
section
variable {M : List (List K)} {w : Nat} {e : List K} (hM : ∀ r, r ∈ M → r.length = w) (he : e.length = w)
include hM he
theorem app_len : ∀ r, r ∈ M ++ [e.map fun x => -x] → r.length = w := fun r hr => by
  rcases List.mem_append.mp hr with q | q
  · exact hM r q
  · rw [List.mem_singleton.mp q, List.length_map, he]
include minv
theorem kernel_fact {r : List K} (hr : r ∈ kernelK inv (M ++ [e.map fun x => -x]) w) : r.length = M.length + 1 ∧ ∀ j, j < w → (sumN M.length fun i => vec r i * vec (M.getD i []) j) = vec r M.length * vec e j := by
  have hR := app_len hM he
  have I := RInv.all minv (wideK_len hR) (w + (M ++ [e.map fun x => -x]).length)
  obtain ⟨a, ha, rfl⟩ := List.mem_map.mp hr
  obtain ⟨ha, hp⟩ := List.mem_filter.mp ha
  have hp' : w ≤ a.2 := of_decide_eq_true hp
  refine ⟨?_, fun j hj => ?_⟩
  · rw [List.length_drop, I.wf a ha, List.length_append, List.length_singleton]
    omega
  · have h1 := wide_rel hR (I.sp3 a ha) j hj
    rw [I.g a ha j (by omega), List.length_append, List.length_singleton, sumN_succ, app_getD2, neg_vec] at h1
    rw [sumN_congr fun k hk => by rw [app_getD1 hk]] at h1
    rw [sumN_congr (g := fun i => vec a.1 (w + i) * vec (M.getD i []) j) fun k hk => by rw [vec_drop], vec_drop]
    grind
theorem solve_sound {y : List K} (h : solveK inv M w e = some y) : y.length = M.length ∧ ∀ j, j < w → (sumN M.length fun i => vec y i * vec (M.getD i []) j) = vec e j := by
  unfold solveK at h
  obtain ⟨r, hf, rfl⟩ := Option.map_eq_some_iff.mp h
  have hm := List.mem_of_find?_eq_some hf
  have hn : vec r M.length ≠ 0 := by
    have h1 := List.find?_some hf
    exact of_decide_eq_true h1
  obtain ⟨hl, hs⟩ := kernel_fact minv hM he hm
  refine ⟨?_, fun j hj => ?_⟩
  · rw [List.length_map, List.length_take, hl]
    omega
  · have e1 : (sumN M.length fun i => vec ((r.take M.length).map fun x => x * inv (vec r M.length)) i * vec (M.getD i []) j) = (sumN M.length fun i => vec r i * vec (M.getD i []) j) * inv (vec r M.length) := by
      rw [← sumN_mulr]
      refine sumN_congr fun k hk => ?_
      rw [vec_map (fun x => x * inv (vec r M.length)) (by show 0 * _ = 0; grind), vec_take hk]
      grind
    rw [e1, hs j hj]
    have := minv _ hn
    grind
theorem solve_ex (h01 : (1 : K) ≠ 0) (t : Nat → K) (ht : ∀ j, j < w → (sumN M.length fun i => t i * vec (M.getD i []) j) = vec e j) : ∃ y, solveK inv M w e = some y := by
  have hR := app_len hM he
  have hlen : (M ++ [e.map fun x => -x]).length = M.length + 1 := by rw [List.length_append, List.length_singleton]
  have I := RInv.all minv (wideK_len hR) (w + (M ++ [e.map fun x => -x]).length)
  generalize hRe : M ++ [e.map fun x => -x] = R at *
  let z : Nat → K := fun i => if i < M.length then t i else 1
  have hu := Spn.sumN (rows := wideK R) z (wideK R).length (Nat.le_refl _)
  have wl : (wideK R).length = R.length := by
    unfold wideK
    rw [List.length_map, List.length_range]
  have wg : ∀ i, i < R.length → (wideK R).getD i [] = R.getD i [] ++ eRow R.length i := fun i hi => getD_range R.length (fun i => R.getD i [] ++ eRow R.length i) i [] hi
  rw [wl] at hu
  have f := I.full hu
  have u0 : ∀ j, j < w → (sumN R.length fun i => z i * vec ((wideK R).getD i []) j) = 0 := fun j hj => by
    rw [sumN_congr (g := fun i => z i * vec (R.getD i []) j) fun k hk => by rw [wg k hk, vec_app1 (by rw [getD_len hR hk]; exact hj)], hlen, sumN_succ]
    have h1 : R.getD M.length [] = e.map fun x => -x := by
      rw [← hRe]
      exact app_getD2
    rw [h1, neg_vec, sumN_congr (g := fun i => t i * vec (M.getD i []) j) fun k hk => by
      have h2 : R.getD k [] = M.getD k [] := by
        rw [← hRe]
        exact app_getD1 hk
      rw [h2]
      show (if k < M.length then t k else 1) * _ = _
      rw [if_pos hk], ht j hj]
    have h3 : z M.length = 1 := if_neg (Nat.lt_irrefl _)
    rw [h3]
    grind
  have u1 : (sumN R.length fun i => z i * vec ((wideK R).getD i []) (w + M.length)) = 1 := by
    have hm : M.length < R.length := by omega
    have ve : ∀ k, k < R.length → vec ((wideK R).getD k []) (w + M.length) = if k = M.length then 1 else 0 := fun k hk => by
      rw [wg k hk]
      have := vec_app2 (a := R.getD k []) (b := eRow R.length k) M.length
      rw [getD_len hR hk] at this
      rw [this, eRow_vec hm]
    rw [sumN_one (i := M.length) hm fun k hk hne => by rw [ve k hk, if_neg hne]; grind, ve _ hm, if_pos rfl]
    have h3 : z M.length = 1 := if_neg (Nat.lt_irrefl _)
    rw [h3]
    grind
  have hex : ∃ a, a ∈ (redN inv (wideK R) (w + R.length)).fp ∧ w ≤ a.2 ∧ vec a.1 (w + M.length) ≠ 0 := by
    by_cases q : ∃ a, a ∈ (redN inv (wideK R) (w + R.length)).fp ∧ w ≤ a.2 ∧ vec a.1 (w + M.length) ≠ 0
    · exact q
    · exfalso
      have f1 := f (w + M.length)
      rw [u1, lsum_z _ _ fun a ha => by
        by_cases h1 : a.2 < w
        · rw [u0 a.2 h1]
          grind
        · have h2 : vec a.1 (w + M.length) = 0 := by
            by_cases h3 : vec a.1 (w + M.length) = 0
            · exact h3
            · exact absurd ⟨a, ha, by omega, h3⟩ q
          rw [h2]
          grind] at f1
      exact h01 f1
  obtain ⟨a, ha, hw, hv⟩ := hex
  unfold solveK
  rw [hRe]
  have hk : a.1.drop w ∈ kernelK inv R w := List.mem_map.mpr ⟨a, List.mem_filter.mpr ⟨ha, decide_eq_true hw⟩, rfl⟩
  cases hf : (kernelK inv R w).find? fun r => decide (¬ vec r M.length = 0) with
  | none =>
    have := List.find?_eq_none.mp hf _ hk
    rw [vec_drop] at this
    exact absurd (decide_eq_true hv) this
  | some r => exact ⟨_, rfl⟩
end

/-! ### the paper of a rank -/
def mulK (one two : List (List K)) (w : Nat) : List (List K) := one.map fun row => (List.range w).map fun j => sumN row.length fun k => vec row k * vec (two.getD k []) j
def onesK (n : Nat) : List (List K) := (List.range n).map fun i => eRow n i
def tallK (M : List (List K)) (fp : List (List K × Nat)) : List (List K) := M.map fun row => fp.map fun a => vec row a.2
def rightK (w : Nat) (fp : List (List K × Nat)) : List (List K) := (List.range w).map fun c => (List.range fp.length).map fun k => if c = (fp.getD k ([], 0)).2 then 1 else 0
def unitK (n k : Nat) : List K := (List.range n).map fun i => if i = k then 1 else 0
theorem unitK_len (n k : Nat) : (unitK n k : List K).length = n := by
  unfold unitK
  rw [List.length_map, List.length_range]
theorem mulK_len (one two : List (List K)) (w : Nat) : (mulK one two w).length = one.length := List.length_map ..
theorem mulK_row {one two : List (List K)} {w : Nat} : ∀ r, r ∈ mulK one two w → r.length = w := fun r hr => by
  obtain ⟨a, _, rfl⟩ := List.mem_map.mp hr
  rw [List.length_map, List.length_range]
theorem mulK_at {one two : List (List K)} {w i j : Nat} (hi : i < one.length) (hj : j < w) : vec ((mulK one two w).getD i []) j = sumN (one.getD i []).length fun k => vec (one.getD i []) k * vec (two.getD k []) j := by
  unfold mulK
  rw [getD_map one _ i [] [] hi, vec_range w _ j hj]
theorem tab_ext {A B : List (List K)} {w : Nat} (hl : A.length = B.length) (ha : ∀ r, r ∈ A → r.length = w) (hb : ∀ r, r ∈ B → r.length = w) (h : ∀ i j, i < A.length → j < w → vec (A.getD i []) j = vec (B.getD i []) j) : A = B := by
  refine List.ext_getElem hl fun i h1 h2 => ?_
  have e := h i
  rw [getD_at (List.getElem?_eq_getElem h1), getD_at (List.getElem?_eq_getElem h2)] at e
  refine vec_ext (by rw [ha _ (List.getElem_mem h1), hb _ (List.getElem_mem h2)]) fun j hj => e j h1 (by rwa [ha _ (List.getElem_mem h1)] at hj)
theorem onesK_row (n : Nat) : ∀ r, r ∈ (onesK n : List (List K)) → r.length = n := fun r hr => by
  obtain ⟨a, _, rfl⟩ := List.mem_map.mp hr
  exact eRow_len n a
theorem onesK_len (n : Nat) : (onesK n : List (List K)).length = n := by
  unfold onesK
  rw [List.length_map, List.length_range]
theorem onesK_at {n i j : Nat} (hi : i < n) (hj : j < n) : vec ((onesK n : List (List K)).getD i []) j = if i = j then 1 else 0 := by
  unfold onesK
  rw [getD_range n _ i [] hi, eRow_vec hj]
theorem fp_pair {fp : List (List K × Nat)} (d0 : ∀ a, a ∈ fp → vec a.1 a.2 = 1) (d1 : fp.Pairwise fun a b => vec a.1 b.2 = 0 ∧ vec b.1 a.2 = 0 ∧ a.2 < b.2) {k m : Nat} (hk : k < fp.length) (hm : m < fp.length) :
    vec (fp.getD k ([], 0)).1 (fp.getD m ([], 0)).2 = if k = m then 1 else 0 := by
  rw [getD_at (List.getElem?_eq_getElem hk), getD_at (List.getElem?_eq_getElem hm)]
  rcases Nat.lt_trichotomy k m with q | q | q
  · rw [if_neg (by omega)]
    exact ((List.pairwise_iff_getElem.mp d1) k m hk hm q).1
  · subst q
    rw [if_pos rfl]
    exact d0 _ (List.getElem_mem hk)
  · rw [if_neg (by omega)]
    exact ((List.pairwise_iff_getElem.mp d1) m k hm hk q).2.1
section
variable {M : List (List K)} {w : Nat} (hM : ∀ r, r ∈ M → r.length = w)
include hM minv
theorem fp_len : ∀ a, a ∈ (redN inv M w).fp → a.1.length = w := (RInv.all minv hM w).wf
theorem fp_lt : ∀ a, a ∈ (redN inv M w).fp → a.2 < w := (RInv.all minv hM w).pv
theorem fp_cnt : (redN inv M w).fp.length ≤ M.length := by
  have := (RInv.all minv hM w).cnt
  omega
/-- M is tall times wide -/
theorem tall_wide : mulK (tallK M (redN inv M w).fp) ((redN inv M w).fp.map (·.1)) w = M := by
  have I := RInv.all minv hM w
  refine tab_ext (w := w) ?_ mulK_row hM fun i j hi hj => ?_
  · rw [mulK_len]
    unfold tallK
    rw [List.length_map]
  · have hiM : i < M.length := by
      rw [mulK_len] at hi
      unfold tallK at hi
      rwa [List.length_map] at hi
    have hiT : i < (tallK M (redN inv M w).fp).length := by
      unfold tallK
      rwa [List.length_map]
    rw [mulK_at hiT hj]
    have eT : (tallK M (redN inv M w).fp).getD i [] = (redN inv M w).fp.map fun a => vec (M.getD i []) a.2 := by
      unfold tallK
      rw [getD_map M _ i [] [] hiM]
    rw [eT, List.length_map]
    have hmem : vec (M.getD i []) ∈ M.map vec := by
      rw [getD_at (List.getElem?_eq_getElem hiM)]
      exact List.mem_map_of_mem (List.getElem_mem hiM)
    have f := I.full (Spn.mem hmem) j
    rw [f]
    refine (lsum_sumN _ _ _ fun k a ha => ?_).symm
    have hk := (List.getElem?_eq_some_iff.mp ha).1
    rw [vec_at (r := (redN inv M w).fp.map fun a => vec (M.getD i []) a.2) (x := vec (M.getD i []) a.2) (by rw [List.getElem?_map, ha] <;> rfl), getD_at (l := (redN inv M w).fp.map (·.1)) (x := a.1) (by rw [List.getElem?_map, ha] <;> rfl)]
theorem tall_row : ∀ r, r ∈ tallK M (redN inv M w).fp → r.length = (redN inv M w).fp.length := fun r hr => by
  obtain ⟨a, _, rfl⟩ := List.mem_map.mp hr
  rw [List.length_map]
theorem tall_len : (tallK M (redN inv M w).fp).length = M.length := List.length_map ..
theorem tall_at {i m : Nat} (hi : i < M.length) (hm : m < (redN inv M w).fp.length) : vec ((tallK M (redN inv M w).fp).getD i []) m = vec (M.getD i []) ((redN inv M w).fp.getD m ([], 0)).2 := by
  unfold tallK
  rw [getD_map M _ i [] [] hi]
  refine vec_at ?_
  rw [List.getElem?_map, List.getElem?_eq_getElem hm, getD_at (List.getElem?_eq_getElem hm)]
  rfl
/-- each unit row has a solution -/
theorem left_ex (h01 : (1 : K) ≠ 0) {k : Nat} (hk : k < (redN inv M w).fp.length) : ∃ y, solveK inv (tallK M (redN inv M w).fp) (redN inv M w).fp.length (unitK (redN inv M w).fp.length k) = some y := by
  have I := RInv.all minv hM w
  have hmem : (redN inv M w).fp.getD k ([], 0) ∈ (redN inv M w).fp := by
    rw [getD_at (List.getElem?_eq_getElem hk)]
    exact List.getElem_mem hk
  obtain ⟨t, ht⟩ := (I.sp3 _ hmem).coef
  refine solve_ex minv (tall_row minv hM) (unitK_len _ _) h01 t fun j hj => ?_
  have e1 := ht ((redN inv M w).fp.getD j ([], 0)).2
  rw [fp_pair I.d0 I.d1 hk hj, List.length_map] at e1
  rw [tall_len minv hM]
  show _ = vec (unitK _ k) j
  unfold unitK
  rw [vec_range _ _ j hj]
  have e2 : (if j = k then (1 : K) else 0) = if k = j then 1 else 0 := by
    by_cases q : k = j
    · rw [if_pos q, if_pos q.symm]
    · rw [if_neg q, if_neg fun z => q z.symm]
  rw [e2, e1]
  refine sumN_congr fun i hi => ?_
  rw [tall_at minv hM hi hj, getD_map M vec i (fun _ => 0) [] hi]
/-- left times M times right is the unit matrix -/
theorem left_right {left : List (List K)} (hl : left.length = (redN inv M w).fp.length) (hs : ∀ k, k < (redN inv M w).fp.length → solveK inv (tallK M (redN inv M w).fp) (redN inv M w).fp.length (unitK (redN inv M w).fp.length k) = some (left.getD k [])) :
    mulK (mulK left M w) (rightK w (redN inv M w).fp) (redN inv M w).fp.length = onesK (redN inv M w).fp.length := by
  have I := RInv.all minv hM w
  refine tab_ext (w := (redN inv M w).fp.length) (by rw [mulK_len, mulK_len, hl, onesK_len]) mulK_row (onesK_row _) fun k m hk hm => ?_
  rw [mulK_len, mulK_len] at hk
  have hk' : k < (redN inv M w).fp.length := by rwa [hl] at hk
  obtain ⟨yl, ys⟩ := solve_sound minv (tall_row minv hM) (unitK_len _ _) (hs k hk')
  rw [tall_len minv hM] at yl ys
  rw [mulK_at (by rwa [mulK_len]) hm, onesK_at hk' hm]
  have hrow : ((mulK left M w).getD k []).length = w := by
    rw [getD_at (List.getElem?_eq_getElem (by rwa [mulK_len]))]
    exact mulK_row _ (List.getElem_mem _)
  rw [hrow]
  have hpm : ((redN inv M w).fp.getD m ([], 0)).2 < w := by
    rw [getD_at (List.getElem?_eq_getElem hm)]
    exact I.pv _ (List.getElem_mem hm)
  have hr : ∀ c, c < w → vec ((rightK w (redN inv M w).fp).getD c []) m = if c = ((redN inv M w).fp.getD m ([], 0)).2 then 1 else 0 := fun c hc => by
    unfold rightK
    rw [getD_range w _ c [] hc, vec_range _ _ m hm]
  rw [sumN_one hpm fun c hc hne => by rw [hr c hc, if_neg hne]; grind, hr _ hpm, if_pos rfl, mulK_at hk hpm, yl]
  have e1 := ys m hm
  have e2 : vec (unitK (redN inv M w).fp.length k) m = if k = m then (1 : K) else 0 := by
    unfold unitK
    rw [vec_range _ _ m hm]
    by_cases q : k = m
    · rw [if_pos q, if_pos q.symm]
    · rw [if_neg q, if_neg fun z => q z.symm]
  rw [← e2, ← e1]
  have : ∀ s : K, s * 1 = s := fun s => by grind
  rw [this]
  exact sumN_congr fun i hi => by rw [tall_at minv hM hi hm]
end
end
end K51

set_option autoImplicit false
set_option linter.unusedSectionVars false
namespace K51
open Lean.Grind
section
variable {K : Type} [CommRing K] [DecidableEq K]

/-! ### the rank, worked out with integers -/
def restI (p : Nat) (x : Int) : Int := if p = 0 then x else x % (p : Int)
/-- reduced -/
def RedI (p : Nat) (x : Int) : Prop := p = 0 ∨ (0 ≤ x ∧ x < p)
theorem restI_red (p : Nat) (x : Int) : RedI p (restI p x) := by
  unfold RedI restI
  by_cases h : p = 0
  · exact .inl h
  · rw [if_neg h]
    exact .inr ⟨Int.emod_nonneg _ (by omega), Int.emod_lt_of_pos _ (by omega)⟩
section
variable (G : Gnd K)
theorem ic_zero : G.ic 0 = 0 := by
  have h : G.ic (1 - 1) = G.ic 1 - G.ic 1 := G.ic_sub 1 1
  rw [show (1 : Int) - 1 = 0 from rfl] at h
  rw [h]
  grind
theorem nm_ic {x : Int} (h : RedI G.p x) : G.nm (G.ic x) = x := by
  have e := congrArg Prod.fst (G.int x)
  rw [← show (low G.p x 1).1 = G.nm (G.ic x) from e]
  unfold low
  rcases h with h | ⟨h0, h1⟩
  · rw [if_pos h]
    simp
  · by_cases q : G.p = 0
    · rw [if_pos q]
      simp
    · rw [if_neg q]
      exact Int.emod_eq_of_lt h0 h1
theorem ic_eq0 {x : Int} (h : RedI G.p x) : G.ic x = 0 ↔ x = 0 := by
  rw [← G.zero, nm_ic G h]
theorem ic_rest (x : Int) : G.ic (restI G.p x) = G.ic x := by
  unfold restI
  by_cases h : G.p = 0
  · rw [if_pos h]
  · rw [if_neg h]
    have e1 := G.int x
    have e2 := G.int (x % (G.p : Int))
    unfold low at e1 e2
    rw [if_neg h] at e1 e2
    rw [Int.emod_emod] at e2
    have e3 := e2.symm.trans e1
    exact G.inj _ _ (congrArg Prod.fst e3) (congrArg Prod.snd e3)
/-- a row of integers as a function -/
def vI (r : List Int) : Nat → K := fun j => G.ic (r.getD j 0)
theorem vI_vec (r : List Int) : vI G r = vec (r.map G.ic) := by
  funext j
  unfold vI vec
  rw [List.getD_eq_getElem?_getD, List.getD_eq_getElem?_getD, List.getElem?_map]
  cases r[j]? with
  | none => exact ic_zero G
  | some x => rfl
end

theorem piv_span {inv : K → K} (minv : ∀ x : K, x ≠ 0 → x * inv x = 1) {L L' : List (Nat → K)} {own : Nat → K} {c : Nat} (h0 : own ∈ L) (hc : own c ≠ 0)
    (h1 : ∀ y, y ∈ L → y = own ∨ ∃ y', y' ∈ L' ∧ ∃ s t : K, s ≠ 0 ∧ ∀ j, y' j = s * y j - t * own j)
    (h2 : ∀ y', y' ∈ L' → y' c = 0 ∧ ∃ y, y ∈ L ∧ ∃ s t : K, ∀ j, y' j = s * y j - t * own j) (v : Nat → K) : Spn L' v ↔ (Spn L v ∧ v c = 0) := by
  have z : ∀ {v : Nat → K}, Spn L' v → v c = 0 := fun {v} hv => Spn.ind (P := fun v => v c = 0) rfl (fun x a r ih hr => by
    show x c + a * r c = 0
    rw [ih, (h2 r hr).1]
    grind) hv
  constructor
  · intro hv
    refine ⟨hv.trans fun r hr => ?_, z hv⟩
    obtain ⟨_, y, hy, s, t, e⟩ := h2 r hr
    exact (((Spn.mem hy).smul s).lin (Spn.mem h0) (-t)).of_eq fun j => by
      rw [e]
      grind
  · rintro ⟨hv, hz⟩
    have ⟨a, ha⟩ : ∃ a : K, Spn L' (fun j => v j - a * own j) := by
      refine Spn.ind (P := fun v => ∃ a : K, Spn L' (fun j => v j - a * own j)) ⟨0, Spn.zero.of_eq fun j => by grind⟩ (fun x b r ih hr => ?_) hv
      obtain ⟨a, ha⟩ := ih
      rcases h1 r hr with e | ⟨y', hy', s, t, hs, e⟩
      · exact ⟨a + b, ha.of_eq fun j => by
          rw [e]
          grind⟩
      · refine ⟨a + b * inv s * t, (ha.add (b * inv s) hy').of_eq fun j => ?_⟩
        rw [e]
        have := minv s hs
        grind
    have e1 := z ha
    have e2 : v c - a * own c = 0 := e1
    rw [hz] at e2
    have e3 : a = 0 := by
      have := minv _ hc
      grind
    exact ha.of_eq fun j => by
      rw [e3]
      grind

/-- the two eliminations side by side -/
structure Lock (G : Gnd K) (s : RS K) (rows : List (List Int)) (rk : Nat) : Prop where
  cnt : rk = s.fp.length
  sp : ∀ v, Spn (s.rest.map vec) v ↔ Spn ((rows.drop rk).map (vI G)) v
theorem zeros_iff {L L' : List (Nat → K)} (h : ∀ v, Spn L v ↔ Spn L' v) {c : Nat} (hz : ∀ r, r ∈ L' → r c = 0) : ∀ r, r ∈ L → r c = 0 := fun r hr =>
  Spn.ind (P := fun v => v c = 0) rfl (fun x a r ih hr => by
    show x c + a * r c = 0
    rw [ih, hz r hr]
    grind) ((h r).mp (.mem hr))
theorem Lock.none {G : Gnd K} {s : RS K} {rows : List (List Int)} {rk c : Nat} (l : Lock G s rows rk) (hz : ∀ r, r ∈ rows.drop rk → G.ic (r.getD c 0) = 0) : Lock G (redStep G.inv s c) rows rk := by
  have h1 : ∀ r, r ∈ s.rest.map vec → r c = 0 := zeros_iff l.sp fun r hr => by
    obtain ⟨r0, h0, rfl⟩ := List.mem_map.mp hr
    exact hz r0 h0
  rcases redStep_cases G.inv s c with ⟨e, _, _⟩ | ⟨i, l', pre, own0, post, _, hs, hpre, hv, _, _, e⟩
  · rw [e]
    exact l
  · exact absurd (h1 (vec own0) (List.mem_map_of_mem (by rw [hs]; exact List.mem_append_right _ (List.mem_cons_self ..)))) hv
/-- the rows behind a step -/
def newRow (p w : Nat) (head c : Int) (row own : List Int) : List Int := (List.range w).map fun k => restI p (head * row.getD k 0 - c * own.getD k 0)
def swapped (rows : List (List Int)) (rk at_ i : Nat) : List Int := if i = at_ then rows.getD rk [] else rows.getD i []
def newRows (p w c : Nat) (rows : List (List Int)) (rk at_ : Nat) : List (List Int) := (List.range rows.length).map fun i =>
  if i < rk then rows.getD i [] else if i = rk then rows.getD at_ [] else
    newRow p w ((rows.getD at_ []).getD c 0) ((swapped rows rk at_ i).getD c 0) (swapped rows rk at_ i) (rows.getD at_ [])
theorem newRow_v {G : Gnd K} {w : Nat} {head c : Int} {row own : List Int} (h1 : row.length = w) (h2 : own.length = w) (j : Nat) : vI G (newRow G.p w head c row own) j = G.ic head * vI G row j - G.ic c * vI G own j := by
  unfold vI
  by_cases hj : j < w
  · unfold newRow
    rw [getD_range w _ j 0 hj, ic_rest, G.ic_sub, G.ic_mul, G.ic_mul]
  · have e : ∀ l : List Int, l.length = w → l.getD j 0 = 0 := fun l hl => by
      rw [List.getD_eq_getElem?_getD, List.getElem?_eq_none (by omega)]
      rfl
    rw [e row h1, e own h2, e (newRow G.p w head c row own) (by unfold newRow; rw [List.length_map, List.length_range]), ic_zero]
    grind
theorem mem_drop {α : Type} {l : List α} {n : Nat} {x : α} : x ∈ l.drop n ↔ ∃ i, ∃ h : i < l.length, n ≤ i ∧ l[i] = x := by
  constructor
  · intro h
    obtain ⟨i, hi, e⟩ := List.getElem_of_mem h
    rw [List.getElem_drop] at e
    rw [List.length_drop] at hi
    exact ⟨n + i, by omega, by omega, e⟩
  · rintro ⟨i, h, hn, rfl⟩
    rw [List.mem_iff_getElem]
    refine ⟨i - n, by rw [List.length_drop]; omega, ?_⟩
    rw [List.getElem_drop]
    congr 1
    omega
theorem Lock.some {G : Gnd K} {s : RS K} {rows : List (List Int)} {rk at_ c w : Nat} (l : Lock G s rows rk) (hs : ∀ r, r ∈ s.rest → r.length = w) (hw : ∀ r, r ∈ rows → r.length = w) (ha : rk ≤ at_) (hl : at_ < rows.length) (hn : G.ic ((rows.getD at_ []).getD c 0) ≠ 0) :
    Lock G (redStep G.inv s c) (newRows G.p w c rows rk at_) (rk + 1) := by
  have hat : rows.getD at_ [] ∈ rows.drop rk := mem_drop.mpr ⟨at_, hl, ha, (getD_at (List.getElem?_eq_getElem hl)).symm⟩
  have gl : ∀ i, i < rows.length → (rows.getD i []).length = w := fun i hi => by
    rw [getD_at (List.getElem?_eq_getElem hi)]
    exact hw _ (List.getElem_mem hi)
  have sl : ∀ i, i < rows.length → (swapped rows rk at_ i).length = w := fun i hi => by
    unfold swapped
    split
    · exact gl rk (by omega)
    · exact gl i hi
  rcases redStep_cases G.inv s c with ⟨_, _, hz⟩ | ⟨i, l', pre, own0, post, _, hrs, hpre, hv, _, _, e⟩
  · exfalso
    refine hn (zeros_iff (L := (rows.drop rk).map (vI G)) (L' := s.rest.map vec) (fun v => (l.sp v).symm) (c := c) (fun r hr => ?_) (vI G (rows.getD at_ [])) (List.mem_map_of_mem hat))
    obtain ⟨r0, h0, rfl⟩ := List.mem_map.mp hr
    exact hz r0 h0
  · rw [e]
    have hm0 : own0 ∈ s.rest := by
      rw [hrs]
      exact List.mem_append_right _ (List.mem_cons_self ..)
    have hsub : ∀ r, r ∈ pre ++ post → r ∈ s.rest := fun r hr => by
      rw [hrs]
      rcases List.mem_append.mp hr with q | q
      · exact List.mem_append_left _ q
      · exact List.mem_append_right _ (List.mem_cons_of_mem _ q)
    have hmi := G.minv _ hv
    have ov : ∀ j, vec (own0.map fun x => G.inv (vec own0 c) * x) j = G.inv (vec own0 c) * vec own0 j := fun j => vec_map (fun x => G.inv (vec own0 c) * x) (by show _ * 0 = 0; grind) own0 j
    have olen : (own0.map fun x => G.inv (vec own0 c) * x).length = w := by rw [List.length_map, hs own0 hm0]
    refine ⟨?_, fun v => ?_⟩
    · show rk + 1 = ((s.fp.map _) ++ [_]).length
      rw [List.length_append, List.length_map, List.length_singleton, l.cnt]
    · have A : Spn ((((pre ++ post).map fun r => lessK r (own0.map fun x => G.inv (vec own0 c) * x) c)).map vec) v ↔ (Spn (s.rest.map vec) v ∧ v c = 0) := by
        refine piv_span G.minv (own := vec own0) (List.mem_map_of_mem hm0) hv (fun y hy => ?_) (fun y' hy' => ?_) v
        · obtain ⟨r0, h0, rfl⟩ := List.mem_map.mp hy
          have cases3 : r0 ∈ pre ++ post ∨ r0 = own0 := by
            rw [hrs] at h0
            rcases List.mem_append.mp h0 with q | q
            · exact .inl (List.mem_append_left _ q)
            · rcases List.mem_cons.mp q with q | q
              · exact .inr q
              · exact .inl (List.mem_append_right _ q)
          rcases cases3 with q | q
          · refine .inr ⟨_, List.mem_map_of_mem (List.mem_map_of_mem q), 1, vec r0 c * G.inv (vec own0 c), G.one_ne, fun j => ?_⟩
            rw [lessK_vec (by rw [hs r0 h0, olen]), ov]
            grind
          · exact .inl (by rw [q])
        · obtain ⟨r1, h1, rfl⟩ := List.mem_map.mp hy'
          obtain ⟨r0, h0, rfl⟩ := List.mem_map.mp h1
          have hr0 := hsub r0 h0
          refine ⟨?_, vec r0, List.mem_map_of_mem hr0, 1, vec r0 c * G.inv (vec own0 c), fun j => ?_⟩
          · rw [lessK_vec (by rw [hs r0 hr0, olen]), ov]
            grind
          · rw [lessK_vec (by rw [hs r0 hr0, olen]), ov]
            grind
      have nl : (newRows G.p w c rows rk at_).length = rows.length := by
        unfold newRows
        rw [List.length_map, List.length_range]
      have ng : ∀ i (h : i < rows.length), rk < i → (newRows G.p w c rows rk at_)[i]'(by rw [nl]; exact h) = newRow G.p w ((rows.getD at_ []).getD c 0) ((swapped rows rk at_ i).getD c 0) (swapped rows rk at_ i) (rows.getD at_ []) := fun i h hi => by
        unfold newRows
        rw [List.getElem_map, List.getElem_range, if_neg (by omega), if_neg (by omega)]
      have B : Spn (((newRows G.p w c rows rk at_).drop (rk + 1)).map (vI G)) v ↔ (Spn ((rows.drop rk).map (vI G)) v ∧ v c = 0) := by
        refine piv_span G.minv (own := vI G (rows.getD at_ [])) (List.mem_map_of_mem hat) hn (fun y hy => ?_) (fun y' hy' => ?_) v
        · obtain ⟨r0, h0, rfl⟩ := List.mem_map.mp hy
          obtain ⟨i, hi, hri, rfl⟩ := mem_drop.mp h0
          have eg : rows.getD i [] = rows[i] := getD_at (List.getElem?_eq_getElem hi)
          by_cases q : i = at_
          · refine .inl ?_
            rw [← q, eg]
          · refine .inr ?_
            have key : ∀ m (hm : m < rows.length), rk < m → swapped rows rk at_ m = rows[i] → ∃ y', y' ∈ ((newRows G.p w c rows rk at_).drop (rk + 1)).map (vI G) ∧ ∃ s t : K, s ≠ 0 ∧ ∀ j, y' j = s * vI G rows[i] j - t * vI G (rows.getD at_ []) j := fun m hm hrm es => by
              refine ⟨_, List.mem_map_of_mem (mem_drop.mpr ⟨m, by rw [nl]; exact hm, by omega, rfl⟩), G.ic ((rows.getD at_ []).getD c 0), G.ic ((swapped rows rk at_ m).getD c 0), hn, fun j => ?_⟩
              rw [ng m hm hrm, newRow_v (sl m hm) (gl at_ hl), es]
            by_cases q2 : i = rk
            · refine key at_ hl (by omega) ?_
              unfold swapped
              rw [if_pos rfl, ← q2, eg]
            · refine key i hi (by omega) ?_
              unfold swapped
              rw [if_neg q, eg]
        · obtain ⟨r1, h1, rfl⟩ := List.mem_map.mp hy'
          obtain ⟨i, hi, hri, rfl⟩ := mem_drop.mp h1
          have hi' : i < rows.length := by rwa [nl] at hi
          have hin : swapped rows rk at_ i ∈ rows.drop rk := by
            unfold swapped
            split
            · exact mem_drop.mpr ⟨rk, by omega, Nat.le_refl _, (getD_at (List.getElem?_eq_getElem (by omega))).symm⟩
            · exact mem_drop.mpr ⟨i, hi', by omega, (getD_at (List.getElem?_eq_getElem hi')).symm⟩
          refine ⟨?_, vI G (swapped rows rk at_ i), List.mem_map_of_mem hin, G.ic ((rows.getD at_ []).getD c 0), G.ic ((swapped rows rk at_ i).getD c 0), fun j => ?_⟩
          · rw [ng i hi' (by omega), newRow_v (sl i hi') (gl at_ hl)]
            unfold vI
            grind
          · rw [ng i hi' (by omega), newRow_v (sl i hi') (gl at_ hl)]
      rw [A, B, l.sp v]
theorem Lock.start (G : Gnd K) (rows : List (List Int)) : Lock G ⟨rows.map fun r => r.map G.ic, []⟩ (rows.map fun r => r.map (restI G.p)) 0 where
  cnt := rfl
  sp := fun v => by
    have e : ((rows.map fun r => r.map G.ic).map vec) = ((rows.map fun r => r.map (restI G.p)).drop 0).map (vI G) := by
      rw [List.drop_zero, List.map_map, List.map_map]
      refine List.map_congr_left fun r _ => ?_
      show vec (r.map G.ic) = vI G (r.map (restI G.p))
      rw [vI_vec, List.map_map]
      congr 1
      exact List.map_congr_left fun x _ => (ic_rest G x).symm
    rw [e]
end
end K51

set_option autoImplicit false
set_option linter.unusedSectionVars false
namespace K51
open Lean.Grind
section
variable {K : Type} [CommRing K] [DecidableEq K]

/-! ### the rank of a paper is at most the sizes -/
theorem sum_lin (n : Nat) (f : Nat → K) : Lin (fun v : Nat → K => sumN n fun c => v c * f c) where
  zero := sumN_z fun k _ => by grind
  lin := fun x y c => by
    rw [← sumN_lin]
    exact sumN_congr fun k _ => by grind
theorem rank_le {G : Gnd K} {L M R : List (List K)} {r h w : Nat} (hl : L.length = r) (hL : ∀ x, x ∈ L → x.length = h) (hm : M.length = h) (hM : ∀ x, x ∈ M → x.length = w)
    (hR : ∀ x, x ∈ R → x.length = r) (e : mulK (mulK L M w) R r = onesK r) : r ≤ h ∧ r ≤ w := by
  have hrow : ∀ k, k < r → ((mulK L M w).getD k []).length = w := fun k hk => by
    rw [getD_at (List.getElem?_eq_getElem (by rw [mulK_len]; omega))]
    exact mulK_row _ (List.getElem_mem _)
  have ent : ∀ k m, k < r → m < r → (sumN w fun c => vec ((mulK L M w).getD k []) c * vec (R.getD c []) m) = if k = m then 1 else 0 := fun k m hk hm' => by
    have e1 := onesK_at (K := K) hk hm'
    rw [← e, mulK_at (by rw [mulK_len]; omega) hm', hrow k hk] at e1
    exact e1
  let ps : List ((Nat → K) × ((Nat → K) → K)) := (List.range r).map fun k => (fun c => if c < w then vec ((mulK L M w).getD k []) c else 0, fun v => sumN w fun c => v c * vec (R.getD c []) k)
  have pl : ps.length = r := by
    show ((List.range r).map _).length = r
    rw [List.length_map, List.length_range]
  have val : ∀ k m, k < r → m < r → (sumN w fun c => (if c < w then vec ((mulK L M w).getD k []) c else 0) * vec (R.getD c []) m) = if k = m then 1 else 0 := fun k m hk hm' => by
    rw [← ent k m hk hm']
    exact sumN_congr fun c hc => by rw [if_pos hc]
  have pw : ps.Pairwise fun a b => a.2 b.1 = 0 ∧ b.2 a.1 = 0 := by
    show ((List.range r).map _).Pairwise _
    rw [List.pairwise_map]
    refine List.Pairwise.imp_of_mem (R := fun a b => a < b) (fun {a b} ha hb q => ?_) List.pairwise_lt_range
    have ha' := List.mem_range.mp ha
    have hb' := List.mem_range.mp hb
    refine ⟨?_, ?_⟩
    · show (sumN w fun c => (if c < w then vec ((mulK L M w).getD b []) c else 0) * vec (R.getD c []) a) = 0
      rw [val b a hb' ha', if_neg (by omega)]
    · show (sumN w fun c => (if c < w then vec ((mulK L M w).getD a []) c else 0) * vec (R.getD c []) b) = 0
      rw [val a b ha' hb', if_neg (by omega)]
  constructor
  · have := steinitz G.inv G.one_ne G.minv (M.map vec) ps (fun a ha => by
      obtain ⟨k, hk, rfl⟩ := List.mem_map.mp ha
      have hk' := List.mem_range.mp hk
      refine ⟨sum_lin w _, ?_, ?_⟩
      · show (sumN w fun c => (if c < w then vec ((mulK L M w).getD k []) c else 0) * vec (R.getD c []) k) = 1
        rw [val k k hk' hk', if_pos rfl]
      · refine (Spn.sumN (rows := M) (vec (L.getD k [])) M.length (Nat.le_refl _)).of_eq fun c => ?_
        show (if c < w then vec ((mulK L M w).getD k []) c else 0) = sumN M.length fun i => vec (L.getD k []) i * vec (M.getD i []) c
        by_cases hc : c < w
        · rw [if_pos hc, mulK_at (by omega) hc, getD_len hL (by omega), hm]
        · rw [if_neg hc, sumN_z fun i hi => by
            rw [vec_out (r := M.getD i []) (by rw [getD_len hM hi]; omega)]
            grind]) pw
    rw [pl, List.length_map] at this
    omega
  · have := steinitz G.inv G.one_ne G.minv ((List.range w).map fun i => fun c => if i = c then (1 : K) else 0) ps (fun a ha => by
      obtain ⟨k, hk, rfl⟩ := List.mem_map.mp ha
      have hk' := List.mem_range.mp hk
      refine ⟨sum_lin w _, ?_, ?_⟩
      · show (sumN w fun c => (if c < w then vec ((mulK L M w).getD k []) c else 0) * vec (R.getD c []) k) = 1
        rw [val k k hk' hk', if_pos rfl]
      · have sp : ∀ n, n ≤ w → Spn ((List.range w).map fun i => fun c => if i = c then (1 : K) else 0) (fun c => if c < n then vec ((mulK L M w).getD k []) c else 0) := by
          intro n
          induction n with
          | zero => exact fun _ => Spn.zero.of_eq fun c => by rw [if_neg (Nat.not_lt_zero _)]
          | succ n ih =>
            intro hn
            refine ((ih (by omega)).add (vec ((mulK L M w).getD k []) n) (List.mem_map.mpr ⟨n, List.mem_range.mpr hn, rfl⟩)).of_eq fun c => ?_
            by_cases h1 : c < n
            · rw [if_pos h1, if_pos (by omega), if_neg (by omega)]
              grind
            · by_cases h2 : n = c
              · rw [if_neg h1, if_pos (by omega), if_pos h2, h2]
                grind
              · rw [if_neg h1, if_neg (by omega), if_neg h2]
                grind
        exact sp w (Nat.le_refl _)) pw
    rw [pl, List.length_map, List.length_range] at this
    exact this

/-! ### sizes of the rational numbers -/
/-- numerator at most 2^a, denominator at most 2^c (over the rationals) -/
def bd (G : Gnd K) (a c : Nat) (x : K) : Prop := G.p = 0 → (G.nm x).natAbs ≤ 2 ^ a ∧ (G.dn x).natAbs ≤ 2 ^ c
section
variable {G : Gnd K}
theorem bd.mono {a c a' c' : Nat} {x : K} (h : bd G a c x) (h1 : a ≤ a') (h2 : c ≤ c') : bd G a' c' x := fun hp =>
  ⟨Nat.le_trans (h hp).1 (Nat.pow_le_pow_right (by decide) h1), Nat.le_trans (h hp).2 (Nat.pow_le_pow_right (by decide) h2)⟩
theorem low_bd {n d : Int} {m k : Nat} (h1 : n.natAbs ≤ m) (h2 : d.natAbs ≤ k) : (low 0 n d).1.natAbs ≤ m ∧ (low 0 n d).2.natAbs ≤ k := by
  unfold low
  rw [if_pos rfl]
  refine ⟨Nat.le_trans (Int.natAbs_ediv_le_natAbs _ _) ?_, Nat.le_trans (Int.natAbs_ediv_le_natAbs _ _) ?_⟩
  · split <;> omega
  · split <;> omega
theorem two_mul_le {x y a b : Nat} (h1 : x ≤ 2 ^ a) (h2 : y ≤ 2 ^ b) : x * y ≤ 2 ^ (a + b) := by
  rw [Nat.pow_add]
  exact Nat.mul_le_mul h1 h2
theorem bd_mul {a c a' c' : Nat} {x y : K} (hx : bd G a c x) (hy : bd G a' c' y) : bd G (a + a') (c + c') (x * y) := fun hp => by
  have e := G.mul x y
  rw [hp] at e
  have := low_bd (n := G.nm x * G.nm y) (d := G.dn x * G.dn y) (m := 2 ^ (a + a')) (k := 2 ^ (c + c')) (by rw [Int.natAbs_mul]; exact two_mul_le (hx hp).1 (hy hp).1) (by rw [Int.natAbs_mul]; exact two_mul_le (hx hp).2 (hy hp).2)
  rw [e] at this
  exact this
theorem sum_le {u v a : Nat} (h1 : u ≤ 2 ^ a) (h2 : v ≤ 2 ^ a) : u + v ≤ 2 ^ (a + 1) := by
  rw [Nat.pow_succ]
  omega
theorem bd_addsub {a c a' c' : Nat} {x y z : K} {s : Int} (hs : s.natAbs = 1) (e : low G.p (G.nm x * G.dn y + s * (G.nm y * G.dn x)) (G.dn x * G.dn y) = (G.nm z, G.dn z)) (hx : bd G a c x) (hy : bd G a' c' y) : bd G (max (a + c') (a' + c) + 1) (c + c') z := fun hp => by
  rw [hp] at e
  have := low_bd (n := G.nm x * G.dn y + s * (G.nm y * G.dn x)) (d := G.dn x * G.dn y) (m := 2 ^ (max (a + c') (a' + c) + 1)) (k := 2 ^ (c + c')) (by
    refine Nat.le_trans (Int.natAbs_add_le _ _) (sum_le ?_ ?_)
    · rw [Int.natAbs_mul]
      exact Nat.le_trans (two_mul_le (hx hp).1 (hy hp).2) (Nat.pow_le_pow_right (by decide) (by omega))
    · rw [Int.natAbs_mul, Int.natAbs_mul, hs, Nat.one_mul]
      exact Nat.le_trans (two_mul_le (hy hp).1 (hx hp).2) (Nat.pow_le_pow_right (by decide) (by omega))) (by rw [Int.natAbs_mul]; exact two_mul_le (hx hp).2 (hy hp).2)
  rw [e] at this
  exact this
theorem bd_add {a c a' c' : Nat} {x y : K} (hx : bd G a c x) (hy : bd G a' c' y) : bd G (max (a + c') (a' + c) + 1) (c + c') (x + y) :=
  bd_addsub (s := 1) rfl (by rw [Int.one_mul]; exact G.add x y) hx hy
theorem bd_sub {a c a' c' : Nat} {x y : K} (hx : bd G a c x) (hy : bd G a' c' y) : bd G (max (a + c') (a' + c) + 1) (c + c') (x - y) :=
  bd_addsub (s := -1) rfl (by rw [Int.neg_mul, Int.one_mul, ← Int.sub_eq_add_neg]; exact G.sub x y) hx hy
theorem bd_neg {a c : Nat} {x : K} (hx : bd G a c x) : bd G a c (-x) := fun hp => by
  have e := G.neg x
  rw [hp] at e
  have := low_bd (n := -G.nm x) (d := G.dn x) (m := 2 ^ a) (k := 2 ^ c) (by rw [Int.natAbs_neg]; exact (hx hp).1) (hx hp).2
  rw [e] at this
  exact this
theorem bd_inv {a c : Nat} {x : K} (hn : x ≠ 0) (hx : bd G a c x) : bd G c a (G.inv x) := fun hp => by
  have e := G.inv0 hp x hn
  have := low_bd (n := G.dn x) (d := G.nm x) (m := 2 ^ c) (k := 2 ^ a) (hx hp).2 (hx hp).1
  rw [e] at this
  exact this
theorem bd_ic {n : Int} {a : Nat} (h : n.natAbs ≤ 2 ^ a) : bd G a 0 (G.ic n) := fun hp => by
  have e := G.int n
  rw [hp] at e
  have := low_bd (n := n) (d := 1) (m := 2 ^ a) (k := 2 ^ 0) h (by decide)
  rw [e] at this
  exact this
theorem bd_zero : bd G 0 0 (0 : K) := by
  have := bd_ic (G := G) (n := 0) (a := 0) (by decide)
  rwa [ic_zero] at this
theorem bd_one : bd G 0 0 (1 : K) := by
  have := bd_ic (G := G) (n := 1) (a := 0) (by decide)
  rwa [G.ic_one] at this
/-- a sum of products -/
theorem bd_sum {b b' n : Nat} {f g : Nat → K} (hf : ∀ k, k < n → bd G b b (f k)) (hg : ∀ k, k < n → bd G b' b' (g k)) : bd G ((b + b' + 1) * n) ((b + b' + 1) * n) (sumN n fun k => f k * g k) := by
  induction n with
  | zero =>
    rw [sumN_zero]
    exact bd_zero
  | succ n ih =>
    rw [sumN_succ]
    refine (bd_add (ih (fun k hk => hf k (by omega)) fun k hk => hg k (by omega)) (bd_mul (hf n (by omega)) (hg n (by omega)))).mono ?_ ?_
    · rw [Nat.mul_succ]
      omega
    · rw [Nat.mul_succ]
      omega
/-- the sizes through the elimination -/
def bA : Nat → Nat × Nat
  | 0 => (1, 0)
  | t + 1 => (2 * (bA t).1 + 2 * (bA t).2 + 1, (bA t).1 + 3 * (bA t).2)
def RBd (G : Gnd K) (s : RS K) (a c : Nat) : Prop := (∀ r, r ∈ s.rest → ∀ x, x ∈ r → bd G a c x) ∧ ∀ q, q ∈ s.fp → ∀ x, x ∈ q.1 → bd G a c x
theorem vec_bd {r : List K} {a c : Nat} (h : ∀ x, x ∈ r → bd G a c x) (j : Nat) : bd G a c (vec r j) := by
  unfold vec
  rw [List.getD_eq_getElem?_getD]
  cases e : r[j]? with
  | none => exact bd_zero.mono (Nat.zero_le _) (Nat.zero_le _)
  | some x => exact h x (List.mem_of_getElem? e)
theorem less_bd {row own : List K} {a c k : Nat} (h1 : ∀ x, x ∈ row → bd G a c x) (h2 : ∀ x, x ∈ own → bd G (a + c) (a + c) x) : ∀ x, x ∈ lessK row own k → bd G (2 * a + 2 * c + 1) (a + 3 * c) x := by
  intro x hx
  unfold lessK at hx
  split at hx
  · exact (h1 x hx).mono (by omega) (by omega)
  · obtain ⟨i, hi, e⟩ := List.getElem_of_mem hx
    rw [List.getElem_zipWith] at e
    rw [List.length_zipWith] at hi
    rw [← e]
    refine (bd_sub (h1 _ (List.getElem_mem (by omega))) (bd_mul (vec_bd h1 k) (h2 _ (List.getElem_mem (by omega))))).mono ?_ ?_ <;> omega
theorem redStep_bd {s : RS K} {c t : Nat} (h : RBd G s (bA t).1 (bA t).2) : ∃ t', RBd G (redStep G.inv s c) (bA t').1 (bA t').2 ∧ ((redStep G.inv s c).fp.length = s.fp.length ∧ t' = t ∨ (redStep G.inv s c).fp.length = s.fp.length + 1 ∧ t' = t + 1) := by
  rcases redStep_cases G.inv s c with ⟨e, _, _⟩ | ⟨i, l', pre, own0, post, _, hrs, hpre, hv, _, _, e⟩
  · rw [e]
    exact ⟨t, h, .inl ⟨rfl, rfl⟩⟩
  · rw [e]
    have hm0 : own0 ∈ s.rest := by
      rw [hrs]
      exact List.mem_append_right _ (List.mem_cons_self ..)
    have hsub : ∀ r, r ∈ pre ++ post → r ∈ s.rest := fun r hr => by
      rw [hrs]
      rcases List.mem_append.mp hr with q | q
      · exact List.mem_append_left _ q
      · exact List.mem_append_right _ (List.mem_cons_of_mem _ q)
    have ho : ∀ x, x ∈ own0.map (fun x => G.inv (vec own0 c) * x) → bd G ((bA t).1 + (bA t).2) ((bA t).1 + (bA t).2) x := fun x hx => by
      obtain ⟨y, hy, rfl⟩ := List.mem_map.mp hx
      exact (bd_mul (bd_inv hv (vec_bd (h.1 own0 hm0) c)) (h.1 own0 hm0 y hy)).mono (by omega) (by omega)
    refine ⟨t + 1, ⟨fun r hr x hx => ?_, fun q hq x hx => ?_⟩, .inr ⟨?_, rfl⟩⟩
    · obtain ⟨r0, h0, rfl⟩ := List.mem_map.mp hr
      exact less_bd (h.1 r0 (hsub r0 h0)) ho x hx
    · rcases List.mem_append.mp hq with q' | q'
      · obtain ⟨a0, h0, rfl⟩ := List.mem_map.mp q'
        exact less_bd (h.2 a0 h0) ho x hx
      · rw [List.mem_singleton.mp q'] at hx
        refine (ho x hx).mono ?_ ?_
        · show _ ≤ 2 * (bA t).1 + 2 * (bA t).2 + 1
          omega
        · show _ ≤ (bA t).1 + 3 * (bA t).2
          omega
    · show ((s.fp.map _) ++ [_]).length = _
      rw [List.length_append, List.length_map, List.length_singleton]
theorem redN_bd {rows : List (List K)} (h : ∀ r, r ∈ rows → ∀ x, x ∈ r → bd G 1 0 x) (n : Nat) : RBd G (redN G.inv rows n) (bA (redN G.inv rows n).fp.length).1 (bA (redN G.inv rows n).fp.length).2 := by
  induction n with
  | zero => exact ⟨h, fun q hq => by cases hq⟩
  | succ n ih =>
    rw [redN_succ]
    obtain ⟨t', h', e⟩ := redStep_bd (c := n) ih
    rcases e with ⟨e1, e2⟩ | ⟨e1, e2⟩
    · rw [e2] at h'
      rw [e1]
      exact h'
    · rw [e2] at h'
      rw [e1]
      exact h'
theorem bA_mono : ∀ {t u : Nat}, t ≤ u → (bA t).1 ≤ (bA u).1 ∧ (bA t).2 ≤ (bA u).2 := by
  intro t u h
  induction h with
  | refl => exact ⟨Nat.le_refl _, Nat.le_refl _⟩
  | step _ ih =>
    refine ⟨Nat.le_trans ih.1 ?_, Nat.le_trans ih.2 ?_⟩
    · show _ ≤ 2 * _ + 2 * _ + 1
      omega
    · show _ ≤ _ + 3 * _
      omega
/-- at most four rows: all numbers on the way are small -/
theorem redN_bd4 {rows : List (List K)} {w : Nat} (hl : rows.length ≤ 4) (hw : ∀ r, r ∈ rows → r.length = w) (h : ∀ r, r ∈ rows → ∀ x, x ∈ r → bd G 1 0 x) (n : Nat) : RBd G (redN G.inv rows n) 120 120 := by
  have hb := redN_bd h n
  have hc := (RInv.all G.minv hw n).cnt
  have hm := bA_mono (t := (redN G.inv rows n).fp.length) (u := 4) (by omega)
  have e4 : bA 4 = (117, 112) := by decide
  rw [e4] at hm
  have h1 : (bA (redN G.inv rows n).fp.length).1 ≤ 117 := hm.1
  have h2 : (bA (redN G.inv rows n).fp.length).2 ≤ 112 := hm.2
  exact ⟨fun r hr x hx => (hb.1 r hr x hx).mono (by omega) (by omega), fun q hq x hx => (hb.2 q hq x hx).mono (by omega) (by omega)⟩
end
end
end K51

set_option autoImplicit false
set_option linter.unusedSectionVars false
namespace K51
open Lean.Grind
/-- what a paper's value is, as the two checkers look at it: str true is the label rank; oth a number of another ground -/
inductive D (F : Type) where
  | non | bl (b : Bool) | int (i : Int) | str (r : Bool) | tup (l : List (D F)) | lst | num (x : F) | oth
section
variable {F : Type}
def memD : D F → Option F
  | .num x => some x
  | _ => none
def allSome {α : Type} : List (Option α) → Option (List α)
  | [] => some []
  | none :: _ => none
  | some x :: r => (allSome r).map (x :: ·)
theorem allSome_iff {α : Type} : ∀ (l : List (Option α)) (xs : List α), allSome l = some xs ↔ l = xs.map some
  | [], [] => by simp [allSome]
  | [], x :: xs => by simp [allSome]
  | none :: l, [] => by simp [allSome]
  | none :: l, x :: xs => by simp [allSome]
  | some y :: l, [] => by simp [allSome]
  | some y :: l, x :: xs => by
    have ih := allSome_iff l xs
    simp only [allSome, Option.map_eq_some_iff, List.map_cons, List.cons.injEq, Option.some.injEq]
    constructor
    · rintro ⟨a, h1, h2, h3⟩
      subst h2 h3
      exact ⟨rfl, ih.mp h1⟩
    · rintro ⟨h1, h2⟩
      exact ⟨xs, ih.mpr h2, h1, rfl⟩
theorem allSome_len {α : Type} {l : List (Option α)} {xs : List α} (h : allSome l = some xs) : xs.length = l.length := by
  rw [(allSome_iff l xs).mp h, List.length_map]
theorem allSome_none {α : Type} : ∀ {l : List (Option α)}, allSome l = none ↔ none ∈ l
  | [] => by simp [allSome]
  | none :: l => by simp [allSome]
  | some x :: l => by
    have ih := allSome_none (l := l)
    simp [allSome, ih]
def rowD (n : Nat) : D F → Option (List F)
  | .tup l => if l.length = n then allSome (l.map memD) else none
  | _ => none
def tabD (h w : Nat) : D F → Option (List (List F))
  | .tup l => if l.length = h then allSome (l.map (rowD w)) else none
  | _ => none
theorem rowD_eq (n : Nat) (l : List (D F)) : rowD n (.tup l) = if l.length = n then allSome (l.map memD) else none := rfl
theorem tabD_eq (h w : Nat) (l : List (D F)) : tabD h w (.tup l) = if l.length = h then allSome (l.map (rowD w)) else none := rfl
theorem rowD_len {n : Nat} {d : D F} {xs : List F} (h : rowD n d = some xs) : xs.length = n := by
  cases d with
  | tup l =>
    rw [rowD_eq] at h
    by_cases e : l.length = n
    · rw [if_pos e] at h
      rw [allSome_len h, List.length_map, e]
    · rw [if_neg e] at h
      cases h
  | _ => cases h
theorem tabD_len {h w : Nat} {d : D F} {xs : List (List F)} (e : tabD h w d = some xs) : xs.length = h := by
  cases d with
  | tup l =>
    rw [tabD_eq] at e
    by_cases q : l.length = h
    · rw [if_pos q] at e
      rw [allSome_len e, List.length_map, q]
    · rw [if_neg q] at e
      cases e
  | _ => cases e
theorem tabD_tup {h w : Nat} {d : D F} {xs : List (List F)} (e : tabD h w d = some xs) : ∃ l, d = .tup l ∧ l.length = h ∧ l.map (rowD w) = xs.map some := by
  cases d with
  | tup l =>
    rw [tabD_eq] at e
    by_cases q : l.length = h
    · rw [if_pos q] at e
      exact ⟨l, rfl, q, (allSome_iff _ _).mp e⟩
    · rw [if_neg q] at e
      cases e
  | _ => cases e
theorem tabD_row {h w : Nat} {d : D F} {xs : List (List F)} (e : tabD h w d = some xs) : ∀ r, r ∈ xs → r.length = w := fun r hr => by
  obtain ⟨l, _, _, q⟩ := tabD_tup e
  have : some r ∈ l.map (rowD w) := by
    rw [q]
    exact List.mem_map_of_mem hr
  obtain ⟨d', _, e'⟩ := List.mem_map.mp this
  exact rowD_len e'
variable [CommRing F] [DecidableEq F]
/-- the paper shows the rank -/
def holdsT (h w : Nat) (M : List (List F)) (r : Int) (l ri t wi : D F) : Bool :=
  decide (0 ≤ r) && match tabD r.toNat h l, tabD w r.toNat ri, tabD h r.toNat t, tabD r.toNat w wi with
    | some L, some R, some T, some W => decide (mulK T W w = M) && decide (mulK (mulK L M w) R r.toNat = onesK r.toNat)
    | _, _, _, _ => false
def holdsD (h w : Nat) (M : List (List F)) : D F → Bool
  | .tup [.str true, .int r, l, ri, t, wi] => holdsT h w M r l ri t wi
  | _ => false
/-- numbers and lengths are bounded -/
inductive Lim (G : Gnd F) (b n : Nat) : D F → Prop where
  | non : Lim G b n .non
  | bl (x : Bool) : Lim G b n (.bl x)
  | int (i : Int) : Lim G b n (.int i)
  | str (r : Bool) : Lim G b n (.str r)
  | tup {l : List (D F)} (h : l.length ≤ n) (hd : ∀ d, d ∈ l → Lim G b n d) : Lim G b n (.tup l)
  | lst : Lim G b n .lst
  | num {x : F} (h : bd G b b x) : Lim G b n (.num x)
  | oth : Lim G b n .oth
theorem Lim.mono {G : Gnd F} {b n b' n' : Nat} {d : D F} (h : Lim G b n d) (h1 : b ≤ b') (h2 : n ≤ n') : Lim G b' n' d := by
  induction h with
  | non => exact .non
  | bl x => exact .bl x
  | int i => exact .int i
  | str r => exact .str r
  | tup hl _ ih => exact .tup (Nat.le_trans hl h2) ih
  | lst => exact .lst
  | num hb => exact .num (hb.mono h1 h1)
  | oth => exact .oth
theorem Lim.len {G : Gnd F} {b n : Nat} {l : List (D F)} (h : Lim G b n (.tup l)) : l.length ≤ n := by
  cases h with
  | tup h _ => exact h
theorem Lim.mem {G : Gnd F} {b n : Nat} {l : List (D F)} (h : Lim G b n (.tup l)) {d : D F} (hd : d ∈ l) : Lim G b n d := by
  cases h with
  | tup _ h => exact h d hd
theorem rowD_bd {G : Gnd F} {b n m : Nat} {d : D F} {xs : List F} (h : Lim G b n d) (e : rowD m d = some xs) : ∀ x, x ∈ xs → bd G b b x := fun x hx => by
  cases d with
  | tup l =>
    rw [rowD_eq] at e
    by_cases q : l.length = m
    · rw [if_pos q] at e
      have e2 := (allSome_iff _ _).mp e
      have : some x ∈ l.map memD := by
        rw [e2]
        exact List.mem_map_of_mem hx
      obtain ⟨d', hd', e'⟩ := List.mem_map.mp this
      have hl := h.mem hd'
      cases d' with
      | num y =>
        cases e'
        cases hl with
        | num hb => exact hb
      | _ => cases e'
    · rw [if_neg q] at e
      cases e
  | _ => cases e
theorem tabD_bd {G : Gnd F} {b n m k : Nat} {d : D F} {xs : List (List F)} (h : Lim G b n d) (e : tabD m k d = some xs) : m ≤ n ∧ ∀ r, r ∈ xs → ∀ x, x ∈ r → bd G b b x := by
  obtain ⟨l, rfl, hl, q⟩ := tabD_tup e
  refine ⟨by rw [← hl]; exact h.len, fun r hr x hx => ?_⟩
  have : some r ∈ l.map (rowD k) := by
    rw [q]
    exact List.mem_map_of_mem hr
  obtain ⟨d', hd', e'⟩ := List.mem_map.mp this
  exact rowD_bd (h.mem hd') e' x hx
end
end K51

set_option Elab.async false
set_option linter.all false
set_option maxRecDepth 100000
set_option maxHeartbeats 4000000
namespace K51
open PySem PySem.Spec PyProof.Rows L2
/-! ### the text -/
def topS (i : Nat) : Stmt := PySem.Challenge.pw_similarforms_k51_whole_papers_of_ranks.main.body.getD i (.Pass ⟨0, 0, 0, 0⟩)
abbrev s_is_integer : Stmt := topS 11
abbrev s_Q_init : Stmt := inClass (topS 12) 0
abbrev s_Q_eq : Stmt := inClass (topS 12) 1
abbrev s_Q_add : Stmt := inClass (topS 12) 2
abbrev s_Q_sub : Stmt := inClass (topS 12) 3
abbrev s_Q_mul : Stmt := inClass (topS 12) 4
abbrev s_Q_neg : Stmt := inClass (topS 12) 5
abbrev s_Q_is_zero : Stmt := inClass (topS 12) 7
abbrev s_Q_inverse : Stmt := inClass (topS 12) 8
abbrev s_Q_over : Stmt := inClass (topS 12) 9
abbrev s_is_small_prime : Stmt := topS 15
abbrev s_R_init : Stmt := inClass (topS 16) 0
abbrev s_R_eq : Stmt := inClass (topS 16) 1
abbrev s_R_add : Stmt := inClass (topS 16) 2
abbrev s_R_sub : Stmt := inClass (topS 16) 3
abbrev s_R_mul : Stmt := inClass (topS 16) 4
abbrev s_R_neg : Stmt := inClass (topS 16) 5
abbrev s_R_is_zero : Stmt := inClass (topS 16) 7
abbrev s_R_inverse : Stmt := inClass (topS 16) 8
abbrev s_R_over : Stmt := inClass (topS 16) 9
abbrev s_G_init : Stmt := inClass (topS 21) 0
abbrev s_G_number : Stmt := inClass (topS 21) 2
abbrev s_G_zero : Stmt := inClass (topS 21) 3
abbrev s_G_one : Stmt := inClass (topS 21) 4
abbrev s_G_is_member : Stmt := inClass (topS 21) 5
abbrev s_taken : Stmt := topS 22
abbrev s_taken_rows : Stmt := topS 26
abbrev s_M_init : Stmt := inClass (topS 28) 0
abbrev s_M_len : Stmt := inClass (topS 28) 1
abbrev s_unit : Stmt := topS 31
abbrev s_is_plain : Stmt := topS 34
abbrev s_is_row : Stmt := topS 35
abbrev s_is_table : Stmt := topS 36
abbrev s_times : Stmt := topS 37
abbrev s_is_unit : Stmt := topS 38
abbrev s_takes_rank : Stmt := topS 39
abbrev s_reduce_rows : Stmt := topS 41
abbrev s_less : Stmt := topS 42
abbrev s_kernel_rows : Stmt := topS 43
abbrev s_reduced : Stmt := topS 44
abbrev s_solve : Stmt := topS 45
abbrev s_unit_row : Stmt := topS 47
abbrev s_rank_paper : Stmt := topS 48
abbrev s_law_numbers : Stmt := topS 50
abbrev s_law_next : Stmt := topS 51
abbrev s_law_prime : Stmt := topS 52
abbrev s_law_ground : Stmt := topS 53
abbrev s_law_matrix : Stmt := topS 54
abbrev s_law_low : Stmt := topS 55
abbrev s_law_pairs : Stmt := topS 56
abbrev s_law_seen : Stmt := topS 57
abbrev s_law_line : Stmt := topS 58
abbrev s_law_table : Stmt := topS 59
abbrev s_law_plus : Stmt := topS 60
abbrev s_law_mul : Stmt := topS 61
abbrev s_law_both : Stmt := topS 62
abbrev s_law_ones : Stmt := topS 63
abbrev s_law_rank_holds : Stmt := topS 64
abbrev s_law_rest : Stmt := topS 65
abbrev s_law_rank : Stmt := topS 66
abbrev s_law_other : Stmt := topS 67
abbrev s_law_bend : Stmt := topS 68
abbrev s_law : Stmt := topS 69
/-! ### the scopes: names by slots -/
theorem sc_is_integer : FnScope ["value"] ["value"] (defScope s_is_integer) := ⟨rfl, rfl, rfl, by decide +kernel, rfl, by decide +kernel, by decide +kernel⟩
theorem sc_Q_init : FnScope ["self", "n", "d", "shared"] ["self", "n", "d"] (defScope s_Q_init) := ⟨rfl, rfl, rfl, by decide +kernel, rfl, by decide +kernel, by decide +kernel⟩
theorem sc_Q_eq : FnScope ["self", "other"] ["self", "other"] (defScope s_Q_eq) := ⟨rfl, rfl, rfl, by decide +kernel, rfl, by decide +kernel, by decide +kernel⟩
theorem sc_Q_add : FnScope ["self", "other"] ["self", "other"] (defScope s_Q_add) := ⟨rfl, rfl, rfl, by decide +kernel, rfl, by decide +kernel, by decide +kernel⟩
theorem sc_Q_sub : FnScope ["self", "other"] ["self", "other"] (defScope s_Q_sub) := ⟨rfl, rfl, rfl, by decide +kernel, rfl, by decide +kernel, by decide +kernel⟩
theorem sc_Q_mul : FnScope ["self", "other"] ["self", "other"] (defScope s_Q_mul) := ⟨rfl, rfl, rfl, by decide +kernel, rfl, by decide +kernel, by decide +kernel⟩
theorem sc_Q_neg : FnScope ["self"] ["self"] (defScope s_Q_neg) := ⟨rfl, rfl, rfl, by decide +kernel, rfl, by decide +kernel, by decide +kernel⟩
theorem sc_Q_is_zero : FnScope ["self"] ["self"] (defScope s_Q_is_zero) := ⟨rfl, rfl, rfl, by decide +kernel, rfl, by decide +kernel, by decide +kernel⟩
theorem sc_Q_inverse : FnScope ["self"] ["self"] (defScope s_Q_inverse) := ⟨rfl, rfl, rfl, by decide +kernel, rfl, by decide +kernel, by decide +kernel⟩
theorem sc_Q_over : FnScope ["self", "other"] ["self", "other"] (defScope s_Q_over) := ⟨rfl, rfl, rfl, by decide +kernel, rfl, by decide +kernel, by decide +kernel⟩
theorem sc_is_small_prime : FnScope ["value"] ["value"] (defScope s_is_small_prime) := ⟨rfl, rfl, rfl, by decide +kernel, rfl, by decide +kernel, by decide +kernel⟩
theorem sc_R_init : FnScope ["self", "p", "n"] ["self", "p", "n"] (defScope s_R_init) := ⟨rfl, rfl, rfl, by decide +kernel, rfl, by decide +kernel, by decide +kernel⟩
theorem sc_R_eq : FnScope ["self", "other"] ["self", "other"] (defScope s_R_eq) := ⟨rfl, rfl, rfl, by decide +kernel, rfl, by decide +kernel, by decide +kernel⟩
theorem sc_R_add : FnScope ["self", "other"] ["self", "other"] (defScope s_R_add) := ⟨rfl, rfl, rfl, by decide +kernel, rfl, by decide +kernel, by decide +kernel⟩
theorem sc_R_sub : FnScope ["self", "other"] ["self", "other"] (defScope s_R_sub) := ⟨rfl, rfl, rfl, by decide +kernel, rfl, by decide +kernel, by decide +kernel⟩
theorem sc_R_mul : FnScope ["self", "other"] ["self", "other"] (defScope s_R_mul) := ⟨rfl, rfl, rfl, by decide +kernel, rfl, by decide +kernel, by decide +kernel⟩
theorem sc_R_neg : FnScope ["self"] ["self"] (defScope s_R_neg) := ⟨rfl, rfl, rfl, by decide +kernel, rfl, by decide +kernel, by decide +kernel⟩
theorem sc_R_is_zero : FnScope ["self"] ["self"] (defScope s_R_is_zero) := ⟨rfl, rfl, rfl, by decide +kernel, rfl, by decide +kernel, by decide +kernel⟩
theorem sc_R_inverse : FnScope ["self", "total", "_"] ["self"] (defScope s_R_inverse) := ⟨rfl, rfl, rfl, by decide +kernel, rfl, by decide +kernel, by decide +kernel⟩
theorem sc_R_over : FnScope ["self", "other"] ["self", "other"] (defScope s_R_over) := ⟨rfl, rfl, rfl, by decide +kernel, rfl, by decide +kernel, by decide +kernel⟩
theorem sc_G_init : FnScope ["self", "p"] ["self", "p"] (defScope s_G_init) := ⟨rfl, rfl, rfl, by decide +kernel, rfl, by decide +kernel, by decide +kernel⟩
theorem sc_G_number : FnScope ["self", "n", "d"] ["self", "n", "d"] (defScope s_G_number) := ⟨rfl, rfl, rfl, by decide +kernel, rfl, by decide +kernel, by decide +kernel⟩
theorem sc_G_zero : FnScope ["self"] ["self"] (defScope s_G_zero) := ⟨rfl, rfl, rfl, by decide +kernel, rfl, by decide +kernel, by decide +kernel⟩
theorem sc_G_one : FnScope ["self"] ["self"] (defScope s_G_one) := ⟨rfl, rfl, rfl, by decide +kernel, rfl, by decide +kernel, by decide +kernel⟩
theorem sc_G_is_member : FnScope ["self", "value"] ["self", "value"] (defScope s_G_is_member) := ⟨rfl, rfl, rfl, by decide +kernel, rfl, by decide +kernel, by decide +kernel⟩
theorem sc_taken : FnScope ["ground", "item"] ["ground", "item"] (defScope s_taken) := ⟨rfl, rfl, rfl, by decide +kernel, rfl, by decide +kernel, by decide +kernel⟩
theorem sc_taken_rows : FnScope ["ground", "rows", "found", "row", "item"] ["ground", "rows"] (defScope s_taken_rows) := ⟨rfl, rfl, rfl, by decide +kernel, rfl, by decide +kernel, by decide +kernel⟩
theorem sc_M_init : FnScope ["self", "ground", "rows", "width", "own", "row"] ["self", "ground", "rows", "width"] (defScope s_M_init) := ⟨rfl, rfl, rfl, by decide +kernel, rfl, by decide +kernel, by decide +kernel⟩
theorem sc_M_len : FnScope ["self"] ["self"] (defScope s_M_len) := ⟨rfl, rfl, rfl, by decide +kernel, rfl, by decide +kernel, by decide +kernel⟩
theorem sc_unit : FnScope ["ground", "n", "i", "j"] ["ground", "n"] (defScope s_unit) := ⟨rfl, rfl, rfl, by decide +kernel, rfl, by decide +kernel, by decide +kernel⟩
theorem sc_is_plain : FnScope ["value"] ["value"] (defScope s_is_plain) := ⟨rfl, rfl, rfl, by decide +kernel, rfl, by decide +kernel, by decide +kernel⟩
theorem sc_is_row : FnScope ["ground", "value", "n", "item"] ["ground", "value", "n"] (defScope s_is_row) := ⟨rfl, rfl, rfl, by decide +kernel, rfl, by decide +kernel, by decide +kernel⟩
theorem sc_is_table : FnScope ["ground", "value", "height", "width", "row"] ["ground", "value", "height", "width"] (defScope s_is_table) := ⟨rfl, rfl, rfl, by decide +kernel, rfl, by decide +kernel, by decide +kernel⟩
theorem sc_times : FnScope ["ground", "one", "two", "width", "found", "row", "total", "k", "_", "j"] ["ground", "one", "two", "width"] (defScope s_times) := ⟨rfl, rfl, rfl, by decide +kernel, rfl, by decide +kernel, by decide +kernel⟩
theorem sc_is_unit : FnScope ["ground", "table"] ["ground", "table"] (defScope s_is_unit) := ⟨rfl, rfl, rfl, by decide +kernel, rfl, by decide +kernel, by decide +kernel⟩
theorem sc_takes_rank : FnScope ["m", "paper", "ground", "r", "left", "right", "tall", "wide"] ["m", "paper"] (defScope s_takes_rank) := ⟨rfl, rfl, rfl, by decide +kernel, rfl, by decide +kernel, by decide +kernel⟩
theorem sc_reduce_rows : FnScope ["rows", "width", "rest", "found", "pivots", "column", "places", "own", "head", "left", "row", "i", "x"] ["rows", "width"] (defScope s_reduce_rows) := ⟨rfl, rfl, rfl, by decide +kernel, rfl, by decide +kernel, by decide +kernel⟩
theorem sc_less : FnScope ["row", "own", "column", "factor", "x", "y"] ["row", "own", "column"] (defScope s_less) := ⟨rfl, rfl, rfl, by decide +kernel, rfl, by decide +kernel, by decide +kernel⟩
theorem sc_kernel_rows : FnScope ["ground", "rows", "width", "height", "wide", "i", "found", "pivots", "j", "k"] ["ground", "rows", "width"] (defScope s_kernel_rows) := ⟨rfl, rfl, rfl, by decide +kernel, rfl, by decide +kernel, by decide +kernel⟩
theorem sc_reduced : FnScope ["m", "rows", "pivots"] ["m"] (defScope s_reduced) := ⟨rfl, rfl, rfl, by decide +kernel, rfl, by decide +kernel, by decide +kernel⟩
theorem sc_solve : FnScope ["m", "w", "rows", "row", "x"] ["m", "w"] (defScope s_solve) := ⟨rfl, rfl, rfl, by decide +kernel, rfl, by decide +kernel, by decide +kernel⟩
theorem sc_unit_row : FnScope ["ground", "n", "k", "i"] ["ground", "n", "k"] (defScope s_unit_row) := ⟨rfl, rfl, rfl, by decide +kernel, rfl, by decide +kernel, by decide +kernel⟩
theorem sc_rank_paper : FnScope ["m", "wide", "pivots", "r", "tall", "right", "left", "row", "at", "k"] ["m"] (defScope s_rank_paper) := ⟨rfl, rfl, rfl, by decide +kernel, rfl, by decide +kernel, by decide +kernel⟩
theorem sc_law_numbers : FnScope ["_law_script", "_law_found", "_law_k", "_law_cell", "_law_turn", "_law_i", "_law_mixed"] ["_law_script"] (defScope s_law_numbers) := ⟨rfl, rfl, rfl, by decide +kernel, rfl, by decide +kernel, by decide +kernel⟩
theorem sc_law_next : FnScope ["_law_numbers_here", "_law_many"] ["_law_numbers_here", "_law_many"] (defScope s_law_next) := ⟨rfl, rfl, rfl, by decide +kernel, rfl, by decide +kernel, by decide +kernel⟩
theorem sc_law_prime : FnScope ["_law_numbers_here"] ["_law_numbers_here"] (defScope s_law_prime) := ⟨rfl, rfl, rfl, by decide +kernel, rfl, by decide +kernel, by decide +kernel⟩
theorem sc_law_ground : FnScope ["_law_p"] ["_law_p"] (defScope s_law_ground) := ⟨rfl, rfl, rfl, by decide +kernel, rfl, by decide +kernel, by decide +kernel⟩
theorem sc_law_matrix : FnScope ["_law_numbers_here", "_law_n", "_law_m", "_law_i", "_law_j"] ["_law_numbers_here", "_law_n", "_law_m"] (defScope s_law_matrix) := ⟨rfl, rfl, rfl, by decide +kernel, rfl, by decide +kernel, by decide +kernel⟩
theorem sc_law_low : FnScope ["_law_p", "_law_n", "_law_d", "_law_a", "_law_b"] ["_law_p", "_law_n", "_law_d"] (defScope s_law_low) := ⟨rfl, rfl, rfl, by decide +kernel, rfl, by decide +kernel, by decide +kernel⟩
theorem sc_law_pairs : FnScope ["_law_p", "_law_rows", "_law_row", "_law_x"] ["_law_p", "_law_rows"] (defScope s_law_pairs) := ⟨rfl, rfl, rfl, by decide +kernel, rfl, by decide +kernel, by decide +kernel⟩
theorem sc_law_seen : FnScope ["_law_p", "_law_ground_here", "_law_x"] ["_law_p", "_law_ground_here", "_law_x"] (defScope s_law_seen) := ⟨rfl, rfl, rfl, by decide +kernel, rfl, by decide +kernel, by decide +kernel⟩
theorem sc_law_line : FnScope ["_law_p", "_law_ground_here", "_law_value", "_law_width", "_law_found", "_law_x"] ["_law_p", "_law_ground_here", "_law_value", "_law_width"] (defScope s_law_line) := ⟨rfl, rfl, rfl, by decide +kernel, rfl, by decide +kernel, by decide +kernel⟩
theorem sc_law_table : FnScope ["_law_p", "_law_ground_here", "_law_value", "_law_height", "_law_width", "_law_found", "_law_row"] ["_law_p", "_law_ground_here", "_law_value", "_law_height", "_law_width"] (defScope s_law_table) := ⟨rfl, rfl, rfl, by decide +kernel, rfl, by decide +kernel, by decide +kernel⟩
theorem sc_law_plus : FnScope ["_law_p", "_law_a", "_law_b"] ["_law_p", "_law_a", "_law_b"] (defScope s_law_plus) := ⟨rfl, rfl, rfl, by decide +kernel, rfl, by decide +kernel, by decide +kernel⟩
theorem sc_law_mul : FnScope ["_law_p", "_law_a", "_law_b"] ["_law_p", "_law_a", "_law_b"] (defScope s_law_mul) := ⟨rfl, rfl, rfl, by decide +kernel, rfl, by decide +kernel, by decide +kernel⟩
theorem sc_law_both : FnScope ["_law_p", "_law_one", "_law_two", "_law_width", "_law_found", "_law_row", "_law_line_here", "_law_j", "_law_total", "_law_k"] ["_law_p", "_law_one", "_law_two", "_law_width"] (defScope s_law_both) := ⟨rfl, rfl, rfl, by decide +kernel, rfl, by decide +kernel, by decide +kernel⟩
theorem sc_law_ones : FnScope ["_law_n", "_law_i", "_law_j"] ["_law_n"] (defScope s_law_ones) := ⟨rfl, rfl, rfl, by decide +kernel, rfl, by decide +kernel, by decide +kernel⟩
theorem sc_law_rank_holds : FnScope ["_law_p", "_law_ground_here", "_law_own", "_law_width", "_law_paper", "_law_r", "_law_left", "_law_right", "_law_tall", "_law_wide"] ["_law_p", "_law_ground_here", "_law_own", "_law_width", "_law_paper"] (defScope s_law_rank_holds) := ⟨rfl, rfl, rfl, by decide +kernel, rfl, by decide +kernel, by decide +kernel⟩
theorem sc_law_rest : FnScope ["_law_p", "_law_x"] ["_law_p", "_law_x"] (defScope s_law_rest) := ⟨rfl, rfl, rfl, by decide +kernel, rfl, by decide +kernel, by decide +kernel⟩
theorem sc_law_rank : FnScope ["_law_p", "_law_rows", "_law_width", "_law_rank_here", "_law_column", "_law_at", "_law_head", "_law_i", "_law_c", "_law_row", "_law_x", "_law_k"] ["_law_p", "_law_rows", "_law_width"] (defScope s_law_rank) := ⟨rfl, rfl, rfl, by decide +kernel, rfl, by decide +kernel, by decide +kernel⟩
theorem sc_law_other : FnScope ["_law_numbers_here", "_law_ground_here", "_law_data", "_law_k"] ["_law_numbers_here", "_law_ground_here", "_law_data"] (defScope s_law_other) := ⟨rfl, rfl, rfl, by decide +kernel, rfl, by decide +kernel, by decide +kernel⟩
theorem sc_law_bend : FnScope ["_law_numbers_here", "_law_ground_here", "_law_data", "_law_room", "_law_at"] ["_law_numbers_here", "_law_ground_here", "_law_data", "_law_room"] (defScope s_law_bend) := ⟨rfl, rfl, rfl, by decide +kernel, rfl, by decide +kernel, by decide +kernel⟩
theorem sc_law : FnScope ["_law_script", "_law_numbers_here", "_law_p", "_law_ground_here", "_law_height", "_law_width", "_law_rows", "_law_m", "_law_own", "_law_paper", "_law_turn", "_law_data", "_law_k", "_law_taken", "_law_r"] ["_law_script"] (defScope s_law) := ⟨rfl, rfl, rfl, by decide +kernel, rfl, by decide +kernel, by decide +kernel⟩
/-! ### the head's facts -/
def d_is_integer : He.DefD := ⟨("is_integer", none), "is_integer", "is_integer", defArgs s_is_integer, defBody s_is_integer, defScope s_is_integer, [], []⟩
def d_Q_init : He.DefD := ⟨("Ratio", some "__init__"), "__init__", "Ratio.__init__", defArgs s_Q_init, defBody s_Q_init, defScope s_Q_init, [He.Dv.int 1], []⟩
def d_Q_eq : He.DefD := ⟨("Ratio", some "__eq__"), "__eq__", "Ratio.__eq__", defArgs s_Q_eq, defBody s_Q_eq, defScope s_Q_eq, [], []⟩
def d_Q_add : He.DefD := ⟨("Ratio", some "__add__"), "__add__", "Ratio.__add__", defArgs s_Q_add, defBody s_Q_add, defScope s_Q_add, [], []⟩
def d_Q_sub : He.DefD := ⟨("Ratio", some "__sub__"), "__sub__", "Ratio.__sub__", defArgs s_Q_sub, defBody s_Q_sub, defScope s_Q_sub, [], []⟩
def d_Q_mul : He.DefD := ⟨("Ratio", some "__mul__"), "__mul__", "Ratio.__mul__", defArgs s_Q_mul, defBody s_Q_mul, defScope s_Q_mul, [], []⟩
def d_Q_neg : He.DefD := ⟨("Ratio", some "__neg__"), "__neg__", "Ratio.__neg__", defArgs s_Q_neg, defBody s_Q_neg, defScope s_Q_neg, [], []⟩
def d_Q_is_zero : He.DefD := ⟨("Ratio", some "is_zero"), "is_zero", "Ratio.is_zero", defArgs s_Q_is_zero, defBody s_Q_is_zero, defScope s_Q_is_zero, [], []⟩
def d_Q_inverse : He.DefD := ⟨("Ratio", some "inverse"), "inverse", "Ratio.inverse", defArgs s_Q_inverse, defBody s_Q_inverse, defScope s_Q_inverse, [], []⟩
def d_Q_over : He.DefD := ⟨("Ratio", some "over"), "over", "Ratio.over", defArgs s_Q_over, defBody s_Q_over, defScope s_Q_over, [], []⟩
def d_is_small_prime : He.DefD := ⟨("is_small_prime", none), "is_small_prime", "is_small_prime", defArgs s_is_small_prime, defBody s_is_small_prime, defScope s_is_small_prime, [], []⟩
def d_R_init : He.DefD := ⟨("Residue", some "__init__"), "__init__", "Residue.__init__", defArgs s_R_init, defBody s_R_init, defScope s_R_init, [], []⟩
def d_R_eq : He.DefD := ⟨("Residue", some "__eq__"), "__eq__", "Residue.__eq__", defArgs s_R_eq, defBody s_R_eq, defScope s_R_eq, [], []⟩
def d_R_add : He.DefD := ⟨("Residue", some "__add__"), "__add__", "Residue.__add__", defArgs s_R_add, defBody s_R_add, defScope s_R_add, [], []⟩
def d_R_sub : He.DefD := ⟨("Residue", some "__sub__"), "__sub__", "Residue.__sub__", defArgs s_R_sub, defBody s_R_sub, defScope s_R_sub, [], []⟩
def d_R_mul : He.DefD := ⟨("Residue", some "__mul__"), "__mul__", "Residue.__mul__", defArgs s_R_mul, defBody s_R_mul, defScope s_R_mul, [], []⟩
def d_R_neg : He.DefD := ⟨("Residue", some "__neg__"), "__neg__", "Residue.__neg__", defArgs s_R_neg, defBody s_R_neg, defScope s_R_neg, [], []⟩
def d_R_is_zero : He.DefD := ⟨("Residue", some "is_zero"), "is_zero", "Residue.is_zero", defArgs s_R_is_zero, defBody s_R_is_zero, defScope s_R_is_zero, [], []⟩
def d_R_inverse : He.DefD := ⟨("Residue", some "inverse"), "inverse", "Residue.inverse", defArgs s_R_inverse, defBody s_R_inverse, defScope s_R_inverse, [], []⟩
def d_R_over : He.DefD := ⟨("Residue", some "over"), "over", "Residue.over", defArgs s_R_over, defBody s_R_over, defScope s_R_over, [], []⟩
def d_G_init : He.DefD := ⟨("Ground", some "__init__"), "__init__", "Ground.__init__", defArgs s_G_init, defBody s_G_init, defScope s_G_init, [He.Dv.int 0], []⟩
def d_G_number : He.DefD := ⟨("Ground", some "number"), "number", "Ground.number", defArgs s_G_number, defBody s_G_number, defScope s_G_number, [He.Dv.int 1], []⟩
def d_G_zero : He.DefD := ⟨("Ground", some "zero"), "zero", "Ground.zero", defArgs s_G_zero, defBody s_G_zero, defScope s_G_zero, [], []⟩
def d_G_one : He.DefD := ⟨("Ground", some "one"), "one", "Ground.one", defArgs s_G_one, defBody s_G_one, defScope s_G_one, [], []⟩
def d_G_is_member : He.DefD := ⟨("Ground", some "is_member"), "is_member", "Ground.is_member", defArgs s_G_is_member, defBody s_G_is_member, defScope s_G_is_member, [], []⟩
def d_taken : He.DefD := ⟨("taken", none), "taken", "taken", defArgs s_taken, defBody s_taken, defScope s_taken, [], []⟩
def d_taken_rows : He.DefD := ⟨("taken_rows", none), "taken_rows", "taken_rows", defArgs s_taken_rows, defBody s_taken_rows, defScope s_taken_rows, [], []⟩
def d_M_init : He.DefD := ⟨("Matrix", some "__init__"), "__init__", "Matrix.__init__", defArgs s_M_init, defBody s_M_init, defScope s_M_init, [He.Dv.non], []⟩
def d_M_len : He.DefD := ⟨("Matrix", some "__len__"), "__len__", "Matrix.__len__", defArgs s_M_len, defBody s_M_len, defScope s_M_len, [], []⟩
def d_unit : He.DefD := ⟨("unit", none), "unit", "unit", defArgs s_unit, defBody s_unit, defScope s_unit, [], []⟩
def d_is_plain : He.DefD := ⟨("is_plain", none), "is_plain", "is_plain", defArgs s_is_plain, defBody s_is_plain, defScope s_is_plain, [], []⟩
def d_is_row : He.DefD := ⟨("is_row", none), "is_row", "is_row", defArgs s_is_row, defBody s_is_row, defScope s_is_row, [], []⟩
def d_is_table : He.DefD := ⟨("is_table", none), "is_table", "is_table", defArgs s_is_table, defBody s_is_table, defScope s_is_table, [], []⟩
def d_times : He.DefD := ⟨("times", none), "times", "times", defArgs s_times, defBody s_times, defScope s_times, [], []⟩
def d_is_unit : He.DefD := ⟨("is_unit", none), "is_unit", "is_unit", defArgs s_is_unit, defBody s_is_unit, defScope s_is_unit, [], []⟩
def d_takes_rank : He.DefD := ⟨("takes_rank", none), "takes_rank", "takes_rank", defArgs s_takes_rank, defBody s_takes_rank, defScope s_takes_rank, [], []⟩
def d_reduce_rows : He.DefD := ⟨("reduce_rows", none), "reduce_rows", "reduce_rows", defArgs s_reduce_rows, defBody s_reduce_rows, defScope s_reduce_rows, [], []⟩
def d_less : He.DefD := ⟨("less", none), "less", "less", defArgs s_less, defBody s_less, defScope s_less, [], []⟩
def d_kernel_rows : He.DefD := ⟨("kernel_rows", none), "kernel_rows", "kernel_rows", defArgs s_kernel_rows, defBody s_kernel_rows, defScope s_kernel_rows, [], []⟩
def d_reduced : He.DefD := ⟨("reduced", none), "reduced", "reduced", defArgs s_reduced, defBody s_reduced, defScope s_reduced, [], []⟩
def d_solve : He.DefD := ⟨("solve", none), "solve", "solve", defArgs s_solve, defBody s_solve, defScope s_solve, [], []⟩
def d_unit_row : He.DefD := ⟨("unit_row", none), "unit_row", "unit_row", defArgs s_unit_row, defBody s_unit_row, defScope s_unit_row, [], []⟩
def d_rank_paper : He.DefD := ⟨("rank_paper", none), "rank_paper", "rank_paper", defArgs s_rank_paper, defBody s_rank_paper, defScope s_rank_paper, [], []⟩
def d_law_numbers : He.DefD := ⟨("_law_numbers", none), "_law_numbers", "_law_numbers", defArgs s_law_numbers, defBody s_law_numbers, defScope s_law_numbers, [], []⟩
def d_law_next : He.DefD := ⟨("_law_next", none), "_law_next", "_law_next", defArgs s_law_next, defBody s_law_next, defScope s_law_next, [], []⟩
def d_law_prime : He.DefD := ⟨("_law_prime", none), "_law_prime", "_law_prime", defArgs s_law_prime, defBody s_law_prime, defScope s_law_prime, [], []⟩
def d_law_ground : He.DefD := ⟨("_law_ground", none), "_law_ground", "_law_ground", defArgs s_law_ground, defBody s_law_ground, defScope s_law_ground, [], []⟩
def d_law_matrix : He.DefD := ⟨("_law_matrix", none), "_law_matrix", "_law_matrix", defArgs s_law_matrix, defBody s_law_matrix, defScope s_law_matrix, [], []⟩
def d_law_low : He.DefD := ⟨("_law_low", none), "_law_low", "_law_low", defArgs s_law_low, defBody s_law_low, defScope s_law_low, [], []⟩
def d_law_pairs : He.DefD := ⟨("_law_pairs", none), "_law_pairs", "_law_pairs", defArgs s_law_pairs, defBody s_law_pairs, defScope s_law_pairs, [], []⟩
def d_law_seen : He.DefD := ⟨("_law_seen", none), "_law_seen", "_law_seen", defArgs s_law_seen, defBody s_law_seen, defScope s_law_seen, [], []⟩
def d_law_line : He.DefD := ⟨("_law_line", none), "_law_line", "_law_line", defArgs s_law_line, defBody s_law_line, defScope s_law_line, [], []⟩
def d_law_table : He.DefD := ⟨("_law_table", none), "_law_table", "_law_table", defArgs s_law_table, defBody s_law_table, defScope s_law_table, [], []⟩
def d_law_plus : He.DefD := ⟨("_law_plus", none), "_law_plus", "_law_plus", defArgs s_law_plus, defBody s_law_plus, defScope s_law_plus, [], []⟩
def d_law_mul : He.DefD := ⟨("_law_mul", none), "_law_mul", "_law_mul", defArgs s_law_mul, defBody s_law_mul, defScope s_law_mul, [], []⟩
def d_law_both : He.DefD := ⟨("_law_both", none), "_law_both", "_law_both", defArgs s_law_both, defBody s_law_both, defScope s_law_both, [], []⟩
def d_law_ones : He.DefD := ⟨("_law_ones", none), "_law_ones", "_law_ones", defArgs s_law_ones, defBody s_law_ones, defScope s_law_ones, [], []⟩
def d_law_rank_holds : He.DefD := ⟨("_law_rank_holds", none), "_law_rank_holds", "_law_rank_holds", defArgs s_law_rank_holds, defBody s_law_rank_holds, defScope s_law_rank_holds, [], []⟩
def d_law_rest : He.DefD := ⟨("_law_rest", none), "_law_rest", "_law_rest", defArgs s_law_rest, defBody s_law_rest, defScope s_law_rest, [], []⟩
def d_law_rank : He.DefD := ⟨("_law_rank", none), "_law_rank", "_law_rank", defArgs s_law_rank, defBody s_law_rank, defScope s_law_rank, [], []⟩
def d_law_other : He.DefD := ⟨("_law_other", none), "_law_other", "_law_other", defArgs s_law_other, defBody s_law_other, defScope s_law_other, [], []⟩
def d_law_bend : He.DefD := ⟨("_law_bend", none), "_law_bend", "_law_bend", defArgs s_law_bend, defBody s_law_bend, defScope s_law_bend, [], []⟩
def d_law : He.DefD := ⟨("law", none), "law", "law", defArgs s_law, defBody s_law, defScope s_law, [], []⟩
def fn : List He.DefD := [d_is_integer, d_Q_init, d_Q_eq, d_Q_add, d_Q_sub, d_Q_mul, d_Q_neg, d_Q_is_zero, d_Q_inverse, d_Q_over, d_is_small_prime, d_R_init, d_R_eq, d_R_add, d_R_sub, d_R_mul, d_R_neg, d_R_is_zero, d_R_inverse, d_R_over, d_G_init, d_G_number, d_G_zero, d_G_one, d_G_is_member, d_taken, d_taken_rows, d_M_init, d_M_len, d_unit, d_is_plain, d_is_row, d_is_table, d_times, d_is_unit, d_takes_rank, d_reduce_rows, d_less, d_kernel_rows, d_reduced, d_solve, d_unit_row, d_rank_paper, d_law_numbers, d_law_next, d_law_prime, d_law_ground, d_law_matrix, d_law_low, d_law_pairs, d_law_seen, d_law_line, d_law_table, d_law_plus, d_law_mul, d_law_both, d_law_ones, d_law_rank_holds, d_law_rest, d_law_rank, d_law_other, d_law_bend, d_law]
def fa : List He.Fa := [.glo "is_integer", .glo "is_small_prime", .glo "taken", .glo "taken_rows", .glo "unit", .glo "is_plain", .glo "is_row", .glo "is_table", .glo "times", .glo "is_unit", .glo "takes_rank", .glo "reduce_rows", .glo "less", .glo "kernel_rows", .glo "reduced", .glo "solve", .glo "unit_row", .glo "rank_paper", .glo "_law_numbers", .glo "_law_next", .glo "_law_prime", .glo "_law_ground", .glo "_law_matrix", .glo "_law_low", .glo "_law_pairs", .glo "_law_seen", .glo "_law_line", .glo "_law_table", .glo "_law_plus", .glo "_law_mul", .glo "_law_both", .glo "_law_ones", .glo "_law_rank_holds", .glo "_law_rest", .glo "_law_rank", .glo "_law_other", .glo "_law_bend", .glo "law", .glo "Ratio", .glo "Residue", .glo "Ground", .glo "Matrix", .glo "PRIMES", .free "isinstance", .free "int", .free "bool", .free "tuple", .free "list", .free "len", .free "range", .free "zip", .free "all", .free "abs", .free "min", .int "MOST_ROWS" 8, .int "MOST_WIDTH" 64, .cls "Ratio", .mkr "Ratio", .cls "Residue", .mkr "Residue", .cls "Ground", .mkr "Ground", .cls "Matrix", .mkr "Matrix", .noat "Ratio" "n", .noat "Ratio" "d", .noat "Residue" "p", .noat "Residue" "n", .noat "Ground" "p", .noat "Matrix" "ground", .noat "Matrix" "rows", .noat "Matrix" "width", .meth "Ratio" "__init__", .meth "Ratio" "__eq__", .meth "Ratio" "__add__", .meth "Ratio" "__sub__", .meth "Ratio" "__mul__", .meth "Ratio" "__neg__", .meth "Ratio" "is_zero", .meth "Ratio" "inverse", .meth "Ratio" "over", .meth "Residue" "__init__", .meth "Residue" "__eq__", .meth "Residue" "__add__", .meth "Residue" "__sub__", .meth "Residue" "__mul__", .meth "Residue" "__neg__", .meth "Residue" "is_zero", .meth "Residue" "inverse", .meth "Residue" "over", .meth "Ground" "__init__", .meth "Ground" "number", .meth "Ground" "zero", .meth "Ground" "one", .meth "Ground" "is_member", .meth "Matrix" "__init__", .meth "Matrix" "__len__"]
section
variable {K : PySem.W.Frag} (c : He.SaysD fa fn K)
include c
theorem a_glo_is_integer : (He.Fa.glo "is_integer").ok K = true := c.fact 0 rfl
theorem a_glo_is_small_prime : (He.Fa.glo "is_small_prime").ok K = true := c.fact 1 rfl
theorem a_glo_taken : (He.Fa.glo "taken").ok K = true := c.fact 2 rfl
theorem a_glo_taken_rows : (He.Fa.glo "taken_rows").ok K = true := c.fact 3 rfl
theorem a_glo_unit : (He.Fa.glo "unit").ok K = true := c.fact 4 rfl
theorem a_glo_is_plain : (He.Fa.glo "is_plain").ok K = true := c.fact 5 rfl
theorem a_glo_is_row : (He.Fa.glo "is_row").ok K = true := c.fact 6 rfl
theorem a_glo_is_table : (He.Fa.glo "is_table").ok K = true := c.fact 7 rfl
theorem a_glo_times : (He.Fa.glo "times").ok K = true := c.fact 8 rfl
theorem a_glo_is_unit : (He.Fa.glo "is_unit").ok K = true := c.fact 9 rfl
theorem a_glo_takes_rank : (He.Fa.glo "takes_rank").ok K = true := c.fact 10 rfl
theorem a_glo_reduce_rows : (He.Fa.glo "reduce_rows").ok K = true := c.fact 11 rfl
theorem a_glo_less : (He.Fa.glo "less").ok K = true := c.fact 12 rfl
theorem a_glo_kernel_rows : (He.Fa.glo "kernel_rows").ok K = true := c.fact 13 rfl
theorem a_glo_reduced : (He.Fa.glo "reduced").ok K = true := c.fact 14 rfl
theorem a_glo_solve : (He.Fa.glo "solve").ok K = true := c.fact 15 rfl
theorem a_glo_unit_row : (He.Fa.glo "unit_row").ok K = true := c.fact 16 rfl
theorem a_glo_rank_paper : (He.Fa.glo "rank_paper").ok K = true := c.fact 17 rfl
theorem a_glo_law_numbers : (He.Fa.glo "_law_numbers").ok K = true := c.fact 18 rfl
theorem a_glo_law_next : (He.Fa.glo "_law_next").ok K = true := c.fact 19 rfl
theorem a_glo_law_prime : (He.Fa.glo "_law_prime").ok K = true := c.fact 20 rfl
theorem a_glo_law_ground : (He.Fa.glo "_law_ground").ok K = true := c.fact 21 rfl
theorem a_glo_law_matrix : (He.Fa.glo "_law_matrix").ok K = true := c.fact 22 rfl
theorem a_glo_law_low : (He.Fa.glo "_law_low").ok K = true := c.fact 23 rfl
theorem a_glo_law_pairs : (He.Fa.glo "_law_pairs").ok K = true := c.fact 24 rfl
theorem a_glo_law_seen : (He.Fa.glo "_law_seen").ok K = true := c.fact 25 rfl
theorem a_glo_law_line : (He.Fa.glo "_law_line").ok K = true := c.fact 26 rfl
theorem a_glo_law_table : (He.Fa.glo "_law_table").ok K = true := c.fact 27 rfl
theorem a_glo_law_plus : (He.Fa.glo "_law_plus").ok K = true := c.fact 28 rfl
theorem a_glo_law_mul : (He.Fa.glo "_law_mul").ok K = true := c.fact 29 rfl
theorem a_glo_law_both : (He.Fa.glo "_law_both").ok K = true := c.fact 30 rfl
theorem a_glo_law_ones : (He.Fa.glo "_law_ones").ok K = true := c.fact 31 rfl
theorem a_glo_law_rank_holds : (He.Fa.glo "_law_rank_holds").ok K = true := c.fact 32 rfl
theorem a_glo_law_rest : (He.Fa.glo "_law_rest").ok K = true := c.fact 33 rfl
theorem a_glo_law_rank : (He.Fa.glo "_law_rank").ok K = true := c.fact 34 rfl
theorem a_glo_law_other : (He.Fa.glo "_law_other").ok K = true := c.fact 35 rfl
theorem a_glo_law_bend : (He.Fa.glo "_law_bend").ok K = true := c.fact 36 rfl
theorem a_glo_law : (He.Fa.glo "law").ok K = true := c.fact 37 rfl
theorem a_glo_Ratio : (He.Fa.glo "Ratio").ok K = true := c.fact 38 rfl
theorem a_glo_Residue : (He.Fa.glo "Residue").ok K = true := c.fact 39 rfl
theorem a_glo_Ground : (He.Fa.glo "Ground").ok K = true := c.fact 40 rfl
theorem a_glo_Matrix : (He.Fa.glo "Matrix").ok K = true := c.fact 41 rfl
theorem a_glo_PRIMES : (He.Fa.glo "PRIMES").ok K = true := c.fact 42 rfl
theorem a_free_isinstance : (He.Fa.free "isinstance").ok K = true := c.fact 43 rfl
theorem a_free_int : (He.Fa.free "int").ok K = true := c.fact 44 rfl
theorem a_free_bool : (He.Fa.free "bool").ok K = true := c.fact 45 rfl
theorem a_free_tuple : (He.Fa.free "tuple").ok K = true := c.fact 46 rfl
theorem a_free_list : (He.Fa.free "list").ok K = true := c.fact 47 rfl
theorem a_free_len : (He.Fa.free "len").ok K = true := c.fact 48 rfl
theorem a_free_range : (He.Fa.free "range").ok K = true := c.fact 49 rfl
theorem a_free_zip : (He.Fa.free "zip").ok K = true := c.fact 50 rfl
theorem a_free_all : (He.Fa.free "all").ok K = true := c.fact 51 rfl
theorem a_free_abs : (He.Fa.free "abs").ok K = true := c.fact 52 rfl
theorem a_free_min : (He.Fa.free "min").ok K = true := c.fact 53 rfl
theorem a_int_MOST_ROWS : (He.Fa.int "MOST_ROWS" 8).ok K = true := c.fact 54 rfl
theorem a_int_MOST_WIDTH : (He.Fa.int "MOST_WIDTH" 64).ok K = true := c.fact 55 rfl
theorem a_cls_Ratio : (He.Fa.cls "Ratio").ok K = true := c.fact 56 rfl
theorem a_mkr_Ratio : (He.Fa.mkr "Ratio").ok K = true := c.fact 57 rfl
theorem a_cls_Residue : (He.Fa.cls "Residue").ok K = true := c.fact 58 rfl
theorem a_mkr_Residue : (He.Fa.mkr "Residue").ok K = true := c.fact 59 rfl
theorem a_cls_Ground : (He.Fa.cls "Ground").ok K = true := c.fact 60 rfl
theorem a_mkr_Ground : (He.Fa.mkr "Ground").ok K = true := c.fact 61 rfl
theorem a_cls_Matrix : (He.Fa.cls "Matrix").ok K = true := c.fact 62 rfl
theorem a_mkr_Matrix : (He.Fa.mkr "Matrix").ok K = true := c.fact 63 rfl
theorem a_noat_Ratio_n : (He.Fa.noat "Ratio" "n").ok K = true := c.fact 64 rfl
theorem a_noat_Ratio_d : (He.Fa.noat "Ratio" "d").ok K = true := c.fact 65 rfl
theorem a_noat_Residue_p : (He.Fa.noat "Residue" "p").ok K = true := c.fact 66 rfl
theorem a_noat_Residue_n : (He.Fa.noat "Residue" "n").ok K = true := c.fact 67 rfl
theorem a_noat_Ground_p : (He.Fa.noat "Ground" "p").ok K = true := c.fact 68 rfl
theorem a_noat_Matrix_ground : (He.Fa.noat "Matrix" "ground").ok K = true := c.fact 69 rfl
theorem a_noat_Matrix_rows : (He.Fa.noat "Matrix" "rows").ok K = true := c.fact 70 rfl
theorem a_noat_Matrix_width : (He.Fa.noat "Matrix" "width").ok K = true := c.fact 71 rfl
theorem a_meth_Q_init : (He.Fa.meth "Ratio" "__init__").ok K = true := c.fact 72 rfl
theorem a_meth_Q_eq : (He.Fa.meth "Ratio" "__eq__").ok K = true := c.fact 73 rfl
theorem a_meth_Q_add : (He.Fa.meth "Ratio" "__add__").ok K = true := c.fact 74 rfl
theorem a_meth_Q_sub : (He.Fa.meth "Ratio" "__sub__").ok K = true := c.fact 75 rfl
theorem a_meth_Q_mul : (He.Fa.meth "Ratio" "__mul__").ok K = true := c.fact 76 rfl
theorem a_meth_Q_neg : (He.Fa.meth "Ratio" "__neg__").ok K = true := c.fact 77 rfl
theorem a_meth_Q_is_zero : (He.Fa.meth "Ratio" "is_zero").ok K = true := c.fact 78 rfl
theorem a_meth_Q_inverse : (He.Fa.meth "Ratio" "inverse").ok K = true := c.fact 79 rfl
theorem a_meth_Q_over : (He.Fa.meth "Ratio" "over").ok K = true := c.fact 80 rfl
theorem a_meth_R_init : (He.Fa.meth "Residue" "__init__").ok K = true := c.fact 81 rfl
theorem a_meth_R_eq : (He.Fa.meth "Residue" "__eq__").ok K = true := c.fact 82 rfl
theorem a_meth_R_add : (He.Fa.meth "Residue" "__add__").ok K = true := c.fact 83 rfl
theorem a_meth_R_sub : (He.Fa.meth "Residue" "__sub__").ok K = true := c.fact 84 rfl
theorem a_meth_R_mul : (He.Fa.meth "Residue" "__mul__").ok K = true := c.fact 85 rfl
theorem a_meth_R_neg : (He.Fa.meth "Residue" "__neg__").ok K = true := c.fact 86 rfl
theorem a_meth_R_is_zero : (He.Fa.meth "Residue" "is_zero").ok K = true := c.fact 87 rfl
theorem a_meth_R_inverse : (He.Fa.meth "Residue" "inverse").ok K = true := c.fact 88 rfl
theorem a_meth_R_over : (He.Fa.meth "Residue" "over").ok K = true := c.fact 89 rfl
theorem a_meth_G_init : (He.Fa.meth "Ground" "__init__").ok K = true := c.fact 90 rfl
theorem a_meth_G_number : (He.Fa.meth "Ground" "number").ok K = true := c.fact 91 rfl
theorem a_meth_G_zero : (He.Fa.meth "Ground" "zero").ok K = true := c.fact 92 rfl
theorem a_meth_G_one : (He.Fa.meth "Ground" "one").ok K = true := c.fact 93 rfl
theorem a_meth_G_is_member : (He.Fa.meth "Ground" "is_member").ok K = true := c.fact 94 rfl
theorem a_meth_M_init : (He.Fa.meth "Matrix" "__init__").ok K = true := c.fact 95 rfl
theorem a_meth_M_len : (He.Fa.meth "Matrix" "__len__").ok K = true := c.fact 96 rfl
end
noncomputable def fdOf (K : PySem.W.Frag) (f : Addr) : FuncData := match K.lookup f with
  | some ⟨_, _, .func fd, _⟩ => fd
  | _ => default
theorem funD_of {K : PySem.W.Frag} {x q : Str} {ar : Arguments} {bd : List Stmt} {sc : Scope} {dv : List V} {kw : List (Str × V)} {f : Addr} (h : ∃ fd, FunD K x q ar bd sc dv kw f fd) : FunD K x q ar bd sc dv kw f (fdOf K f) := by
  obtain ⟨fd, F⟩ := h
  obtain ⟨oc, od, dV, kV, doc, pm, an, cdv, ct, osl, e, lk, _⟩ := F.ex
  have : fdOf K f = fd := by
    unfold fdOf
    rw [lk]
  rw [this]
  exact F
section
variable {K : PySem.W.Frag} (c : He.SaysD fa fn K)
include c
theorem F_is_integer : FunD K "is_integer" "is_integer" (defArgs s_is_integer) (defBody s_is_integer) (defScope s_is_integer) [] [] (He.fAd K ("is_integer", none)) (fdOf K (He.fAd K ("is_integer", none))) := funD_of (c.def_ 0 (d := d_is_integer) rfl)
theorem F_Q_init : FunD K "__init__" "Ratio.__init__" (defArgs s_Q_init) (defBody s_Q_init) (defScope s_Q_init) [.int 1] [] (He.fAd K ("Ratio", some "__init__")) (fdOf K (He.fAd K ("Ratio", some "__init__"))) := funD_of (c.def_ 1 (d := d_Q_init) rfl)
theorem F_Q_eq : FunD K "__eq__" "Ratio.__eq__" (defArgs s_Q_eq) (defBody s_Q_eq) (defScope s_Q_eq) [] [] (He.fAd K ("Ratio", some "__eq__")) (fdOf K (He.fAd K ("Ratio", some "__eq__"))) := funD_of (c.def_ 2 (d := d_Q_eq) rfl)
theorem F_Q_add : FunD K "__add__" "Ratio.__add__" (defArgs s_Q_add) (defBody s_Q_add) (defScope s_Q_add) [] [] (He.fAd K ("Ratio", some "__add__")) (fdOf K (He.fAd K ("Ratio", some "__add__"))) := funD_of (c.def_ 3 (d := d_Q_add) rfl)
theorem F_Q_sub : FunD K "__sub__" "Ratio.__sub__" (defArgs s_Q_sub) (defBody s_Q_sub) (defScope s_Q_sub) [] [] (He.fAd K ("Ratio", some "__sub__")) (fdOf K (He.fAd K ("Ratio", some "__sub__"))) := funD_of (c.def_ 4 (d := d_Q_sub) rfl)
theorem F_Q_mul : FunD K "__mul__" "Ratio.__mul__" (defArgs s_Q_mul) (defBody s_Q_mul) (defScope s_Q_mul) [] [] (He.fAd K ("Ratio", some "__mul__")) (fdOf K (He.fAd K ("Ratio", some "__mul__"))) := funD_of (c.def_ 5 (d := d_Q_mul) rfl)
theorem F_Q_neg : FunD K "__neg__" "Ratio.__neg__" (defArgs s_Q_neg) (defBody s_Q_neg) (defScope s_Q_neg) [] [] (He.fAd K ("Ratio", some "__neg__")) (fdOf K (He.fAd K ("Ratio", some "__neg__"))) := funD_of (c.def_ 6 (d := d_Q_neg) rfl)
theorem F_Q_is_zero : FunD K "is_zero" "Ratio.is_zero" (defArgs s_Q_is_zero) (defBody s_Q_is_zero) (defScope s_Q_is_zero) [] [] (He.fAd K ("Ratio", some "is_zero")) (fdOf K (He.fAd K ("Ratio", some "is_zero"))) := funD_of (c.def_ 7 (d := d_Q_is_zero) rfl)
theorem F_Q_inverse : FunD K "inverse" "Ratio.inverse" (defArgs s_Q_inverse) (defBody s_Q_inverse) (defScope s_Q_inverse) [] [] (He.fAd K ("Ratio", some "inverse")) (fdOf K (He.fAd K ("Ratio", some "inverse"))) := funD_of (c.def_ 8 (d := d_Q_inverse) rfl)
theorem F_Q_over : FunD K "over" "Ratio.over" (defArgs s_Q_over) (defBody s_Q_over) (defScope s_Q_over) [] [] (He.fAd K ("Ratio", some "over")) (fdOf K (He.fAd K ("Ratio", some "over"))) := funD_of (c.def_ 9 (d := d_Q_over) rfl)
theorem F_is_small_prime : FunD K "is_small_prime" "is_small_prime" (defArgs s_is_small_prime) (defBody s_is_small_prime) (defScope s_is_small_prime) [] [] (He.fAd K ("is_small_prime", none)) (fdOf K (He.fAd K ("is_small_prime", none))) := funD_of (c.def_ 10 (d := d_is_small_prime) rfl)
theorem F_R_init : FunD K "__init__" "Residue.__init__" (defArgs s_R_init) (defBody s_R_init) (defScope s_R_init) [] [] (He.fAd K ("Residue", some "__init__")) (fdOf K (He.fAd K ("Residue", some "__init__"))) := funD_of (c.def_ 11 (d := d_R_init) rfl)
theorem F_R_eq : FunD K "__eq__" "Residue.__eq__" (defArgs s_R_eq) (defBody s_R_eq) (defScope s_R_eq) [] [] (He.fAd K ("Residue", some "__eq__")) (fdOf K (He.fAd K ("Residue", some "__eq__"))) := funD_of (c.def_ 12 (d := d_R_eq) rfl)
theorem F_R_add : FunD K "__add__" "Residue.__add__" (defArgs s_R_add) (defBody s_R_add) (defScope s_R_add) [] [] (He.fAd K ("Residue", some "__add__")) (fdOf K (He.fAd K ("Residue", some "__add__"))) := funD_of (c.def_ 13 (d := d_R_add) rfl)
theorem F_R_sub : FunD K "__sub__" "Residue.__sub__" (defArgs s_R_sub) (defBody s_R_sub) (defScope s_R_sub) [] [] (He.fAd K ("Residue", some "__sub__")) (fdOf K (He.fAd K ("Residue", some "__sub__"))) := funD_of (c.def_ 14 (d := d_R_sub) rfl)
theorem F_R_mul : FunD K "__mul__" "Residue.__mul__" (defArgs s_R_mul) (defBody s_R_mul) (defScope s_R_mul) [] [] (He.fAd K ("Residue", some "__mul__")) (fdOf K (He.fAd K ("Residue", some "__mul__"))) := funD_of (c.def_ 15 (d := d_R_mul) rfl)
theorem F_R_neg : FunD K "__neg__" "Residue.__neg__" (defArgs s_R_neg) (defBody s_R_neg) (defScope s_R_neg) [] [] (He.fAd K ("Residue", some "__neg__")) (fdOf K (He.fAd K ("Residue", some "__neg__"))) := funD_of (c.def_ 16 (d := d_R_neg) rfl)
theorem F_R_is_zero : FunD K "is_zero" "Residue.is_zero" (defArgs s_R_is_zero) (defBody s_R_is_zero) (defScope s_R_is_zero) [] [] (He.fAd K ("Residue", some "is_zero")) (fdOf K (He.fAd K ("Residue", some "is_zero"))) := funD_of (c.def_ 17 (d := d_R_is_zero) rfl)
theorem F_R_inverse : FunD K "inverse" "Residue.inverse" (defArgs s_R_inverse) (defBody s_R_inverse) (defScope s_R_inverse) [] [] (He.fAd K ("Residue", some "inverse")) (fdOf K (He.fAd K ("Residue", some "inverse"))) := funD_of (c.def_ 18 (d := d_R_inverse) rfl)
theorem F_R_over : FunD K "over" "Residue.over" (defArgs s_R_over) (defBody s_R_over) (defScope s_R_over) [] [] (He.fAd K ("Residue", some "over")) (fdOf K (He.fAd K ("Residue", some "over"))) := funD_of (c.def_ 19 (d := d_R_over) rfl)
theorem F_G_init : FunD K "__init__" "Ground.__init__" (defArgs s_G_init) (defBody s_G_init) (defScope s_G_init) [.int 0] [] (He.fAd K ("Ground", some "__init__")) (fdOf K (He.fAd K ("Ground", some "__init__"))) := funD_of (c.def_ 20 (d := d_G_init) rfl)
theorem F_G_number : FunD K "number" "Ground.number" (defArgs s_G_number) (defBody s_G_number) (defScope s_G_number) [.int 1] [] (He.fAd K ("Ground", some "number")) (fdOf K (He.fAd K ("Ground", some "number"))) := funD_of (c.def_ 21 (d := d_G_number) rfl)
theorem F_G_zero : FunD K "zero" "Ground.zero" (defArgs s_G_zero) (defBody s_G_zero) (defScope s_G_zero) [] [] (He.fAd K ("Ground", some "zero")) (fdOf K (He.fAd K ("Ground", some "zero"))) := funD_of (c.def_ 22 (d := d_G_zero) rfl)
theorem F_G_one : FunD K "one" "Ground.one" (defArgs s_G_one) (defBody s_G_one) (defScope s_G_one) [] [] (He.fAd K ("Ground", some "one")) (fdOf K (He.fAd K ("Ground", some "one"))) := funD_of (c.def_ 23 (d := d_G_one) rfl)
theorem F_G_is_member : FunD K "is_member" "Ground.is_member" (defArgs s_G_is_member) (defBody s_G_is_member) (defScope s_G_is_member) [] [] (He.fAd K ("Ground", some "is_member")) (fdOf K (He.fAd K ("Ground", some "is_member"))) := funD_of (c.def_ 24 (d := d_G_is_member) rfl)
theorem F_taken : FunD K "taken" "taken" (defArgs s_taken) (defBody s_taken) (defScope s_taken) [] [] (He.fAd K ("taken", none)) (fdOf K (He.fAd K ("taken", none))) := funD_of (c.def_ 25 (d := d_taken) rfl)
theorem F_taken_rows : FunD K "taken_rows" "taken_rows" (defArgs s_taken_rows) (defBody s_taken_rows) (defScope s_taken_rows) [] [] (He.fAd K ("taken_rows", none)) (fdOf K (He.fAd K ("taken_rows", none))) := funD_of (c.def_ 26 (d := d_taken_rows) rfl)
theorem F_M_init : FunD K "__init__" "Matrix.__init__" (defArgs s_M_init) (defBody s_M_init) (defScope s_M_init) [.non] [] (He.fAd K ("Matrix", some "__init__")) (fdOf K (He.fAd K ("Matrix", some "__init__"))) := funD_of (c.def_ 27 (d := d_M_init) rfl)
theorem F_M_len : FunD K "__len__" "Matrix.__len__" (defArgs s_M_len) (defBody s_M_len) (defScope s_M_len) [] [] (He.fAd K ("Matrix", some "__len__")) (fdOf K (He.fAd K ("Matrix", some "__len__"))) := funD_of (c.def_ 28 (d := d_M_len) rfl)
theorem F_unit : FunD K "unit" "unit" (defArgs s_unit) (defBody s_unit) (defScope s_unit) [] [] (He.fAd K ("unit", none)) (fdOf K (He.fAd K ("unit", none))) := funD_of (c.def_ 29 (d := d_unit) rfl)
theorem F_is_plain : FunD K "is_plain" "is_plain" (defArgs s_is_plain) (defBody s_is_plain) (defScope s_is_plain) [] [] (He.fAd K ("is_plain", none)) (fdOf K (He.fAd K ("is_plain", none))) := funD_of (c.def_ 30 (d := d_is_plain) rfl)
theorem F_is_row : FunD K "is_row" "is_row" (defArgs s_is_row) (defBody s_is_row) (defScope s_is_row) [] [] (He.fAd K ("is_row", none)) (fdOf K (He.fAd K ("is_row", none))) := funD_of (c.def_ 31 (d := d_is_row) rfl)
theorem F_is_table : FunD K "is_table" "is_table" (defArgs s_is_table) (defBody s_is_table) (defScope s_is_table) [] [] (He.fAd K ("is_table", none)) (fdOf K (He.fAd K ("is_table", none))) := funD_of (c.def_ 32 (d := d_is_table) rfl)
theorem F_times : FunD K "times" "times" (defArgs s_times) (defBody s_times) (defScope s_times) [] [] (He.fAd K ("times", none)) (fdOf K (He.fAd K ("times", none))) := funD_of (c.def_ 33 (d := d_times) rfl)
theorem F_is_unit : FunD K "is_unit" "is_unit" (defArgs s_is_unit) (defBody s_is_unit) (defScope s_is_unit) [] [] (He.fAd K ("is_unit", none)) (fdOf K (He.fAd K ("is_unit", none))) := funD_of (c.def_ 34 (d := d_is_unit) rfl)
theorem F_takes_rank : FunD K "takes_rank" "takes_rank" (defArgs s_takes_rank) (defBody s_takes_rank) (defScope s_takes_rank) [] [] (He.fAd K ("takes_rank", none)) (fdOf K (He.fAd K ("takes_rank", none))) := funD_of (c.def_ 35 (d := d_takes_rank) rfl)
theorem F_reduce_rows : FunD K "reduce_rows" "reduce_rows" (defArgs s_reduce_rows) (defBody s_reduce_rows) (defScope s_reduce_rows) [] [] (He.fAd K ("reduce_rows", none)) (fdOf K (He.fAd K ("reduce_rows", none))) := funD_of (c.def_ 36 (d := d_reduce_rows) rfl)
theorem F_less : FunD K "less" "less" (defArgs s_less) (defBody s_less) (defScope s_less) [] [] (He.fAd K ("less", none)) (fdOf K (He.fAd K ("less", none))) := funD_of (c.def_ 37 (d := d_less) rfl)
theorem F_kernel_rows : FunD K "kernel_rows" "kernel_rows" (defArgs s_kernel_rows) (defBody s_kernel_rows) (defScope s_kernel_rows) [] [] (He.fAd K ("kernel_rows", none)) (fdOf K (He.fAd K ("kernel_rows", none))) := funD_of (c.def_ 38 (d := d_kernel_rows) rfl)
theorem F_reduced : FunD K "reduced" "reduced" (defArgs s_reduced) (defBody s_reduced) (defScope s_reduced) [] [] (He.fAd K ("reduced", none)) (fdOf K (He.fAd K ("reduced", none))) := funD_of (c.def_ 39 (d := d_reduced) rfl)
theorem F_solve : FunD K "solve" "solve" (defArgs s_solve) (defBody s_solve) (defScope s_solve) [] [] (He.fAd K ("solve", none)) (fdOf K (He.fAd K ("solve", none))) := funD_of (c.def_ 40 (d := d_solve) rfl)
theorem F_unit_row : FunD K "unit_row" "unit_row" (defArgs s_unit_row) (defBody s_unit_row) (defScope s_unit_row) [] [] (He.fAd K ("unit_row", none)) (fdOf K (He.fAd K ("unit_row", none))) := funD_of (c.def_ 41 (d := d_unit_row) rfl)
theorem F_rank_paper : FunD K "rank_paper" "rank_paper" (defArgs s_rank_paper) (defBody s_rank_paper) (defScope s_rank_paper) [] [] (He.fAd K ("rank_paper", none)) (fdOf K (He.fAd K ("rank_paper", none))) := funD_of (c.def_ 42 (d := d_rank_paper) rfl)
theorem F_law_numbers : FunD K "_law_numbers" "_law_numbers" (defArgs s_law_numbers) (defBody s_law_numbers) (defScope s_law_numbers) [] [] (He.fAd K ("_law_numbers", none)) (fdOf K (He.fAd K ("_law_numbers", none))) := funD_of (c.def_ 43 (d := d_law_numbers) rfl)
theorem F_law_next : FunD K "_law_next" "_law_next" (defArgs s_law_next) (defBody s_law_next) (defScope s_law_next) [] [] (He.fAd K ("_law_next", none)) (fdOf K (He.fAd K ("_law_next", none))) := funD_of (c.def_ 44 (d := d_law_next) rfl)
theorem F_law_prime : FunD K "_law_prime" "_law_prime" (defArgs s_law_prime) (defBody s_law_prime) (defScope s_law_prime) [] [] (He.fAd K ("_law_prime", none)) (fdOf K (He.fAd K ("_law_prime", none))) := funD_of (c.def_ 45 (d := d_law_prime) rfl)
theorem F_law_ground : FunD K "_law_ground" "_law_ground" (defArgs s_law_ground) (defBody s_law_ground) (defScope s_law_ground) [] [] (He.fAd K ("_law_ground", none)) (fdOf K (He.fAd K ("_law_ground", none))) := funD_of (c.def_ 46 (d := d_law_ground) rfl)
theorem F_law_matrix : FunD K "_law_matrix" "_law_matrix" (defArgs s_law_matrix) (defBody s_law_matrix) (defScope s_law_matrix) [] [] (He.fAd K ("_law_matrix", none)) (fdOf K (He.fAd K ("_law_matrix", none))) := funD_of (c.def_ 47 (d := d_law_matrix) rfl)
theorem F_law_low : FunD K "_law_low" "_law_low" (defArgs s_law_low) (defBody s_law_low) (defScope s_law_low) [] [] (He.fAd K ("_law_low", none)) (fdOf K (He.fAd K ("_law_low", none))) := funD_of (c.def_ 48 (d := d_law_low) rfl)
theorem F_law_pairs : FunD K "_law_pairs" "_law_pairs" (defArgs s_law_pairs) (defBody s_law_pairs) (defScope s_law_pairs) [] [] (He.fAd K ("_law_pairs", none)) (fdOf K (He.fAd K ("_law_pairs", none))) := funD_of (c.def_ 49 (d := d_law_pairs) rfl)
theorem F_law_seen : FunD K "_law_seen" "_law_seen" (defArgs s_law_seen) (defBody s_law_seen) (defScope s_law_seen) [] [] (He.fAd K ("_law_seen", none)) (fdOf K (He.fAd K ("_law_seen", none))) := funD_of (c.def_ 50 (d := d_law_seen) rfl)
theorem F_law_line : FunD K "_law_line" "_law_line" (defArgs s_law_line) (defBody s_law_line) (defScope s_law_line) [] [] (He.fAd K ("_law_line", none)) (fdOf K (He.fAd K ("_law_line", none))) := funD_of (c.def_ 51 (d := d_law_line) rfl)
theorem F_law_table : FunD K "_law_table" "_law_table" (defArgs s_law_table) (defBody s_law_table) (defScope s_law_table) [] [] (He.fAd K ("_law_table", none)) (fdOf K (He.fAd K ("_law_table", none))) := funD_of (c.def_ 52 (d := d_law_table) rfl)
theorem F_law_plus : FunD K "_law_plus" "_law_plus" (defArgs s_law_plus) (defBody s_law_plus) (defScope s_law_plus) [] [] (He.fAd K ("_law_plus", none)) (fdOf K (He.fAd K ("_law_plus", none))) := funD_of (c.def_ 53 (d := d_law_plus) rfl)
theorem F_law_mul : FunD K "_law_mul" "_law_mul" (defArgs s_law_mul) (defBody s_law_mul) (defScope s_law_mul) [] [] (He.fAd K ("_law_mul", none)) (fdOf K (He.fAd K ("_law_mul", none))) := funD_of (c.def_ 54 (d := d_law_mul) rfl)
theorem F_law_both : FunD K "_law_both" "_law_both" (defArgs s_law_both) (defBody s_law_both) (defScope s_law_both) [] [] (He.fAd K ("_law_both", none)) (fdOf K (He.fAd K ("_law_both", none))) := funD_of (c.def_ 55 (d := d_law_both) rfl)
theorem F_law_ones : FunD K "_law_ones" "_law_ones" (defArgs s_law_ones) (defBody s_law_ones) (defScope s_law_ones) [] [] (He.fAd K ("_law_ones", none)) (fdOf K (He.fAd K ("_law_ones", none))) := funD_of (c.def_ 56 (d := d_law_ones) rfl)
theorem F_law_rank_holds : FunD K "_law_rank_holds" "_law_rank_holds" (defArgs s_law_rank_holds) (defBody s_law_rank_holds) (defScope s_law_rank_holds) [] [] (He.fAd K ("_law_rank_holds", none)) (fdOf K (He.fAd K ("_law_rank_holds", none))) := funD_of (c.def_ 57 (d := d_law_rank_holds) rfl)
theorem F_law_rest : FunD K "_law_rest" "_law_rest" (defArgs s_law_rest) (defBody s_law_rest) (defScope s_law_rest) [] [] (He.fAd K ("_law_rest", none)) (fdOf K (He.fAd K ("_law_rest", none))) := funD_of (c.def_ 58 (d := d_law_rest) rfl)
theorem F_law_rank : FunD K "_law_rank" "_law_rank" (defArgs s_law_rank) (defBody s_law_rank) (defScope s_law_rank) [] [] (He.fAd K ("_law_rank", none)) (fdOf K (He.fAd K ("_law_rank", none))) := funD_of (c.def_ 59 (d := d_law_rank) rfl)
theorem F_law_other : FunD K "_law_other" "_law_other" (defArgs s_law_other) (defBody s_law_other) (defScope s_law_other) [] [] (He.fAd K ("_law_other", none)) (fdOf K (He.fAd K ("_law_other", none))) := funD_of (c.def_ 60 (d := d_law_other) rfl)
theorem F_law_bend : FunD K "_law_bend" "_law_bend" (defArgs s_law_bend) (defBody s_law_bend) (defScope s_law_bend) [] [] (He.fAd K ("_law_bend", none)) (fdOf K (He.fAd K ("_law_bend", none))) := funD_of (c.def_ 61 (d := d_law_bend) rfl)
theorem F_law : FunD K "law" "law" (defArgs s_law) (defBody s_law) (defScope s_law) [] [] (He.fAd K ("law", none)) (fdOf K (He.fAd K ("law", none))) := funD_of (c.def_ 62 (d := d_law) rfl)
end
section
variable {K : PySem.W.Frag} (c : He.SaysD fa fn K)
include c
theorem B_is_integer : Binds K (fdOf K (He.fAd K ("is_integer", none))) ["value"] [] := (F_is_integer c).bindsN fun _ _ _ _ _ _ us hl => match us, hl with | [_], _ => rfl
theorem B_Q_init : Binds K (fdOf K (He.fAd K ("Ratio", some "__init__"))) ["self", "n", "d"] [] := by
  obtain ⟨ds, hv, hb⟩ := (F_Q_init c).binds1 (ps := ["self", "n", "d"]) 3 1 (by decide) rfl fun T kV doc pm an cdv ct us its hu hi => match us, its, hu, hi with | [_, _, _], [_], _, _ => ⟨_, rfl, rfl⟩
  cases hv
  exact hb
theorem B1_Q_init : ∃ ds, Vals [.int 1] ds ∧ Binds K (fdOf K (He.fAd K ("Ratio", some "__init__"))) ["self", "n", "d"] ds := (F_Q_init c).binds1 (ps := ["self", "n", "d"]) 2 0 (by decide) rfl fun T kV doc pm an cdv ct us its hu hi => match us, its, hu, hi with | [_, _], [_], _, _ => ⟨_, rfl, rfl⟩
theorem B_Q_eq : Binds K (fdOf K (He.fAd K ("Ratio", some "__eq__"))) ["self", "other"] [] := (F_Q_eq c).bindsN fun _ _ _ _ _ _ us hl => match us, hl with | [_, _], _ => rfl
theorem B_Q_add : Binds K (fdOf K (He.fAd K ("Ratio", some "__add__"))) ["self", "other"] [] := (F_Q_add c).bindsN fun _ _ _ _ _ _ us hl => match us, hl with | [_, _], _ => rfl
theorem B_Q_sub : Binds K (fdOf K (He.fAd K ("Ratio", some "__sub__"))) ["self", "other"] [] := (F_Q_sub c).bindsN fun _ _ _ _ _ _ us hl => match us, hl with | [_, _], _ => rfl
theorem B_Q_mul : Binds K (fdOf K (He.fAd K ("Ratio", some "__mul__"))) ["self", "other"] [] := (F_Q_mul c).bindsN fun _ _ _ _ _ _ us hl => match us, hl with | [_, _], _ => rfl
theorem B_Q_neg : Binds K (fdOf K (He.fAd K ("Ratio", some "__neg__"))) ["self"] [] := (F_Q_neg c).bindsN fun _ _ _ _ _ _ us hl => match us, hl with | [_], _ => rfl
theorem B_Q_is_zero : Binds K (fdOf K (He.fAd K ("Ratio", some "is_zero"))) ["self"] [] := (F_Q_is_zero c).bindsN fun _ _ _ _ _ _ us hl => match us, hl with | [_], _ => rfl
theorem B_Q_inverse : Binds K (fdOf K (He.fAd K ("Ratio", some "inverse"))) ["self"] [] := (F_Q_inverse c).bindsN fun _ _ _ _ _ _ us hl => match us, hl with | [_], _ => rfl
theorem B_Q_over : Binds K (fdOf K (He.fAd K ("Ratio", some "over"))) ["self", "other"] [] := (F_Q_over c).bindsN fun _ _ _ _ _ _ us hl => match us, hl with | [_, _], _ => rfl
theorem B_is_small_prime : Binds K (fdOf K (He.fAd K ("is_small_prime", none))) ["value"] [] := (F_is_small_prime c).bindsN fun _ _ _ _ _ _ us hl => match us, hl with | [_], _ => rfl
theorem B_R_init : Binds K (fdOf K (He.fAd K ("Residue", some "__init__"))) ["self", "p", "n"] [] := (F_R_init c).bindsN fun _ _ _ _ _ _ us hl => match us, hl with | [_, _, _], _ => rfl
theorem B_R_eq : Binds K (fdOf K (He.fAd K ("Residue", some "__eq__"))) ["self", "other"] [] := (F_R_eq c).bindsN fun _ _ _ _ _ _ us hl => match us, hl with | [_, _], _ => rfl
theorem B_R_add : Binds K (fdOf K (He.fAd K ("Residue", some "__add__"))) ["self", "other"] [] := (F_R_add c).bindsN fun _ _ _ _ _ _ us hl => match us, hl with | [_, _], _ => rfl
theorem B_R_sub : Binds K (fdOf K (He.fAd K ("Residue", some "__sub__"))) ["self", "other"] [] := (F_R_sub c).bindsN fun _ _ _ _ _ _ us hl => match us, hl with | [_, _], _ => rfl
theorem B_R_mul : Binds K (fdOf K (He.fAd K ("Residue", some "__mul__"))) ["self", "other"] [] := (F_R_mul c).bindsN fun _ _ _ _ _ _ us hl => match us, hl with | [_, _], _ => rfl
theorem B_R_neg : Binds K (fdOf K (He.fAd K ("Residue", some "__neg__"))) ["self"] [] := (F_R_neg c).bindsN fun _ _ _ _ _ _ us hl => match us, hl with | [_], _ => rfl
theorem B_R_is_zero : Binds K (fdOf K (He.fAd K ("Residue", some "is_zero"))) ["self"] [] := (F_R_is_zero c).bindsN fun _ _ _ _ _ _ us hl => match us, hl with | [_], _ => rfl
theorem B_R_inverse : Binds K (fdOf K (He.fAd K ("Residue", some "inverse"))) ["self"] [] := (F_R_inverse c).bindsN fun _ _ _ _ _ _ us hl => match us, hl with | [_], _ => rfl
theorem B_R_over : Binds K (fdOf K (He.fAd K ("Residue", some "over"))) ["self", "other"] [] := (F_R_over c).bindsN fun _ _ _ _ _ _ us hl => match us, hl with | [_, _], _ => rfl
theorem B_G_init : Binds K (fdOf K (He.fAd K ("Ground", some "__init__"))) ["self", "p"] [] := by
  obtain ⟨ds, hv, hb⟩ := (F_G_init c).binds1 (ps := ["self", "p"]) 2 1 (by decide) rfl fun T kV doc pm an cdv ct us its hu hi => match us, its, hu, hi with | [_, _], [_], _, _ => ⟨_, rfl, rfl⟩
  cases hv
  exact hb
theorem B1_G_init : ∃ ds, Vals [.int 0] ds ∧ Binds K (fdOf K (He.fAd K ("Ground", some "__init__"))) ["self", "p"] ds := (F_G_init c).binds1 (ps := ["self", "p"]) 1 0 (by decide) rfl fun T kV doc pm an cdv ct us its hu hi => match us, its, hu, hi with | [_], [_], _, _ => ⟨_, rfl, rfl⟩
theorem B_G_number : Binds K (fdOf K (He.fAd K ("Ground", some "number"))) ["self", "n", "d"] [] := by
  obtain ⟨ds, hv, hb⟩ := (F_G_number c).binds1 (ps := ["self", "n", "d"]) 3 1 (by decide) rfl fun T kV doc pm an cdv ct us its hu hi => match us, its, hu, hi with | [_, _, _], [_], _, _ => ⟨_, rfl, rfl⟩
  cases hv
  exact hb
theorem B1_G_number : ∃ ds, Vals [.int 1] ds ∧ Binds K (fdOf K (He.fAd K ("Ground", some "number"))) ["self", "n", "d"] ds := (F_G_number c).binds1 (ps := ["self", "n", "d"]) 2 0 (by decide) rfl fun T kV doc pm an cdv ct us its hu hi => match us, its, hu, hi with | [_, _], [_], _, _ => ⟨_, rfl, rfl⟩
theorem B_G_zero : Binds K (fdOf K (He.fAd K ("Ground", some "zero"))) ["self"] [] := (F_G_zero c).bindsN fun _ _ _ _ _ _ us hl => match us, hl with | [_], _ => rfl
theorem B_G_one : Binds K (fdOf K (He.fAd K ("Ground", some "one"))) ["self"] [] := (F_G_one c).bindsN fun _ _ _ _ _ _ us hl => match us, hl with | [_], _ => rfl
theorem B_G_is_member : Binds K (fdOf K (He.fAd K ("Ground", some "is_member"))) ["self", "value"] [] := (F_G_is_member c).bindsN fun _ _ _ _ _ _ us hl => match us, hl with | [_, _], _ => rfl
theorem B_taken : Binds K (fdOf K (He.fAd K ("taken", none))) ["ground", "item"] [] := (F_taken c).bindsN fun _ _ _ _ _ _ us hl => match us, hl with | [_, _], _ => rfl
theorem B_taken_rows : Binds K (fdOf K (He.fAd K ("taken_rows", none))) ["ground", "rows"] [] := (F_taken_rows c).bindsN fun _ _ _ _ _ _ us hl => match us, hl with | [_, _], _ => rfl
theorem B_M_init : Binds K (fdOf K (He.fAd K ("Matrix", some "__init__"))) ["self", "ground", "rows", "width"] [] := by
  obtain ⟨ds, hv, hb⟩ := (F_M_init c).binds1 (ps := ["self", "ground", "rows", "width"]) 4 1 (by decide) rfl fun T kV doc pm an cdv ct us its hu hi => match us, its, hu, hi with | [_, _, _, _], [_], _, _ => ⟨_, rfl, rfl⟩
  cases hv
  exact hb
theorem B1_M_init : ∃ ds, Vals [.non] ds ∧ Binds K (fdOf K (He.fAd K ("Matrix", some "__init__"))) ["self", "ground", "rows", "width"] ds := (F_M_init c).binds1 (ps := ["self", "ground", "rows", "width"]) 3 0 (by decide) rfl fun T kV doc pm an cdv ct us its hu hi => match us, its, hu, hi with | [_, _, _], [_], _, _ => ⟨_, rfl, rfl⟩
theorem B_M_len : Binds K (fdOf K (He.fAd K ("Matrix", some "__len__"))) ["self"] [] := (F_M_len c).bindsN fun _ _ _ _ _ _ us hl => match us, hl with | [_], _ => rfl
theorem B_unit : Binds K (fdOf K (He.fAd K ("unit", none))) ["ground", "n"] [] := (F_unit c).bindsN fun _ _ _ _ _ _ us hl => match us, hl with | [_, _], _ => rfl
theorem B_is_plain : Binds K (fdOf K (He.fAd K ("is_plain", none))) ["value"] [] := (F_is_plain c).bindsN fun _ _ _ _ _ _ us hl => match us, hl with | [_], _ => rfl
theorem B_is_row : Binds K (fdOf K (He.fAd K ("is_row", none))) ["ground", "value", "n"] [] := (F_is_row c).bindsN fun _ _ _ _ _ _ us hl => match us, hl with | [_, _, _], _ => rfl
theorem B_is_table : Binds K (fdOf K (He.fAd K ("is_table", none))) ["ground", "value", "height", "width"] [] := (F_is_table c).bindsN fun _ _ _ _ _ _ us hl => match us, hl with | [_, _, _, _], _ => rfl
theorem B_times : Binds K (fdOf K (He.fAd K ("times", none))) ["ground", "one", "two", "width"] [] := (F_times c).bindsN fun _ _ _ _ _ _ us hl => match us, hl with | [_, _, _, _], _ => rfl
theorem B_is_unit : Binds K (fdOf K (He.fAd K ("is_unit", none))) ["ground", "table"] [] := (F_is_unit c).bindsN fun _ _ _ _ _ _ us hl => match us, hl with | [_, _], _ => rfl
theorem B_takes_rank : Binds K (fdOf K (He.fAd K ("takes_rank", none))) ["m", "paper"] [] := (F_takes_rank c).bindsN fun _ _ _ _ _ _ us hl => match us, hl with | [_, _], _ => rfl
theorem B_reduce_rows : Binds K (fdOf K (He.fAd K ("reduce_rows", none))) ["rows", "width"] [] := (F_reduce_rows c).bindsN fun _ _ _ _ _ _ us hl => match us, hl with | [_, _], _ => rfl
theorem B_less : Binds K (fdOf K (He.fAd K ("less", none))) ["row", "own", "column"] [] := (F_less c).bindsN fun _ _ _ _ _ _ us hl => match us, hl with | [_, _, _], _ => rfl
theorem B_kernel_rows : Binds K (fdOf K (He.fAd K ("kernel_rows", none))) ["ground", "rows", "width"] [] := (F_kernel_rows c).bindsN fun _ _ _ _ _ _ us hl => match us, hl with | [_, _, _], _ => rfl
theorem B_reduced : Binds K (fdOf K (He.fAd K ("reduced", none))) ["m"] [] := (F_reduced c).bindsN fun _ _ _ _ _ _ us hl => match us, hl with | [_], _ => rfl
theorem B_solve : Binds K (fdOf K (He.fAd K ("solve", none))) ["m", "w"] [] := (F_solve c).bindsN fun _ _ _ _ _ _ us hl => match us, hl with | [_, _], _ => rfl
theorem B_unit_row : Binds K (fdOf K (He.fAd K ("unit_row", none))) ["ground", "n", "k"] [] := (F_unit_row c).bindsN fun _ _ _ _ _ _ us hl => match us, hl with | [_, _, _], _ => rfl
theorem B_rank_paper : Binds K (fdOf K (He.fAd K ("rank_paper", none))) ["m"] [] := (F_rank_paper c).bindsN fun _ _ _ _ _ _ us hl => match us, hl with | [_], _ => rfl
theorem B_law_numbers : Binds K (fdOf K (He.fAd K ("_law_numbers", none))) ["_law_script"] [] := (F_law_numbers c).bindsN fun _ _ _ _ _ _ us hl => match us, hl with | [_], _ => rfl
theorem B_law_next : Binds K (fdOf K (He.fAd K ("_law_next", none))) ["_law_numbers_here", "_law_many"] [] := (F_law_next c).bindsN fun _ _ _ _ _ _ us hl => match us, hl with | [_, _], _ => rfl
theorem B_law_prime : Binds K (fdOf K (He.fAd K ("_law_prime", none))) ["_law_numbers_here"] [] := (F_law_prime c).bindsN fun _ _ _ _ _ _ us hl => match us, hl with | [_], _ => rfl
theorem B_law_ground : Binds K (fdOf K (He.fAd K ("_law_ground", none))) ["_law_p"] [] := (F_law_ground c).bindsN fun _ _ _ _ _ _ us hl => match us, hl with | [_], _ => rfl
theorem B_law_matrix : Binds K (fdOf K (He.fAd K ("_law_matrix", none))) ["_law_numbers_here", "_law_n", "_law_m"] [] := (F_law_matrix c).bindsN fun _ _ _ _ _ _ us hl => match us, hl with | [_, _, _], _ => rfl
theorem B_law_low : Binds K (fdOf K (He.fAd K ("_law_low", none))) ["_law_p", "_law_n", "_law_d"] [] := (F_law_low c).bindsN fun _ _ _ _ _ _ us hl => match us, hl with | [_, _, _], _ => rfl
theorem B_law_pairs : Binds K (fdOf K (He.fAd K ("_law_pairs", none))) ["_law_p", "_law_rows"] [] := (F_law_pairs c).bindsN fun _ _ _ _ _ _ us hl => match us, hl with | [_, _], _ => rfl
theorem B_law_seen : Binds K (fdOf K (He.fAd K ("_law_seen", none))) ["_law_p", "_law_ground_here", "_law_x"] [] := (F_law_seen c).bindsN fun _ _ _ _ _ _ us hl => match us, hl with | [_, _, _], _ => rfl
theorem B_law_line : Binds K (fdOf K (He.fAd K ("_law_line", none))) ["_law_p", "_law_ground_here", "_law_value", "_law_width"] [] := (F_law_line c).bindsN fun _ _ _ _ _ _ us hl => match us, hl with | [_, _, _, _], _ => rfl
theorem B_law_table : Binds K (fdOf K (He.fAd K ("_law_table", none))) ["_law_p", "_law_ground_here", "_law_value", "_law_height", "_law_width"] [] := (F_law_table c).bindsN fun _ _ _ _ _ _ us hl => match us, hl with | [_, _, _, _, _], _ => rfl
theorem B_law_plus : Binds K (fdOf K (He.fAd K ("_law_plus", none))) ["_law_p", "_law_a", "_law_b"] [] := (F_law_plus c).bindsN fun _ _ _ _ _ _ us hl => match us, hl with | [_, _, _], _ => rfl
theorem B_law_mul : Binds K (fdOf K (He.fAd K ("_law_mul", none))) ["_law_p", "_law_a", "_law_b"] [] := (F_law_mul c).bindsN fun _ _ _ _ _ _ us hl => match us, hl with | [_, _, _], _ => rfl
theorem B_law_both : Binds K (fdOf K (He.fAd K ("_law_both", none))) ["_law_p", "_law_one", "_law_two", "_law_width"] [] := (F_law_both c).bindsN fun _ _ _ _ _ _ us hl => match us, hl with | [_, _, _, _], _ => rfl
theorem B_law_ones : Binds K (fdOf K (He.fAd K ("_law_ones", none))) ["_law_n"] [] := (F_law_ones c).bindsN fun _ _ _ _ _ _ us hl => match us, hl with | [_], _ => rfl
theorem B_law_rank_holds : Binds K (fdOf K (He.fAd K ("_law_rank_holds", none))) ["_law_p", "_law_ground_here", "_law_own", "_law_width", "_law_paper"] [] := (F_law_rank_holds c).bindsN fun _ _ _ _ _ _ us hl => match us, hl with | [_, _, _, _, _], _ => rfl
theorem B_law_rest : Binds K (fdOf K (He.fAd K ("_law_rest", none))) ["_law_p", "_law_x"] [] := (F_law_rest c).bindsN fun _ _ _ _ _ _ us hl => match us, hl with | [_, _], _ => rfl
theorem B_law_rank : Binds K (fdOf K (He.fAd K ("_law_rank", none))) ["_law_p", "_law_rows", "_law_width"] [] := (F_law_rank c).bindsN fun _ _ _ _ _ _ us hl => match us, hl with | [_, _, _], _ => rfl
theorem B_law_other : Binds K (fdOf K (He.fAd K ("_law_other", none))) ["_law_numbers_here", "_law_ground_here", "_law_data"] [] := (F_law_other c).bindsN fun _ _ _ _ _ _ us hl => match us, hl with | [_, _, _], _ => rfl
theorem B_law_bend : Binds K (fdOf K (He.fAd K ("_law_bend", none))) ["_law_numbers_here", "_law_ground_here", "_law_data", "_law_room"] [] := (F_law_bend c).bindsN fun _ _ _ _ _ _ us hl => match us, hl with | [_, _, _, _], _ => rfl
theorem B_law : Binds K (fdOf K (He.fAd K ("law", none))) ["_law_script"] [] := (F_law c).bindsN fun _ _ _ _ _ _ us hl => match us, hl with | [_], _ => rfl
end
def loose1 : List Str := ["_wall", "Fault", "ZeroDivisor", "Malformed", "Refused", "NoText", "PIECE", "written_integer", "is_integer", "Ratio", "PRIMES", "is_small_prime", "Residue", "DIGITS", "whole_number", "read_ratio", "Ground", "taken", "MOST_ROWS", "MOST_WIDTH", "taken_rows", "row_times", "Matrix", "check_alike", "check_square", "unit", "nothing", "is_plain", "is_row"]
def loose2 : List Str := ["is_table", "times", "is_unit", "takes_rank", "reduce_rows", "less", "kernel_rows", "reduced", "solve", "unit_row", "rank_paper", "_law_numbers", "_law_next", "_law_prime", "_law_ground", "_law_matrix", "_law_low", "_law_pairs", "_law_seen", "_law_line", "_law_table", "_law_plus", "_law_mul", "_law_both", "_law_ones", "_law_rank_holds", "_law_rest", "_law_rank", "_law_other", "_law_bend"]
def loose : List Str := loose1 ++ loose2
def ex : List (PySem.W.Frag → Bool) := [
  fun K => (match PySem.W.nsIn K mainGlobals "gcd" with | some (some (.builtin id)) => decide (id = "math.gcd") | _ => false),
  fun K => He.tupB K "PRIMES" [.int 2, .int 3, .int 5, .int 7, .int 11, .int 13, .int 17, .int 19, .int 23, .int 29, .int 31],
  fun K => decide (PySem.W.specialIn K (.builtin "object.__class__") "__get__" = some (some (.builtin "getset_descriptor.__get__"))),
  fun K => decide (PySem.W.takesIn K (.builtin "object.__class__") = some true),
  fun K => He.eqO (PySem.W.findIn K (.ref (He.ga K "Ratio")) "__class__") (some (some (.builtin "object.__class__"))),
  fun K => decide (PySem.W.mroIn K (He.ga K "Ratio") (.type "object") = some true),
  fun K => PySem.W.selfFirst K (He.ga K "Ratio"),
  fun K => He.eqO (PySem.W.findIn K (.ref (He.ga K "Residue")) "__class__") (some (some (.builtin "object.__class__"))),
  fun K => decide (PySem.W.mroIn K (He.ga K "Residue") (.type "object") = some true),
  fun K => PySem.W.selfFirst K (He.ga K "Residue"),
  fun K => He.eqO (PySem.W.findIn K (.ref (He.ga K "Ground")) "__class__") (some (some (.builtin "object.__class__"))),
  fun K => decide (PySem.W.mroIn K (He.ga K "Ground") (.type "object") = some true),
  fun K => PySem.W.selfFirst K (He.ga K "Ground"),
  fun K => He.eqO (PySem.W.findIn K (.ref (He.ga K "Matrix")) "__class__") (some (some (.builtin "object.__class__"))),
  fun K => decide (PySem.W.mroIn K (He.ga K "Matrix") (.type "object") = some true),
  fun K => PySem.W.selfFirst K (He.ga K "Matrix"),
  fun K => decide (PySem.W.kitOne K (.ref (He.ga K "Ratio")) (.ref (He.ga K "Ratio")) = some true),
  fun K => decide (PySem.W.kitOne K (.ref (He.ga K "Ratio")) (.ref (He.ga K "Residue")) = some false),
  fun K => decide (PySem.W.kitOne K (.ref (He.ga K "Ratio")) (.type "int") = some false),
  fun K => decide (PySem.W.kitOne K (.ref (He.ga K "Ratio")) (.type "bool") = some false),
  fun K => decide (PySem.W.kitOne K (.ref (He.ga K "Ratio")) (.type "tuple") = some false),
  fun K => decide (PySem.W.kitOne K (.ref (He.ga K "Ratio")) (.type "list") = some false),
  fun K => decide (PySem.W.kitOne K (.ref (He.ga K "Ratio")) (.type "str") = some false),
  fun K => decide (PySem.W.kitOne K (.ref (He.ga K "Residue")) (.ref (He.ga K "Ratio")) = some false),
  fun K => decide (PySem.W.kitOne K (.ref (He.ga K "Residue")) (.ref (He.ga K "Residue")) = some true),
  fun K => decide (PySem.W.kitOne K (.ref (He.ga K "Residue")) (.type "int") = some false),
  fun K => decide (PySem.W.kitOne K (.ref (He.ga K "Residue")) (.type "bool") = some false),
  fun K => decide (PySem.W.kitOne K (.ref (He.ga K "Residue")) (.type "tuple") = some false),
  fun K => decide (PySem.W.kitOne K (.ref (He.ga K "Residue")) (.type "list") = some false),
  fun K => decide (PySem.W.kitOne K (.ref (He.ga K "Residue")) (.type "str") = some false),
  fun K => decide (PySem.W.kitOne K (.ref (He.ga K "Ground")) (.ref (He.ga K "Ratio")) = some false),
  fun K => decide (PySem.W.kitOne K (.ref (He.ga K "Ground")) (.ref (He.ga K "Residue")) = some false),
  fun K => decide (PySem.W.kitOne K (.ref (He.ga K "Ground")) (.type "int") = some false),
  fun K => decide (PySem.W.kitOne K (.ref (He.ga K "Ground")) (.type "bool") = some false),
  fun K => decide (PySem.W.kitOne K (.ref (He.ga K "Ground")) (.type "tuple") = some false),
  fun K => decide (PySem.W.kitOne K (.ref (He.ga K "Ground")) (.type "list") = some false),
  fun K => decide (PySem.W.kitOne K (.ref (He.ga K "Ground")) (.type "str") = some false),
  fun K => decide (PySem.W.kitOne K (.ref (He.ga K "Matrix")) (.ref (He.ga K "Ratio")) = some false),
  fun K => decide (PySem.W.kitOne K (.ref (He.ga K "Matrix")) (.ref (He.ga K "Residue")) = some false),
  fun K => decide (PySem.W.kitOne K (.ref (He.ga K "Matrix")) (.type "int") = some false),
  fun K => decide (PySem.W.kitOne K (.ref (He.ga K "Matrix")) (.type "bool") = some false),
  fun K => decide (PySem.W.kitOne K (.ref (He.ga K "Matrix")) (.type "tuple") = some false),
  fun K => decide (PySem.W.kitOne K (.ref (He.ga K "Matrix")) (.type "list") = some false),
  fun K => decide (PySem.W.kitOne K (.ref (He.ga K "Matrix")) (.type "str") = some false),
  fun K => decide (PySem.W.kitOne K (.type "NoneType") (.ref (He.ga K "Ratio")) = some false),
  fun K => decide (PySem.W.kitOne K (.type "NoneType") (.ref (He.ga K "Residue")) = some false),
  fun K => decide (PySem.W.kitOne K (.type "int") (.ref (He.ga K "Ratio")) = some false),
  fun K => decide (PySem.W.kitOne K (.type "int") (.ref (He.ga K "Residue")) = some false),
  fun K => decide (PySem.W.kitOne K (.type "bool") (.ref (He.ga K "Ratio")) = some false),
  fun K => decide (PySem.W.kitOne K (.type "bool") (.ref (He.ga K "Residue")) = some false),
  fun K => decide (PySem.W.kitOne K (.type "str") (.ref (He.ga K "Ratio")) = some false),
  fun K => decide (PySem.W.kitOne K (.type "str") (.ref (He.ga K "Residue")) = some false),
  fun K => decide (PySem.W.kitOne K (.type "tuple") (.ref (He.ga K "Ratio")) = some false),
  fun K => decide (PySem.W.kitOne K (.type "tuple") (.ref (He.ga K "Residue")) = some false),
  fun K => decide (PySem.W.kitOne K (.type "list") (.ref (He.ga K "Ratio")) = some false),
  fun K => decide (PySem.W.kitOne K (.type "list") (.ref (He.ga K "Residue")) = some false),
  fun K => He.eqO (PySem.W.findIn K (.ref (He.ga K "Ratio")) "__ne__") (some (some (.builtin "object.__ne__"))),
  fun K => PySem.W.notFirst K (He.ga K "Ratio") (.type "str"),
  fun K => decide (PySem.W.subIn K (.ref (He.ga K "Ratio")) (.type "object") = some true),
  fun K => He.eqO (PySem.W.findIn K (.ref (He.ga K "Residue")) "__ne__") (some (some (.builtin "object.__ne__"))),
  fun K => PySem.W.notFirst K (He.ga K "Residue") (.type "str"),
  fun K => decide (PySem.W.subIn K (.ref (He.ga K "Residue")) (.type "object") = some true)]
section
variable {K : PySem.W.Frag} (c : (ex.all fun f => f K) = true)
include c
theorem x_at (i : Nat) {f : PySem.W.Frag → Bool} (h : ex[i]? = some f) : f K = true := List.all_eq_true.mp c f (List.mem_of_getElem? h)
theorem x_gcd : ((match PySem.W.nsIn K mainGlobals "gcd" with | some (some (.builtin id)) => decide (id = "math.gcd") | _ => false)) = true := x_at c 0 rfl
theorem x_primes : (He.tupB K "PRIMES" [.int 2, .int 3, .int 5, .int 7, .int 11, .int 13, .int 17, .int 19, .int 23, .int 29, .int 31]) = true := x_at c 1 rfl
theorem x_spc : (decide (PySem.W.specialIn K (.builtin "object.__class__") "__get__" = some (some (.builtin "getset_descriptor.__get__")))) = true := x_at c 2 rfl
theorem x_tks : (decide (PySem.W.takesIn K (.builtin "object.__class__") = some true)) = true := x_at c 3 rfl
theorem x_clsat_Ratio : (He.eqO (PySem.W.findIn K (.ref (He.ga K "Ratio")) "__class__") (some (some (.builtin "object.__class__")))) = true := x_at c 4 rfl
theorem x_mro_Ratio : (decide (PySem.W.mroIn K (He.ga K "Ratio") (.type "object") = some true)) = true := x_at c 5 rfl
theorem x_first_Ratio : (PySem.W.selfFirst K (He.ga K "Ratio")) = true := x_at c 6 rfl
theorem x_clsat_Residue : (He.eqO (PySem.W.findIn K (.ref (He.ga K "Residue")) "__class__") (some (some (.builtin "object.__class__")))) = true := x_at c 7 rfl
theorem x_mro_Residue : (decide (PySem.W.mroIn K (He.ga K "Residue") (.type "object") = some true)) = true := x_at c 8 rfl
theorem x_first_Residue : (PySem.W.selfFirst K (He.ga K "Residue")) = true := x_at c 9 rfl
theorem x_clsat_Ground : (He.eqO (PySem.W.findIn K (.ref (He.ga K "Ground")) "__class__") (some (some (.builtin "object.__class__")))) = true := x_at c 10 rfl
theorem x_mro_Ground : (decide (PySem.W.mroIn K (He.ga K "Ground") (.type "object") = some true)) = true := x_at c 11 rfl
theorem x_first_Ground : (PySem.W.selfFirst K (He.ga K "Ground")) = true := x_at c 12 rfl
theorem x_clsat_Matrix : (He.eqO (PySem.W.findIn K (.ref (He.ga K "Matrix")) "__class__") (some (some (.builtin "object.__class__")))) = true := x_at c 13 rfl
theorem x_mro_Matrix : (decide (PySem.W.mroIn K (He.ga K "Matrix") (.type "object") = some true)) = true := x_at c 14 rfl
theorem x_first_Matrix : (PySem.W.selfFirst K (He.ga K "Matrix")) = true := x_at c 15 rfl
theorem x_is_Ratio_Ratio : (decide (PySem.W.kitOne K (.ref (He.ga K "Ratio")) (.ref (He.ga K "Ratio")) = some true)) = true := x_at c 16 rfl
theorem x_is_Ratio_Residue : (decide (PySem.W.kitOne K (.ref (He.ga K "Ratio")) (.ref (He.ga K "Residue")) = some false)) = true := x_at c 17 rfl
theorem x_is_Ratio_int : (decide (PySem.W.kitOne K (.ref (He.ga K "Ratio")) (.type "int") = some false)) = true := x_at c 18 rfl
theorem x_is_Ratio_bool : (decide (PySem.W.kitOne K (.ref (He.ga K "Ratio")) (.type "bool") = some false)) = true := x_at c 19 rfl
theorem x_is_Ratio_tuple : (decide (PySem.W.kitOne K (.ref (He.ga K "Ratio")) (.type "tuple") = some false)) = true := x_at c 20 rfl
theorem x_is_Ratio_list : (decide (PySem.W.kitOne K (.ref (He.ga K "Ratio")) (.type "list") = some false)) = true := x_at c 21 rfl
theorem x_is_Ratio_str : (decide (PySem.W.kitOne K (.ref (He.ga K "Ratio")) (.type "str") = some false)) = true := x_at c 22 rfl
theorem x_is_Residue_Ratio : (decide (PySem.W.kitOne K (.ref (He.ga K "Residue")) (.ref (He.ga K "Ratio")) = some false)) = true := x_at c 23 rfl
theorem x_is_Residue_Residue : (decide (PySem.W.kitOne K (.ref (He.ga K "Residue")) (.ref (He.ga K "Residue")) = some true)) = true := x_at c 24 rfl
theorem x_is_Residue_int : (decide (PySem.W.kitOne K (.ref (He.ga K "Residue")) (.type "int") = some false)) = true := x_at c 25 rfl
theorem x_is_Residue_bool : (decide (PySem.W.kitOne K (.ref (He.ga K "Residue")) (.type "bool") = some false)) = true := x_at c 26 rfl
theorem x_is_Residue_tuple : (decide (PySem.W.kitOne K (.ref (He.ga K "Residue")) (.type "tuple") = some false)) = true := x_at c 27 rfl
theorem x_is_Residue_list : (decide (PySem.W.kitOne K (.ref (He.ga K "Residue")) (.type "list") = some false)) = true := x_at c 28 rfl
theorem x_is_Residue_str : (decide (PySem.W.kitOne K (.ref (He.ga K "Residue")) (.type "str") = some false)) = true := x_at c 29 rfl
theorem x_is_Ground_Ratio : (decide (PySem.W.kitOne K (.ref (He.ga K "Ground")) (.ref (He.ga K "Ratio")) = some false)) = true := x_at c 30 rfl
theorem x_is_Ground_Residue : (decide (PySem.W.kitOne K (.ref (He.ga K "Ground")) (.ref (He.ga K "Residue")) = some false)) = true := x_at c 31 rfl
theorem x_is_Ground_int : (decide (PySem.W.kitOne K (.ref (He.ga K "Ground")) (.type "int") = some false)) = true := x_at c 32 rfl
theorem x_is_Ground_bool : (decide (PySem.W.kitOne K (.ref (He.ga K "Ground")) (.type "bool") = some false)) = true := x_at c 33 rfl
theorem x_is_Ground_tuple : (decide (PySem.W.kitOne K (.ref (He.ga K "Ground")) (.type "tuple") = some false)) = true := x_at c 34 rfl
theorem x_is_Ground_list : (decide (PySem.W.kitOne K (.ref (He.ga K "Ground")) (.type "list") = some false)) = true := x_at c 35 rfl
theorem x_is_Ground_str : (decide (PySem.W.kitOne K (.ref (He.ga K "Ground")) (.type "str") = some false)) = true := x_at c 36 rfl
theorem x_is_Matrix_Ratio : (decide (PySem.W.kitOne K (.ref (He.ga K "Matrix")) (.ref (He.ga K "Ratio")) = some false)) = true := x_at c 37 rfl
theorem x_is_Matrix_Residue : (decide (PySem.W.kitOne K (.ref (He.ga K "Matrix")) (.ref (He.ga K "Residue")) = some false)) = true := x_at c 38 rfl
theorem x_is_Matrix_int : (decide (PySem.W.kitOne K (.ref (He.ga K "Matrix")) (.type "int") = some false)) = true := x_at c 39 rfl
theorem x_is_Matrix_bool : (decide (PySem.W.kitOne K (.ref (He.ga K "Matrix")) (.type "bool") = some false)) = true := x_at c 40 rfl
theorem x_is_Matrix_tuple : (decide (PySem.W.kitOne K (.ref (He.ga K "Matrix")) (.type "tuple") = some false)) = true := x_at c 41 rfl
theorem x_is_Matrix_list : (decide (PySem.W.kitOne K (.ref (He.ga K "Matrix")) (.type "list") = some false)) = true := x_at c 42 rfl
theorem x_is_Matrix_str : (decide (PySem.W.kitOne K (.ref (He.ga K "Matrix")) (.type "str") = some false)) = true := x_at c 43 rfl
theorem x_is_NoneType_Ratio : (decide (PySem.W.kitOne K (.type "NoneType") (.ref (He.ga K "Ratio")) = some false)) = true := x_at c 44 rfl
theorem x_is_NoneType_Residue : (decide (PySem.W.kitOne K (.type "NoneType") (.ref (He.ga K "Residue")) = some false)) = true := x_at c 45 rfl
theorem x_is_int_Ratio : (decide (PySem.W.kitOne K (.type "int") (.ref (He.ga K "Ratio")) = some false)) = true := x_at c 46 rfl
theorem x_is_int_Residue : (decide (PySem.W.kitOne K (.type "int") (.ref (He.ga K "Residue")) = some false)) = true := x_at c 47 rfl
theorem x_is_bool_Ratio : (decide (PySem.W.kitOne K (.type "bool") (.ref (He.ga K "Ratio")) = some false)) = true := x_at c 48 rfl
theorem x_is_bool_Residue : (decide (PySem.W.kitOne K (.type "bool") (.ref (He.ga K "Residue")) = some false)) = true := x_at c 49 rfl
theorem x_is_str_Ratio : (decide (PySem.W.kitOne K (.type "str") (.ref (He.ga K "Ratio")) = some false)) = true := x_at c 50 rfl
theorem x_is_str_Residue : (decide (PySem.W.kitOne K (.type "str") (.ref (He.ga K "Residue")) = some false)) = true := x_at c 51 rfl
theorem x_is_tuple_Ratio : (decide (PySem.W.kitOne K (.type "tuple") (.ref (He.ga K "Ratio")) = some false)) = true := x_at c 52 rfl
theorem x_is_tuple_Residue : (decide (PySem.W.kitOne K (.type "tuple") (.ref (He.ga K "Residue")) = some false)) = true := x_at c 53 rfl
theorem x_is_list_Ratio : (decide (PySem.W.kitOne K (.type "list") (.ref (He.ga K "Ratio")) = some false)) = true := x_at c 54 rfl
theorem x_is_list_Residue : (decide (PySem.W.kitOne K (.type "list") (.ref (He.ga K "Residue")) = some false)) = true := x_at c 55 rfl
theorem x_ne_Ratio : (He.eqO (PySem.W.findIn K (.ref (He.ga K "Ratio")) "__ne__") (some (some (.builtin "object.__ne__")))) = true := x_at c 56 rfl
theorem x_nf_Ratio : (PySem.W.notFirst K (He.ga K "Ratio") (.type "str")) = true := x_at c 57 rfl
theorem x_sub_Ratio : (decide (PySem.W.subIn K (.ref (He.ga K "Ratio")) (.type "object") = some true)) = true := x_at c 58 rfl
theorem x_ne_Residue : (He.eqO (PySem.W.findIn K (.ref (He.ga K "Residue")) "__ne__") (some (some (.builtin "object.__ne__")))) = true := x_at c 59 rfl
theorem x_nf_Residue : (PySem.W.notFirst K (He.ga K "Residue") (.type "str")) = true := x_at c 60 rfl
theorem x_sub_Residue : (decide (PySem.W.subIn K (.ref (He.ga K "Residue")) (.type "object") = some true)) = true := x_at c 61 rfl
end
/-! ### the head's hook -/
def objRefs (g : Addr → Option Obj) (a : Addr) : List Addr := match g a with
  | some ⟨_, _, .func fd, _⟩ => He.refV fd.code ++ He.refV fd.defaults
  | _ => []
def nsRefs (g : Addr → Option Obj) (a : Addr) : List Addr := match g a with
  | some ⟨_, _, .dict es _, _⟩ => es.toList.flatMap fun e => He.refV e.val
  | _ => []
def clsNs (g : Addr → Option Obj) (a : Addr) : List Addr := match g a with
  | some ⟨_, _, .cls cd, _⟩ => [cd.ns]
  | _ => []
/-- what the module's names reach: classes, their namespaces and methods, codes, defaults -/
def asZ (g : Addr → Option Obj) : List Addr :=
  let l2 := nsRefs g mainGlobals
  let l3 := l2.flatMap (clsNs g)
  let l4 := l3.flatMap (nsRefs g)
  mainGlobals :: (l3 ++ (l2 ++ (l4 ++ (l2.flatMap (objRefs g) ++ l4.flatMap (objRefs g)))))
def hookZ (fa : List He.Fa) (fn : List He.DefD) (ex : List (PySem.W.Frag → Bool)) : PySem.W.Hook where
  α := He.AlD × Bool
  obs := fun s => (He.obsD fa fn (He.frG s.heap.get? (asZ s.heap.get?)), ex.all fun f => f (He.frG s.heap.get? (asZ s.heap.get?)))
  val := fun _ => (He.valD fn, true)
  says := fun _ h => ∃ K : PySem.W.Frag, K.In h ∧ He.SaysD fa fn K ∧ (ex.all fun f => f K) = true
  of := fun _ _ e => ⟨_, He.frG_in, congrArg (fun z : He.AlD × Bool => z.1) e, congrArg (fun z : He.AlD × Bool => z.2) e⟩
  keeps := fun _ _ _ ⟨K, hK, c⟩ k => ⟨K, PySem.W.Frag.In.keeps hK k, c⟩
def kT (s : PySem.W.SharedT) : PySem.W.Frag := He.frG (HandSHeadRun.getT s) (asZ (HandSHeadRun.getT s))
end K51

set_option Elab.async false
set_option linter.all false
set_option maxRecDepth 100000
set_option maxHeartbeats 4000000
namespace K51
open PySem PySem.Spec PyProof.Rows L2

/-! ### what the text's facts give -/
structure Tx (K : PySem.W.Frag) (mg : Str → Option Value) : Prop where
  c : He.SaysD fa fn K
  x : (ex.all fun f => f K) = true
  h : ∃ h : Heap, K.In h ∧ h.Ns mainGlobals mg
section
variable {K : PySem.W.Frag} {mg : Str → Option Value}
theorem Tx.glo (T : Tx K mg) {x : Str} (h : (He.Fa.glo x).ok K = true) : mg x = some (.ref (He.ga K x)) := let ⟨_, X, G⟩ := T.h; He.glo_ok X G h
theorem Tx.free (T : Tx K mg) {x : Str} (h : (He.Fa.free x).ok K = true) : mg x = none := let ⟨_, X, G⟩ := T.h; He.free_ok X G h
theorem Tx.gcd (T : Tx K mg) : mg "gcd" = some (.builtin "math.gcd") := by
  obtain ⟨_, X, G⟩ := T.h
  have c := x_gcd T.x
  cases e : PySem.W.nsIn K mainGlobals "gcd" with
  | none =>
    rw [e] at c
    cases c
  | some o =>
    rw [e] at c
    cases o with
    | none => cases c
    | some v =>
      cases v with
      | builtin id =>
        have ej : id = "math.gcd" := of_decide_eq_true c
        rw [ej] at e
        exact PySem.W.mg_of X G e
      | _ => cases c
end
/-- THE RULE for a def of the text that lets nothing out -/
theorem fok {P : Program} {w : World} {K : PySem.W.Frag} {mg : Str → Option Value} {base : Heap} {x qual : Str} {params : Arguments} {body : List Stmt} {scope : Scope} {dvs : List V} {kws : List (Str × V)} {f : Addr} {fd : FuncData}
    {N ps : List Str} {k : Nat} {sp : L2.Sp} (F : FunD K x qual params body scope dvs kws f fd) (S : FnScope N ps scope) (len : ∀ vs H Q E, sp vs H Q E → vs.length = ps.length)
    (hbody : ∀ (cdv : Value) (A : Around) (outer : List Env) (s : Shared) (H : Hp) (vs : List V) (Q : VK) (E : XK), Room k (A.deeper (envOfC qual scope s.heap.objs.size f cdv)) → sp vs H Q E →
      ∃ t, PSs (cxOf CX0 P w K mg base N qual scope f cdv A outer s H E).nox body t ∧ t { nx := fun _ H' => Q .non H', rt := Q } (start N vs) H) : FnOk P w K mg base CX0 (k + 1) f fd ps sp :=
  F.ok S len fun cdv A outer s H vs Q E hr h => let ⟨t, h1, h2⟩ := hbody cdv A outer s H vs Q E hr h; ⟨t, h1.nox, h2⟩

/-! ### numbers in the heap -/
def cN (K : PySem.W.Frag) (p : Nat) : Addr := if p = 0 then He.ga K "Ratio" else He.ga K "Residue"
def flN (p : Nat) (n d : Int) : List (Str × V) := if p = 0 then [("n", .int n), ("d", .int d)] else [("p", .int p), ("n", .int n)]
def NumAt (K : PySem.W.Frag) (p : Nat) (H : Hp) (v : V) (n d : Int) : Prop := ∃ a dx, v = .ref a ∧ H a = some (.ins (cN K p) dx (flN p n d))
theorem NumAt.mono {K : PySem.W.Frag} {p : Nat} {H H' : Hp} {v : V} {n d : Int} (h : NumAt K p H v n d) (e : Same H H') : NumAt K p H' v n d := by
  obtain ⟨a, dx, hv, ha⟩ := h
  exact ⟨a, dx, hv, e _ _ ha⟩
theorem same_upd {H : Hp} {p : Addr} {o : HO} (h : H p = none) : Same H (upd H p o) := fun b x e => by
  rw [upd_ne (ne_of_none e h)]
  exact e

section
variable {P : Program} {w : World} {K : PySem.W.Frag} {mg : Str → Option Value} {base : Heap}
def spQinit (K : PySem.W.Frag) : L2.Sp := fun vs H Q _ => ∃ a dx n d, vs = [.ref a, .int n, .int d] ∧ H a = some (.ins (He.ga K "Ratio") dx []) ∧ d ≠ 0 ∧ d.natAbs ≤ 2 ^ 8990 ∧
  Q .non (upd H a (.ins (He.ga K "Ratio") dx (flN 0 (low 0 n d).1 (low 0 n d).2)))
theorem shared_ok {n d : Int} (hd : d ≠ 0) (hb : d.natAbs ≤ 2 ^ 8990) : CDivW n ((Nat.gcd n.natAbs d.natAbs : Nat) : Int) := by
  have h1 : 0 < d.natAbs := by omega
  have h2 : 0 < Nat.gcd n.natAbs d.natAbs := Nat.gcd_pos_of_pos_right _ h1
  have h3 : Nat.gcd n.natAbs d.natAbs ≤ d.natAbs := Nat.gcd_le_right _ h1
  refine wide_div (b := 8991) (by omega) ?_ (by decide) (by decide)
  rw [Int.natAbs_natCast]
  have h4 : (2 : Nat) ^ 8990 < 2 ^ 8991 := Nat.pow_lt_pow_right (by decide) (by decide)
  generalize (2 : Nat) ^ 8990 = u at *
  generalize (2 : Nat) ^ 8991 = v at *
  omega
theorem ok_Q_init (T : Tx K mg) : FnOk P w K mg base CX0 1 (He.fAd K ("Ratio", some "__init__")) (fdOf K (He.fAd K ("Ratio", some "__init__"))) ["self", "n", "d"] (spQinit K) := by
  refine fok (F_Q_init T.c) sc_Q_init (fun vs H Q E h => ?_) (fun cdv A outer s H vs Q E hr h => ?_)
  · obtain ⟨a, dx, n, d, rfl, _⟩ := h
    rfl
  · obtain ⟨a, dx, n, d, rfl, ha, hd, hb, q⟩ := h
    have cl : Cls K (He.ga K "Ratio") := He.cls_ok (a_cls_Ratio T.c)
    have n1 : NoAttr K (He.ga K "Ratio") "n" := He.noat_ok (a_noat_Ratio_n T.c)
    have n2 : NoAttr K (He.ga K "Ratio") "d" := He.noat_ok (a_noat_Ratio_d T.c)
    refine ⟨_, pss_cons (ps_if (pt_cmpR op_eq (pv 2) pe_int (nomark _)) (pss_one ps_never) pss_nil)
      (pss_cons (ps_if (pt_cmpR op_lt (pv 2) pe_int (nomark _)) (pss_cons (ps_set (i := 1) sc_Q_init.nd rfl (.inl rfl) (pe_un un_neg (pv 1))) (pss_one (ps_set (i := 2) sc_Q_init.nd rfl (.inl rfl) (pe_un un_neg (pv 2))))) pss_nil)
      (pss_cons (ps_set (i := 3) sc_Q_init.nd rfl (.inl rfl) (pe_callBfun cr_gcd (by rfl) T.gcd (pa_cons (pv 1) (pa_cons (pv 2) pa_nil))))
      (pss_cons (ps_fld (pv 0) (pe_op op_fdivW (pv 1) (pv 3)) rfl)
      (pss_one (ps_fld (pv 0) (pe_op op_fdivW (pv 2) (pv 3)) rfl))))), ?_⟩
    refine ⟨_, rfl, rfl, _, rfl, ite2 (fun e => absurd (V.int.inj (of_decide_eq_true e)) hd) (fun _ => ?_)⟩
    refine ⟨_, rfl, _, _, rfl, rfl, _, rfl, ?_⟩
    have fin : ∀ n' d' : Int, d' ≠ 0 → d'.natAbs ≤ 2 ^ 8990 → low 0 n d = (n' / ((Nat.gcd n'.natAbs d'.natAbs : Nat) : Int), d' / ((Nat.gcd n'.natAbs d'.natAbs : Nat) : Int)) → ∀ y3, 
      tSeq (tAsg (tCB rGcd (tCons (tVar 1) (tCons (tVar 2) tNil))) (gName 3)) (tSeq (sFld K (tVar 0) (tOp (rI CDivW fun i j => .int (i / j)) (tVar 1) (tVar 3)) "n") (sFld K (tVar 0) (tOp (rI CDivW fun i j => .int (i / j)) (tVar 2) (tVar 3)) "d"))
        { nx := fun _ H' => Q .non H', rt := Q } [some (.ref a), some (.int n'), some (.int d'), y3] H := fun n' d' h1 h2 h3 y3 => by
      refine ⟨_, rfl, _, rfl, _, _, rfl, ?_⟩
      refine ⟨_, rfl, _, rfl, _, _, rfl, rfl, shared_ok h1 h2, _, rfl, a, _, dx, _, rfl, ha, cl, n1, by decide, ?_⟩
      have hsd : CDivW d' ((Nat.gcd n'.natAbs d'.natAbs : Nat) : Int) := shared_ok h1 h2
      refine ⟨_, rfl, _, rfl, _, _, rfl, rfl, hsd, _, rfl, a, _, dx, _, rfl, upd_same, cl, n2, (show (1 : Nat) < 1000 by decide), ?_⟩
      rw [upd_upd]
      rw [h3] at q
      exact q
    refine ite2 (fun e => ?_) (fun e => ?_)
    · have e' : d < 0 := of_decide_eq_true e
      refine ⟨_, rfl, _, rfl, _, rfl, _, rfl, ?_⟩
      refine fin (-n) (-d) (by omega) (by rw [Int.natAbs_neg]; exact hb) ?_ none
      unfold low
      rw [if_pos rfl, if_pos e', if_pos e']
    · have e' : ¬ d < 0 := fun z => e (decide_eq_true z)
      refine fin n d hd hb ?_ none
      unfold low
      rw [if_pos rfl, if_neg e', if_neg e']
end
end K51

set_option Elab.async false
set_option linter.all false
set_option maxRecDepth 100000
set_option maxHeartbeats 4000000
namespace K51
open PySem PySem.Spec PyProof.Rows L2

/-! ### operators that an own class defines -/
section
variable {X : Cx} {n : Nat} {C f : Addr} {fd : FuncData} {ps : List Str} {sp : L2.Sp}
theorem cmpBack_of {pins : List (Addr × Obj)} {σ : L2.St} {Q : VK} {v : Value} {s' : Shared} (h : EP X pins σ Q v s') : PySem.W.CmpBack (fun v s' => EP X pins σ Q v s') v s' := by
  obtain ⟨x, H', I, r, q⟩ := id h
  cases x with
  | non => cases r; exact h
  | bl b => cases r; exact h
  | int i => obtain ⟨t, e⟩ := r; cases e; exact h
  | str i => obtain ⟨t, e⟩ := r; cases e; exact h
  | byt i => obtain ⟨t, e⟩ := r; cases e; exact h
  | flt i => obtain ⟨t, e⟩ := r; cases e; exact h
  | ref a => cases r; exact h
  | ty a => cases r; exact h
theorem inst_at {pins : List (Addr × Obj)} {s : Shared} {σ : L2.St} {H : Hp} {a dx : Addr} {fs : List (Str × V)} (I : Inv X pins σ H s) (h : H a = some (.ins C dx fs)) : ∃ ox od, PySem.W.InstAt s.heap a ox C od := by
  obtain ⟨mA, O, _⟩ := ins_get I.hok h
  obtain ⟨od, J, _⟩ := O.look
  exact ⟨_, _, J⟩
def rOwn (C : Addr) (sp : L2.Sp) : R2 := fun x y H Q => ∃ a b dx dy fs gs, x = .ref a ∧ y = .ref b ∧ H a = some (.ins C dx fs) ∧ H b = some (.ins C dy gs) ∧ sp [x, y] H Q E0
theorem op_own {op : Operator} (F : FnOk X.prog X.w X.K X.mg X.base CX0 n f fd ps sp) (hr : Room n X.A) (hc : PySem.W.selfFirst X.K C = true) (hs : PySem.W.findIn X.K (.ref C) (PySem.dunder op.info.2) = some (some (.ref f)))
    (hf : PySem.W.isFn X.K (.ref f) = true) (hb : Binds X.K fd ps []) : OpR X (binaryOp op) (rOwn C sp) := by
  intro pins s σ H x y v u Q I rx ry h
  obtain ⟨a, b, dx, dy, fs, gs, rfl, rfl, ha, hb', q⟩ := h
  cases rx
  cases ry
  obtain ⟨ox, od, J⟩ := inst_at I ha
  obtain ⟨oy, oe, J'⟩ := inst_at I hb'
  obtain ⟨m, hF⟩ := I.fr
  refine PySem.W.binop_K hF I.ok.mod.kin J J'.type hc hs hf ?_
  exact wpAny_mono (run_fn (dvs := []) (ds := []) (us := [.ref a, .ref b]) (vs := [.ref a, .ref b]) F hr hb .nil pass0 I (.cons rfl (.cons rfl .nil)) q) (fun v s' h => cmpBack_of h) fun _ _ z => z
def rOwn1 (C : Addr) (sp : L2.Sp) : V → Hp → VK → Prop := fun x H Q => ∃ a dx fs, x = .ref a ∧ H a = some (.ins C dx fs) ∧ sp [x] H Q E0
theorem un_own (F : FnOk X.prog X.w X.K X.mg X.base CX0 n f fd ps sp) (hr : Room n X.A) (hs : PySem.W.findIn X.K (.ref C) "__neg__" = some (some (.ref f)))
    (hf : PySem.W.isFn X.K (.ref f) = true) (hb : Binds X.K fd ps []) : UnR X (unaryOp .USub) (rOwn1 C sp) := by
  intro pins s σ H x v Q I rx h
  obtain ⟨a, dx, fs, rfl, ha, q⟩ := h
  cases rx
  obtain ⟨ox, od, J⟩ := inst_at I ha
  obtain ⟨m, hF⟩ := I.fr
  exact PySem.W.ksp_neg hF I.ok.mod.kin J hs hf (run_fn (dvs := []) (ds := []) (us := [.ref a]) (vs := [.ref a]) F hr hb .nil pass0 I (.cons rfl .nil) q)
end

/-! ### == and != of tuples, item by item, by what each comparison gives -/
section
variable {prog : Program} {w : World} {A : Around} {R : Result → Shared → Prop}
open AutoSeq1 (wpAny_loadPart')
open MeetsSeq MeetsSeq2 MeetsSeq3 SeqRoads2
abbrev FinO (prog : Program) (w : World) (A : Around) (R : Result → Shared → Prop) : Fin → Shared → Prop := fun fin s' => match fin with
  | .done f => R (.ok f) s'
  | .again c' => c'.quiet = true ∧ codeAny (model prog w) A c' R s'
theorem tuple_eqB (l b : Addr) (items items2 : Array Value) (n n2 : Nat) (dd dd2 : Option Addr) (sl sl2 : Array (Option Value)) (hsz : items.size = items2.size) (e : Nat → Bool) (I : Shared → Prop)
    (turn : ∀ i (h1 : i < items.size) (h2 : i < items2.size) s, I s → wpAny (model prog w) A.in1 (eqBool items[i] items2[i]) (fun r s' => r = e i ∧ I s') (fun e s' => R (.error e) s') s)
    (fin : ∀ s, I s → R (.ok (.ret (.bool ((List.range items.size).all e)))) s) {s : Shared} (hl1 : s.heap.get? l = some { cls := .type "tuple", dict := dd, data := .seq items n, slots := sl }) (hb1 : s.heap.get? b = some { cls := .type "tuple", dict := dd2, data := .seq items2 n2, slots := sl2 }) (h : I s) :
    wpAny (model prog w) A.in1 (Builtin.«tuple.__eq__» ⟨[.ref l, .ref b], []⟩) (FinO prog w A R) (fun e s' => R (.error e) s') s := by
  have f2 := AutoSeq1.sub_tuple_tuple
  have hZ : (items.toList.zip items2.toList).length = items.size := by simp [hsz]
  have h0 := h
  obtain ⟨hp, g, d, tk, os⟩ := s
  wp_walk using wpAny_loadPart' hl1, wpAny_loadPart' hb1, wpAny_forIn_list _ (fun rest b s' => b.1 = none ∧ ∃ i, rest = (items.toList.zip items2.toList).drop i ∧ i ≤ items.size ∧ (∀ j, j < i → e j = true) ∧ I s') _
  case turn =>
    rintro ⟨y, x⟩ rest b s' ⟨hb', i, hz, hi, hall, hI⟩
    have hlt : i < (items.toList.zip items2.toList).length := by
      rcases Nat.lt_or_ge i (items.toList.zip items2.toList).length with h' | h'
      · exact h'
      · rw [List.drop_of_length_le h'] at hz; cases hz
    have h1 : i < items.size := hZ ▸ hlt
    have h2 : i < items2.size := hsz ▸ h1
    rw [List.drop_eq_getElem_cons hlt] at hz
    injection hz with hyx hrest
    have hy : y = items[i] := by have := congrArg Prod.fst hyx; simpa using this
    have hx : x = items2[i] := by have := congrArg Prod.snd hyx; simpa using this
    subst hy hx
    refine wpAny_bind (wpAny_mono (turn i h1 h2 s' hI) (fun r s2 q2 => ?_) fun _ _ x => x)
    obtain ⟨hr, q2⟩ := q2
    cases hy : e i with
    | true =>
      rw [hy] at hr
      subst hr
      wp_walk
      refine ⟨rfl, i + 1, hrest, h1, fun j hj => ?_, q2⟩
      by_cases ej : j = i
      · rw [ej]; exact hy
      · exact hall j (by omega)
    | false =>
      rw [hy] at hr
      subst hr
      have hR := fin s2 q2
      have ef : (List.range items.size).all e = false := by
        rw [Bool.eq_false_iff]
        intro z
        have := List.all_eq_true.mp z i (List.mem_range.mpr h1)
        rw [hy] at this
        cases this
      rw [ef] at hR
      wp_walk
      exact hR
  case fin =>
    rintro ⟨b1, b2⟩ s' ⟨hb', i, hz, hi, hall, hI⟩
    simp only at hb'
    subst hb'
    have hge : items.size ≤ i := by
      rcases Nat.lt_or_ge i (items.toList.zip items2.toList).length with h' | h'
      · rw [List.drop_eq_getElem_cons h'] at hz; cases hz
      · exact hZ ▸ h'
    have hi' : i = items.size := by omega
    have hR := fin s' hI
    have et : (List.range items.size).all e = true := List.all_eq_true.mpr fun j hj => hall j (by rw [hi']; exact List.mem_range.mp hj)
    rw [et] at hR
    wp_walk
    simpa [Builtin.Tuple.tupleCompareSizes, hsz] using hR
  case h =>
    exact ⟨rfl, 0, rfl, Nat.zero_le _, fun j hj => absurd hj (Nat.not_lt_zero j), h0⟩
theorem tuple_neB (l b : Addr) (items items2 : Array Value) (n n2 : Nat) (dd dd2 : Option Addr) (sl sl2 : Array (Option Value)) (hsz : items.size = items2.size) (e : Nat → Bool) (I : Shared → Prop)
    (turn : ∀ i (h1 : i < items.size) (h2 : i < items2.size) s, I s → wpAny (model prog w) A.in1 (eqBool items[i] items2[i]) (fun r s' => r = e i ∧ I s') (fun e s' => R (.error e) s') s)
    (fin : ∀ s, I s → R (.ok (.ret (.bool (!(List.range items.size).all e)))) s) {s : Shared} (hl1 : s.heap.get? l = some { cls := .type "tuple", dict := dd, data := .seq items n, slots := sl }) (hb1 : s.heap.get? b = some { cls := .type "tuple", dict := dd2, data := .seq items2 n2, slots := sl2 }) (h : I s) :
    wpAny (model prog w) A.in1 (Builtin.«tuple.__ne__» ⟨[.ref l, .ref b], []⟩) (FinO prog w A R) (fun e s' => R (.error e) s') s := by
  have f2 := AutoSeq1.sub_tuple_tuple
  have hZ : (items.toList.zip items2.toList).length = items.size := by simp [hsz]
  have h0 := h
  obtain ⟨hp, g, d, tk, os⟩ := s
  wp_walk using wpAny_loadPart' hl1, wpAny_loadPart' hb1, wpAny_forIn_list _ (fun rest b s' => b.1 = none ∧ ∃ i, rest = (items.toList.zip items2.toList).drop i ∧ i ≤ items.size ∧ (∀ j, j < i → e j = true) ∧ I s') _
  case turn =>
    rintro ⟨y, x⟩ rest b s' ⟨hb', i, hz, hi, hall, hI⟩
    have hlt : i < (items.toList.zip items2.toList).length := by
      rcases Nat.lt_or_ge i (items.toList.zip items2.toList).length with h' | h'
      · exact h'
      · rw [List.drop_of_length_le h'] at hz; cases hz
    have h1 : i < items.size := hZ ▸ hlt
    have h2 : i < items2.size := hsz ▸ h1
    rw [List.drop_eq_getElem_cons hlt] at hz
    injection hz with hyx hrest
    have hy : y = items[i] := by have := congrArg Prod.fst hyx; simpa using this
    have hx : x = items2[i] := by have := congrArg Prod.snd hyx; simpa using this
    subst hy hx
    refine wpAny_bind (wpAny_mono (turn i h1 h2 s' hI) (fun r s2 q2 => ?_) fun _ _ x => x)
    obtain ⟨hr, q2⟩ := q2
    cases hy : e i with
    | true =>
      rw [hy] at hr
      subst hr
      wp_walk
      refine ⟨rfl, i + 1, hrest, h1, fun j hj => ?_, q2⟩
      by_cases ej : j = i
      · rw [ej]; exact hy
      · exact hall j (by omega)
    | false =>
      rw [hy] at hr
      subst hr
      have hR := fin s2 q2
      have ef : (List.range items.size).all e = false := by
        rw [Bool.eq_false_iff]
        intro z
        have := List.all_eq_true.mp z i (List.mem_range.mpr h1)
        rw [hy] at this
        cases this
      rw [ef] at hR
      wp_walk
      exact hR
  case fin =>
    rintro ⟨b1, b2⟩ s' ⟨hb', i, hz, hi, hall, hI⟩
    simp only at hb'
    subst hb'
    have hge : items.size ≤ i := by
      rcases Nat.lt_or_ge i (items.toList.zip items2.toList).length with h' | h'
      · rw [List.drop_eq_getElem_cons h'] at hz; cases hz
      · exact hZ ▸ h'
    have hi' : i = items.size := by omega
    have hR := fin s' hI
    have et : (List.range items.size).all e = true := List.all_eq_true.mpr fun j hj => hall j (by rw [hi']; exact List.mem_range.mp hj)
    rw [et] at hR
    wp_walk
    simpa [Builtin.Tuple.tupleCompareSizes, hsz, bne] using hR
  case h =>
    exact ⟨rfl, 0, rfl, Nat.zero_le _, fun j hj => absurd hj (Nat.not_lt_zero j), h0⟩
end
end K51

set_option Elab.async false
set_option linter.all false
set_option maxRecDepth 100000
set_option maxHeartbeats 4000000
namespace K51
open PySem PySem.Spec PyProof.Rows L2
section
variable {prog : Program} {w : World} {A : Around} {E : Value → Shared → Prop} {s : Shared}
theorem rc_tupB {l b : Addr} {items items2 : Array Value} {Q : Value → Shared → Prop} (hsz : items.size = items2.size) (hu : A.units < cLine) (e : Nat → Bool) (I : Shared → Prop)
    (hl : s.heap.IsTuple l items) (hb : s.heap.IsTuple b items2)
    (turn : ∀ i (h1 : i < items.size) (h2 : i < items2.size) s, I s → wpAny (model prog w) A.in1 (eqBool items[i] items2[i]) (fun r s' => r = e i ∧ I s') E s)
    (fin : ∀ s, I s → Q (.bool ((List.range items.size).all e)) s) (h : I s) : wpAny (model prog w) A (richCompare .Eq (.ref l) (.ref b)) Q E s := by
  obtain ⟨⟨cls, dd, data, sl⟩, ho, hc, n, hd⟩ := id hl
  obtain ⟨⟨cls2, dd2, data2, sl2⟩, ho2, hc2, n2, hd2⟩ := id hb
  simp only at hc hd hc2 hd2
  subst hc hd hc2 hd2
  refine wpAny_richCompare_same_room (op := .Eq) ⟨_, ho, rfl⟩ ⟨_, ho2, rfl⟩ F.slot_tuple_eq (GQ.call_here F.slot_tuple_eq ⟨_, ho, rfl⟩ F.entry_tuple_eq (F.args_tuple_eq_2 _ _) ?_) hu
  exact tuple_eqB (R := wants (fun v s' => v ≠ .notImplemented ∧ Q v s') E) l b items items2 n n2 dd dd2 sl sl2 hsz e I turn (fun s' q => ⟨(fun x => nomatch x), fin s' q⟩) ho ho2 h
theorem rn_tupB {l b : Addr} {items items2 : Array Value} {Q : Value → Shared → Prop} (hsz : items.size = items2.size) (hu : A.units < cLine) (e : Nat → Bool) (I : Shared → Prop)
    (hl : s.heap.IsTuple l items) (hb : s.heap.IsTuple b items2)
    (turn : ∀ i (h1 : i < items.size) (h2 : i < items2.size) s, I s → wpAny (model prog w) A.in1 (eqBool items[i] items2[i]) (fun r s' => r = e i ∧ I s') E s)
    (fin : ∀ s, I s → Q (.bool (!(List.range items.size).all e)) s) (h : I s) : wpAny (model prog w) A (richCompare .NotEq (.ref l) (.ref b)) Q E s := by
  obtain ⟨⟨cls, dd, data, sl⟩, ho, hc, n, hd⟩ := id hl
  obtain ⟨⟨cls2, dd2, data2, sl2⟩, ho2, hc2, n2, hd2⟩ := id hb
  simp only at hc hd hc2 hd2
  subst hc hd hc2 hd2
  refine wpAny_richCompare_same_room (op := .NotEq) ⟨_, ho, rfl⟩ ⟨_, ho2, rfl⟩ F.slot_tuple_ne (GQ.call_here F.slot_tuple_ne ⟨_, ho, rfl⟩ F.entry_tuple_ne (F.args_tuple_ne_2 _ _) ?_) hu
  exact tuple_neB (R := wants (fun v s' => v ≠ .notImplemented ∧ Q v s') E) l b items items2 n n2 dd dd2 sl sl2 hsz e I turn (fun s' q => ⟨(fun x => nomatch x), fin s' q⟩) ho ho2 h
end

/-- how two values compare by ==, by the abstract heap -/
abbrev CmpD := V → V → Hp → Bool → Prop
def MonB (D : CmpD) : Prop := ∀ x y H H' r, Same H H' → D x y H r → D x y H' r
def RflB (D : CmpD) : Prop := ∀ x H r, D x x H r → r = true
def EqB (X : Cx) (n : Nat) (D : CmpD) : Prop :=
  ∀ (A : Around) (pins : List (Addr × Obj)) (s : Shared) (σ : L2.St) (H : Hp) (x y : V) (u v : Value) (r : Bool), Sub X n A → Inv X pins σ H s → RelV x u → RelV y v → D x y H r →
    wpAny (model X.prog X.w) A (eqBool u v) (fun r' s' => r' = r ∧ ∃ H', Inv X pins σ H' s' ∧ Same H H') X.xe s
def DTupB (K : PySem.W.Frag) (D : CmpD) : CmpD := fun x y H r => ∃ a b xs ys e, x = .ref a ∧ y = .ref b ∧ SqT K H a xs ∧ SqT K H b ys ∧ xs.length = ys.length ∧
  (∀ (i : Nat) x y, xs[i]? = some x → ys[i]? = some y → D x y H (e i)) ∧ r = (List.range xs.length).all e
theorem SqT.same {K : PySem.W.Frag} {H H' : Hp} {a : Addr} {xs : List V} (e : Same H H') (h : SqT K H a xs) : SqT K H' a xs :=
  h.elim (fun h => .inl (h.elim (fun h => .inl (e _ _ h)) fun ⟨o, h⟩ => .inr ⟨o, e _ _ h⟩)) fun h => .inr h
theorem monB_tup {K : PySem.W.Frag} {D : CmpD} (hD : MonB D) : MonB (DTupB K D) := fun x y H H' r e d => by
  obtain ⟨a, b, xs, ys, f, hx, hy, h1, h2, hl, p, hr⟩ := d
  exact ⟨a, b, xs, ys, f, hx, hy, SqT.same e h1, SqT.same e h2, hl, fun i x y q1 q2 => hD x y H H' _ e (p i x y q1 q2), hr⟩
section
variable {X : Cx} {n : Nat} {D : CmpD}
def LoopB (X : Cx) (pins : List (Addr × Obj)) (σ : L2.St) (H : Hp) (s' : Shared) : Prop := ∃ H', Inv X pins σ H' s' ∧ Same H H'
theorem turnB (hD : MonB D) (h : EqB X n D) {A : Around} (sb : Sub X (n + 1) A) {pins : List (Addr × Obj)} {σ : L2.St} {H : Hp} {xs ys : List V} {e : Nat → Bool} {its its2 : List Value} (hl : xs.length = ys.length) (p : ∀ (i : Nat) x y, xs[i]? = some x → ys[i]? = some y → D x y H (e i)) (r : Vals xs its) (r2 : Vals ys its2)
    (i : Nat) (h1 : i < its.toArray.size) (h2 : i < its2.toArray.size) (s' : Shared) (l : LoopB X pins σ H s') :
    wpAny (model X.prog X.w) A.in1 (eqBool its.toArray[i] its2.toArray[i]) (fun r s2 => r = e i ∧ LoopB X pins σ H s2) X.xe s' := by
  obtain ⟨H1, I1, e1⟩ := l
  have g1 : its[i]? = some its.toArray[i] := by
    have h1' : i < its.length := by simpa using h1
    rw [List.getElem?_eq_getElem h1'] <;> simp
  have g2 : its2[i]? = some its2.toArray[i] := by
    have h2' : i < its2.length := by simpa using h2
    rw [List.getElem?_eq_getElem h2'] <;> simp
  have k1 : i < xs.length := by rw [r.length]; simpa using h1
  have k2 : i < ys.length := by rw [r2.length]; simpa using h2
  obtain ⟨u, hu, ru⟩ := r.get (List.getElem?_eq_getElem k1)
  obtain ⟨v, hv, rv⟩ := r2.get (List.getElem?_eq_getElem k2)
  rw [g1] at hu
  rw [g2] at hv
  rw [Option.some.inj hu, Option.some.inj hv]
  refine wpAny_mono (h A.in1 pins s' σ H1 _ _ u v (e i) sb.in1 I1 ru rv (hD _ _ _ _ _ e1 (p i _ _ (List.getElem?_eq_getElem k1) (List.getElem?_eq_getElem k2)))) (fun r s2 q => ?_) fun _ _ x => x
  obtain ⟨hr, H2, I2, e2⟩ := q
  exact ⟨hr, H2, I2, e1.trans e2⟩
/-- the rich comparison of two tuples -/
theorem rcB_tup (hD : MonB D) (h : EqB X n D) {A : Around} {pins : List (Addr × Obj)} {s : Shared} {σ : L2.St} {H : Hp} {x y : V} {u v : Value} {r : Bool} (sb : Sub X (n + 1) A) (I : Inv X pins σ H s) (rx : RelV x u) (ry : RelV y v) (d : DTupB X.K D x y H r) :
    wpAny (model X.prog X.w) A (richCompare .Eq u v) (fun r' s' => r' = .bool r ∧ ∃ H', Inv X pins σ H' s' ∧ Same H H') X.xe s := by
  obtain ⟨a, b, xs, ys, e, rfl, rfl, ha, hb, hl, p, rfl⟩ := d
  cases rx
  cases ry
  obtain ⟨its, r, e1, z⟩ := I.tuple ha
  obtain ⟨its2, r2, e2, z2⟩ := I.tuple hb
  have hn : its.toArray.size = xs.length := by rw [List.size_toArray, r.length]
  have hsz : its.toArray.size = its2.toArray.size := by rw [List.size_toArray, List.size_toArray, ← r.length, ← r2.length]; exact hl
  refine rc_tupB hsz sb.room.units0 e (fun s' => LoopB X pins σ H s') e1 e2 (fun i h1 h2 s' q => turnB hD h sb hl p r r2 i h1 h2 s' q) (fun s' q => ⟨?_, q⟩) ⟨H, I, Same.refl H⟩
  rw [hn]
theorem rnB_tup (hD : MonB D) (h : EqB X n D) {A : Around} {pins : List (Addr × Obj)} {s : Shared} {σ : L2.St} {H : Hp} {x y : V} {u v : Value} {r : Bool} (sb : Sub X (n + 1) A) (I : Inv X pins σ H s) (rx : RelV x u) (ry : RelV y v) (d : DTupB X.K D x y H r) :
    wpAny (model X.prog X.w) A (richCompare .NotEq u v) (fun r' s' => r' = .bool (!r) ∧ ∃ H', Inv X pins σ H' s' ∧ Same H H') X.xe s := by
  obtain ⟨a, b, xs, ys, e, rfl, rfl, ha, hb, hl, p, rfl⟩ := d
  cases rx
  cases ry
  obtain ⟨its, r, e1, z⟩ := I.tuple ha
  obtain ⟨its2, r2, e2, z2⟩ := I.tuple hb
  have hn : its.toArray.size = xs.length := by rw [List.size_toArray, r.length]
  have hsz : its.toArray.size = its2.toArray.size := by rw [List.size_toArray, List.size_toArray, ← r.length, ← r2.length]; exact hl
  refine rn_tupB hsz sb.room.units0 e (fun s' => LoopB X pins σ H s') e1 e2 (fun i h1 h2 s' q => turnB hD h sb hl p r r2 i h1 h2 s' q) (fun s' q => ⟨?_, q⟩) ⟨H, I, Same.refl H⟩
  rw [hn]
theorem rfl_tup (hR : RflB D) : RflB (DTupB X.K D) → RflB (DTupB X.K D) := id
theorem eqB_tup (hD : MonB D) (hR : RflB D) (h : EqB X n D) : EqB X (n + 1) (DTupB X.K D) := by
  intro A pins s σ H x y u v r sb I rx ry d
  obtain ⟨a, b, xs, ys, e, hx, hy, ha, hb, hl, p, hr⟩ := id d
  subst hx hy
  cases (show u = Value.ref a from rx)
  cases (show v = Value.ref b from ry)
  by_cases hab : a = b
  · subst hab
    have e1 : xs = ys := I.tuple_inj ha hb
    have et : r = true := by
      rw [hr]
      refine List.all_eq_true.mpr fun i hi => ?_
      have hi' := List.mem_range.mp hi
      exact hR _ _ _ (p i _ _ (List.getElem?_eq_getElem hi') (by rw [← e1]; exact List.getElem?_eq_getElem hi'))
    exact SeqAt.EqAt.same (A := A) (s := s) (.ref a) X.prog X.w X.xe _ ⟨et.symm, H, I, Same.refl H⟩
  · refine GQ.eqBool_refG hab (wpAny_mono (rcB_tup hD h sb I (x := .ref a) (y := .ref b) rfl rfl d) (fun r' s' q => ?_) fun _ _ x => x)
    obtain ⟨hr', q⟩ := q
    exact ⟨r, hr', rfl, q⟩
/-- as operators -/
def rEqT (K : PySem.W.Frag) (D : CmpD) (neg : Bool) : R2 := fun x y H Q => ∃ r, DTupB K D x y H r ∧ ∀ H', Same H H' → Q (.bl (if neg then !r else r)) H'
theorem op_eqT (hD : MonB D) (h : EqB X n D) (hr : Room (n + 1) X.A) : OpR X (compareOp .Eq) (rEqT X.K D false) := by
  intro pins s σ H x y v u Q I rx ry hq
  obtain ⟨r, d, q⟩ := hq
  show wpAny (model X.prog X.w) X.A (richCompare .Eq v u) (EP X pins σ Q) X.xe s
  refine wpAny_mono (rcB_tup hD h (A := X.A) ⟨hr, rfl⟩ I rx ry d) (fun r' s' z => ?_) fun _ _ x => x
  obtain ⟨hr', H', I', e⟩ := z
  subst hr'
  exact ⟨.bl r, H', I', rfl, q H' e⟩
theorem op_neT (hD : MonB D) (h : EqB X n D) (hr : Room (n + 1) X.A) : OpR X (compareOp .NotEq) (rEqT X.K D true) := by
  intro pins s σ H x y v u Q I rx ry hq
  obtain ⟨r, d, q⟩ := hq
  show wpAny (model X.prog X.w) X.A (richCompare .NotEq v u) (EP X pins σ Q) X.xe s
  refine wpAny_mono (rnB_tup hD h (A := X.A) ⟨hr, rfl⟩ I rx ry d) (fun r' s' z => ?_) fun _ _ x => x
  obtain ⟨hr', H', I', e⟩ := z
  subst hr'
  exact ⟨.bl (!r), H', I', rfl, q H' e⟩
/-- numbers by their own == -/
def DNum (K : PySem.W.Frag) (p : Nat) : CmpD := fun x y H r => ∃ n1 d1 n2 d2, NumAt K p H x n1 d1 ∧ NumAt K p H y n2 d2 ∧ r = decide (flN p n1 d1 = flN p n2 d2)
theorem monB_num {K : PySem.W.Frag} {p : Nat} : MonB (DNum K p) := fun x y H H' r e d => by
  obtain ⟨n1, d1, n2, d2, h1, h2, hr⟩ := d
  exact ⟨n1, d1, n2, d2, h1.mono e, h2.mono e, hr⟩
theorem rflB_num {K : PySem.W.Frag} {p : Nat} : RflB (DNum K p) := fun x H r d => by
  obtain ⟨n1, d1, n2, d2, ⟨a, dx, e1, h1⟩, ⟨b, dy, e2, h2⟩, hr⟩ := d
  rw [e1] at e2
  cases e2
  rw [h1] at h2
  injection h2 with h3
  injection h3 with h4 h5 h6
  rw [hr, h6, decide_eq_true rfl]
def spEqN (K : PySem.W.Frag) (p : Nat) : L2.Sp := fun vs H Q _ => ∃ x y n1 d1 n2 d2, vs = [x, y] ∧ NumAt K p H x n1 d1 ∧ NumAt K p H y n2 d2 ∧ Q (.bl (decide (flN p n1 d1 = flN p n2 d2))) H
theorem eqB_num {p : Nat} {f : Addr} {fd : FuncData} {ps : List Str} (F : FnOk X.prog X.w X.K X.mg X.base CX0 n f fd ps (spEqN X.K p))
    (hs : PySem.W.findIn X.K (.ref (cN X.K p)) "__eq__" = some (some (.ref f))) (hf : PySem.W.isFn X.K (.ref f) = true) (hb : Binds X.K fd ps []) : EqB X n (DNum X.K p) := by
  intro A pins s σ H x y u v r sb I rx ry d
  obtain ⟨n1, d1, n2, d2, ⟨a, dx, hx, h1⟩, ⟨b, dy, hy, h2⟩, hr⟩ := id d
  subst hx hy
  cases (show u = Value.ref a from rx)
  cases (show v = Value.ref b from ry)
  by_cases hab : a = b
  · subst hab
    exact SeqAt.EqAt.same (A := A) (s := s) (.ref a) X.prog X.w X.xe _ ⟨(rflB_num _ _ _ d).symm, H, I, Same.refl H⟩
  · refine GQ.eqBool_refG hab ?_
    obtain ⟨ox, od, J⟩ := inst_at I h1
    obtain ⟨oy, oe, J'⟩ := inst_at I h2
    obtain ⟨m, hF⟩ := I.fr
    refine PySem.W.cmp_K (op := .Eq) (tb := .ref (cN X.K p)) sb.room.units0 hF I.ok.mod.kin J J'.type (by simp [PySem.W.notFirst]) hs hf ?_
    have hsp : spEqN X.K p [.ref a, .ref b] H (fun v H' => v = .bl r ∧ H' = H) E0 := ⟨_, _, n1, d1, n2, d2, rfl, ⟨a, dx, rfl, h1⟩, ⟨b, dy, rfl, h2⟩, by rw [hr], rfl⟩
    have e0 : Env0 X.prog X.w X.K X.mg X.base A X.stack s H := by
      have e := I.env0
      exact ⟨by rw [sb.fr]; exact e.frames, e.mod, e.bs, e.bsz, e.funs, e.frf, e.hok, e.bare⟩
    have hl := F.len _ _ _ _ hsp
    have r2 : Vals [V.ref a, V.ref b] [Value.ref a, Value.ref b] := .cons rfl (.cons rfl .nil)
    refine wpAny_call (codeAny_mono (F.run A X.stack s H ⟨[.ref a, .ref b], []⟩ [.ref a, .ref b] [.ref a, .ref b] _ E0 sb.room e0 (by
      have := hb s [.ref a, .ref b] I.kIn (by simpa using hl)
      simpa using this) r2 hsp) fun r' s' hq => ?_)
    cases r' with
    | error e => exact hq.elim
    | ok fl =>
      cases fl with
      | ret w =>
        obtain ⟨z, H', I', rz, ez, ex⟩ := I.after hq
        subst ez
        cases rz
        exact ⟨r, rfl, rfl, H', I', by rw [ex]; exact Same.refl H⟩
      | next => exact False.elim hq
      | brk => exact False.elim hq
      | cont => exact False.elim hq
end
end K51

set_option Elab.async false
set_option linter.all false
set_option maxRecDepth 100000
set_option maxHeartbeats 4000000
namespace K51
open PySem PySem.Spec PyProof.Rows L2

theorem boot_isi : bootBuiltins "isinstance" = some (.builtin "isinstance") := by decide +kernel
theorem boot_tint : bootBuiltins "int" = some (.type "int") := by decide +kernel
theorem boot_tbool : bootBuiltins "bool" = some (.type "bool") := by decide +kernel
theorem boot_ttuple : bootBuiltins "tuple" = some (.type "tuple") := by decide +kernel
theorem boot_tlist : bootBuiltins "list" = some (.type "list") := by decide +kernel
section
variable {K : PySem.W.Frag} {mg : Str → Option Value}
/-- the type of a number object -/
theorem num_ty (T : Tx K mg) {p : Nat} {H : Hp} {a dx : Addr} {fs : List (Str × V)} (h : H a = some (.ins (cN K p) dx fs)) : TyX K H (.ref a) (.ref (cN K p)) := by
  unfold cN at h ⊢
  have c2 := of_decide_eq_true (x_spc T.x)
  have c3 := of_decide_eq_true (x_tks T.x)
  by_cases hp : p = 0
  · rw [if_pos hp] at h ⊢
    exact .base (.ins h (He.cls_ok (a_cls_Ratio T.c)) (He.eqO_ok (x_clsat_Ratio T.x)) c2 c3 (of_decide_eq_true (x_mro_Ratio T.x)))
  · rw [if_neg hp] at h ⊢
    exact .base (.ins h (He.cls_ok (a_cls_Residue T.c)) (He.eqO_ok (x_clsat_Residue T.x)) c2 c3 (of_decide_eq_true (x_mro_Residue T.x)))
theorem tyQ (T : Tx K mg) {H : Hp} {a dx : Addr} {fs : List (Str × V)} (h : H a = some (.ins (He.ga K "Ratio") dx fs)) : TyX K H (.ref a) (.ref (He.ga K "Ratio")) := num_ty (p := 0) T h
theorem tyR (T : Tx K mg) {H : Hp} {a dx : Addr} {fs : List (Str × V)} (h : H a = some (.ins (He.ga K "Residue") dx fs)) : TyX K H (.ref a) (.ref (He.ga K "Residue")) := num_ty (p := 1) T h
end
/-- a new object made by a class -/
theorem made_same {H : Hp} {x dx C : Addr} {fs fs' : List (Str × V)} (h1 : H x = none) (h2 : H dx = none) : Same H (upd (upd (upd H dx (.own x)) x (.ins C dx fs)) x (.ins C dx fs')) := fun b o e => by
  rw [upd_ne (ne_of_none e h1), upd_ne (ne_of_none e h1), upd_ne (ne_of_none e h2)]
  exact e

section
variable {P : Program} {w : World} {K : PySem.W.Frag} {mg : Str → Option Value} {base : Heap}
abbrev aQ (K : PySem.W.Frag) (m : Str) : Addr := He.fAd K ("Ratio", some m)
abbrev aR (K : PySem.W.Frag) (m : Str) : Addr := He.fAd K ("Residue", some m)
/-- making a Ratio -/
theorem mk_Q {n d : Int} {H : Hp} {Q : VK} {E : XK} (hd : d ≠ 0) (hb : d.natAbs ≤ 2 ^ 8990) (k : ∀ v H', Same H H' → NumAt K 0 H' v (low 0 n d).1 (low 0 n d).2 → Q v H') :
    ∀ x dx, H x = none → H dx = none → dx ≠ x → spQinit K (.ref x :: ([.int n, .int d] ++ [])) (upd (upd H dx (.own x)) x (.ins (He.ga K "Ratio") dx [])) (fun v H2 => v = .non ∧ Q (.ref x) H2) E := fun x dx h1 h2 h3 =>
  ⟨x, dx, n, d, rfl, upd_same, hd, hb, rfl, k _ _ (made_same h1 h2) ⟨x, dx, rfl, upd_same⟩⟩

/-! ### is_integer, is_small_prime, Residue's __init__ -/
def spIsInt (K : PySem.W.Frag) : L2.Sp := fun vs H Q _ => ∃ x t b1 b2, vs = [x] ∧ TyX K H x t ∧ PySem.W.kitOne K t (.type "int") = some b1 ∧ PySem.W.kitOne K t (.type "bool") = some b2 ∧ Q (.bl (b1 && !b2)) H
theorem ok_is_integer (T : Tx K mg) : FnOk P w K mg base CX0 1 (He.fAd K ("is_integer", none)) (fdOf K (He.fAd K ("is_integer", none))) ["value"] (spIsInt K) := by
  refine fok (F_is_integer T.c) sc_is_integer (fun vs H Q E h => ?_) (fun cdv A outer s H vs Q E hr h => ?_)
  · obtain ⟨x, t, b1, b2, rfl, _⟩ := h
    rfl
  · obtain ⟨x, t, b1, b2, rfl, ht, h1, h2, q⟩ := h
    have fi := T.free (a_free_isinstance T.c)
    refine ⟨_, pss_one (ps_ret (pe_and (pe_callB call_isi (by rfl) fi boot_isi (pa_cons (pv 0) (pa_cons (pe_bltn (v := .ty "int") (by rfl) (T.free (a_free_int T.c)) boot_tint rfl) pa_nil)))
      (pe_one (pe_not (pe_callB call_isi (by rfl) fi boot_isi (pa_cons (pv 0) (pa_cons (pe_bltn (v := .ty "bool") (by rfl) (T.free (a_free_bool T.c)) boot_tbool rfl) pa_nil))))))), ?_⟩
    refine ⟨_, rfl, x, _, t, _, b1, rfl, .ty "int", ht, h1, b1, rfl, ?_⟩
    cases b1 with
    | false => exact q
    | true => exact ⟨_, rfl, x, _, t, _, b2, rfl, .ty "bool", ht, h2, b2, rfl, q⟩
theorem ok_is_plain (T : Tx K mg) : FnOk P w K mg base CX0 1 (He.fAd K ("is_plain", none)) (fdOf K (He.fAd K ("is_plain", none))) ["value"] (spIsInt K) := by
  refine fok (F_is_plain T.c) sc_is_plain (fun vs H Q E h => ?_) (fun cdv A outer s H vs Q E hr h => ?_)
  · obtain ⟨x, t, b1, b2, rfl, _⟩ := h
    rfl
  · obtain ⟨x, t, b1, b2, rfl, ht, h1, h2, q⟩ := h
    have fi := T.free (a_free_isinstance T.c)
    refine ⟨_, pss_one (ps_ret (pe_and (pe_callB call_isi (by rfl) fi boot_isi (pa_cons (pv 0) (pa_cons (pe_bltn (v := .ty "int") (by rfl) (T.free (a_free_int T.c)) boot_tint rfl) pa_nil)))
      (pe_one (pe_not (pe_callB call_isi (by rfl) fi boot_isi (pa_cons (pv 0) (pa_cons (pe_bltn (v := .ty "bool") (by rfl) (T.free (a_free_bool T.c)) boot_tbool rfl) pa_nil))))))), ?_⟩
    refine ⟨_, rfl, x, _, t, _, b1, rfl, .ty "int", ht, h1, b1, rfl, ?_⟩
    cases b1 with
    | false => exact q
    | true => exact ⟨_, rfl, x, _, t, _, b2, rfl, .ty "bool", ht, h2, b2, rfl, q⟩
theorem isint_int {H : Hp} {i : Int} {Q : VK} {E : XK} (q : Q (.bl true) H) : spIsInt K [.int i] H Q E := ⟨.int i, .type "int", true, false, rfl, .base (.int i), by rfl, kit_ty (by decide +kernel), q⟩
/-- the small primes that come up -/
def SmP (p : Int) : Prop := p = 2 ∨ p = 3 ∨ p = 5 ∨ p = 7
def spPrime : L2.Sp := fun vs H Q _ => ∃ p, vs = [.int p] ∧ SmP p ∧ Q (.bl true) H
def primesV : List V := [.int 2, .int 3, .int 5, .int 7, .int 11, .int 13, .int 17, .int 19, .int 23, .int 29, .int 31]
theorem in_primes {p : Int} (h : SmP p) : inV (.int p) primesV = true := by
  rcases h with e | e | e | e <;> (rw [e]; decide)
theorem ok_is_small_prime (T : Tx K mg) : FnOk P w K mg base CX0 2 (He.fAd K ("is_small_prime", none)) (fdOf K (He.fAd K ("is_small_prime", none))) ["value"] spPrime := by
  refine fok (F_is_small_prime T.c) sc_is_small_prime (fun vs H Q E h => ?_) (fun cdv A outer s H vs Q E hr h => ?_)
  · obtain ⟨p, rfl, _⟩ := h
    rfl
  · obtain ⟨p, rfl, hp, q⟩ := h
    refine ⟨_, pss_one (ps_ret (pe_and (pe_call (ok_is_integer T) hr (by rfl) (T.glo (a_glo_is_integer T.c)) (F_is_integer T.c).kp (B_is_integer T.c) .nil pass0 (pa_cons (pv 0) pa_nil))
      (pe_one (pe_cmpR op_in_seq (pv 0) (pe_glob (v := .ref (He.ga K "PRIMES")) (by rfl) (T.glo (a_glo_PRIMES T.c)) rfl) (by rfl))))), ?_⟩
    refine ⟨_, rfl, .int p, .type "int", true, false, rfl, .base (.int p), by rfl, kit_ty (by decide +kernel), true, rfl, ?_⟩
    refine ⟨_, rfl, He.ga K "PRIMES", primesV, rfl, .inr (He.tupB_ok (x_primes T.x) H), rfl, by decide, ?_⟩
    rw [in_primes hp]
    exact q
def spRinit (K : PySem.W.Frag) : L2.Sp := fun vs H Q _ => ∃ a dx p n, vs = [.ref a, .int p, .int n] ∧ H a = some (.ins (He.ga K "Residue") dx []) ∧ SmP p ∧
  Q .non (upd H a (.ins (He.ga K "Residue") dx [("p", .int p), ("n", .int (n % p))]))
theorem SmP.pos {p : Int} (h : SmP p) : 0 < p := by
  rcases h with e | e | e | e <;> omega
theorem ok_R_init (T : Tx K mg) : FnOk P w K mg base CX0 3 (aR K "__init__") (fdOf K (aR K "__init__")) ["self", "p", "n"] (spRinit K) := by
  refine fok (F_R_init T.c) sc_R_init (fun vs H Q E h => ?_) (fun cdv A outer s H vs Q E hr h => ?_)
  · obtain ⟨a, dx, p, n, rfl, _⟩ := h
    rfl
  · obtain ⟨a, dx, p, n, rfl, ha, hp, q⟩ := h
    have cl : Cls K (He.ga K "Residue") := He.cls_ok (a_cls_Residue T.c)
    refine ⟨_, pss_cons (ps_if (PW.pt (pw_or (pt_not (pt_val (pe_call (ok_is_small_prime T) hr (by rfl) (T.glo (a_glo_is_small_prime T.c)) (F_is_small_prime T.c).kp (B_is_small_prime T.c) .nil pass0 (pa_cons (pv 1) pa_nil))))
        (pw_or1 (pt_not (pt_val (pe_call ((ok_is_integer T).mono (by decide)) hr (by rfl) (T.glo (a_glo_is_integer T.c)) (F_is_integer T.c).kp (B_is_integer T.c) .nil pass0 (pa_cons (pv 2) pa_nil))))))) (pss_one ps_never) pss_nil)
      (pss_cons (ps_fld (pv 0) (pv 1) rfl) (pss_one (ps_fld (pv 0) (pe_op op_mod (pv 2) (pv 1)) rfl))), ?_⟩
    refine ⟨_, rfl, p, rfl, hp, true, rfl, ?_⟩
    refine iteF ⟨_, rfl, .int n, .type "int", true, false, rfl, .base (.int n), by rfl, kit_ty (by decide +kernel), true, rfl, ?_⟩
    refine iteF ?_
    refine ⟨_, rfl, _, rfl, a, _, dx, _, rfl, ha, cl, He.noat_ok (a_noat_Residue_p T.c), by decide, ?_⟩
    refine ⟨_, rfl, _, rfl, n, p, rfl, rfl, hp.pos, _, rfl, a, _, dx, _, rfl, upd_same, cl, He.noat_ok (a_noat_Residue_n T.c), (show (1 : Nat) < 1000 by decide), ?_⟩
    rw [upd_upd]
    exact q
theorem mk_R {p n : Int} {H : Hp} {Q : VK} {E : XK} (hp : SmP p) (k : ∀ v H', Same H H' → (∃ a dx, v = .ref a ∧ H' a = some (.ins (He.ga K "Residue") dx [("p", .int p), ("n", .int (n % p))])) → Q v H') :
    ∀ x dx, H x = none → H dx = none → dx ≠ x → spRinit K (.ref x :: ([.int p, .int n] ++ [])) (upd (upd H dx (.own x)) x (.ins (He.ga K "Residue") dx [])) (fun v H2 => v = .non ∧ Q (.ref x) H2) E := fun x dx h1 h2 h3 =>
  ⟨x, dx, p, n, rfl, upd_same, hp, rfl, k _ _ (made_same h1 h2) ⟨x, dx, rfl, upd_same⟩⟩
end
end K51

set_option Elab.async false
set_option linter.all false
set_option maxRecDepth 100000
set_option maxHeartbeats 4000000
namespace K51
open PySem PySem.Spec PyProof.Rows L2
section
variable {F : Type} [Lean.Grind.CommRing F] [DecidableEq F]
/-- a number of a ground as an object -/
def NumG (K : PySem.W.Frag) (G : Gnd F) (H : Hp) (v : V) (x : F) : Prop := NumAt K G.p H v (G.nm x) (G.dn x)
theorem NumG.mono {K : PySem.W.Frag} {G : Gnd F} {H H' : Hp} {v : V} {x : F} (h : NumG K G H v x) (e : Same H H') : NumG K G H' v x := NumAt.mono h e
def aN (K : PySem.W.Frag) (p : Nat) (m : Str) : Addr := if p = 0 then aQ K m else aR K m
theorem aN_q {K : PySem.W.Frag} {p : Nat} {m : Str} (h : p = 0) : aN K p m = aQ K m := if_pos h
theorem aN_r {K : PySem.W.Frag} {p : Nat} {m : Str} (h : p ≠ 0) : aN K p m = aR K m := if_neg h
theorem cN_q {K : PySem.W.Frag} {p : Nat} (h : p = 0) : cN K p = He.ga K "Ratio" := if_pos h
theorem cN_r {K : PySem.W.Frag} {p : Nat} (h : p ≠ 0) : cN K p = He.ga K "Residue" := if_neg h
theorem flN_q {p : Nat} {n d : Int} (h : p = 0) : flN p n d = ([("n", .int n), ("d", .int d)] : List (Str × V)) := if_pos h
theorem flN_r {p : Nat} {n d : Int} (h : p ≠ 0) : flN p n d = ([("p", .int p), ("n", .int n)] : List (Str × V)) := if_neg h
theorem NumG.q {K : PySem.W.Frag} {G : Gnd F} {H : Hp} {v : V} {x : F} (h : NumG K G H v x) (hp : G.p = 0) : ∃ a dx, v = .ref a ∧ H a = some (.ins (He.ga K "Ratio") dx [("n", .int (G.nm x)), ("d", .int (G.dn x))]) := by
  obtain ⟨a, dx, e, h⟩ := h
  rw [cN_q hp, flN_q hp] at h
  exact ⟨a, dx, e, h⟩
theorem NumG.r {K : PySem.W.Frag} {G : Gnd F} {H : Hp} {v : V} {x : F} (h : NumG K G H v x) (hp : G.p ≠ 0) : ∃ a dx, v = .ref a ∧ H a = some (.ins (He.ga K "Residue") dx [("p", .int G.p), ("n", .int (G.nm x))]) := by
  obtain ⟨a, dx, e, h⟩ := h
  rw [cN_r hp, flN_r hp] at h
  exact ⟨a, dx, e, h⟩
theorem NumG.of_q {K : PySem.W.Frag} {G : Gnd F} {H : Hp} {v : V} {x : F} {n d : Int} (hp : G.p = 0) (h : NumAt K 0 H v n d) (e : (n, d) = (G.nm x, G.dn x)) : NumG K G H v x := by
  injection e with e1 e2
  unfold NumG
  rw [hp, ← e1, ← e2]
  exact h
theorem NumG.of_r {K : PySem.W.Frag} {G : Gnd F} {H : Hp} {v : V} {x : F} {n : Int} (hp : G.p ≠ 0) (h : ∃ a dx, v = .ref a ∧ H a = some (.ins (He.ga K "Residue") dx [("p", .int G.p), ("n", .int n)])) (e : n = G.nm x) : NumG K G H v x := by
  obtain ⟨a, dx, h1, h2⟩ := h
  refine ⟨a, dx, h1, ?_⟩
  rw [cN_r hp, flN_r hp, ← e]
  exact h2
theorem G_smp (G : Gnd F) (hp : G.p ≠ 0) : SmP (G.p : Int) := by
  unfold SmP
  rcases G.hp with e | e | e | e | e <;> omega
theorem two_log {i : Int} {a : Nat} (h : i.natAbs ≤ 2 ^ a) : i.natAbs.log2 ≤ a := by
  by_cases e : i.natAbs = 0
  · rw [e]
    exact Nat.zero_le _
  · have h1 := Nat.log2_self_le e
    by_cases q : i.natAbs.log2 ≤ a
    · exact q
    · have h2 : 2 ^ (a + 1) ≤ 2 ^ i.natAbs.log2 := Nat.pow_le_pow_right (by decide) (by omega)
      rw [Nat.pow_succ] at h2
      have h3 : 0 < 2 ^ a := Nat.two_pow_pos a
      omega
theorem mulW {i j : Int} {a b : Nat} (h1 : i.natAbs ≤ 2 ^ a) (h2 : j.natAbs ≤ 2 ^ b) (h : a + b ≤ 90000) : CMulW i j := by
  have x := two_log h1
  have y := two_log h2
  unfold CMulW
  omega
theorem den_ok {i j : Int} {a b : Nat} (h1 : i.natAbs ≤ 2 ^ a) (h2 : j.natAbs ≤ 2 ^ b) (h : a + b ≤ 8990) : (i * j).natAbs ≤ 2 ^ 8990 := by
  rw [Int.natAbs_mul]
  exact Nat.le_trans (two_mul_le h1 h2) (Nat.pow_le_pow_right (by decide) h)
end
section
variable {P : Program} {w : World} {K : PySem.W.Frag} {mg : Str → Option Value} {base : Heap} {F : Type} [Lean.Grind.CommRing F] [DecidableEq F]
def spBin (K : PySem.W.Frag) (G : Gnd F) (f : F → F → F) : L2.Sp := fun vs H Q _ => ∃ v1 v2 x y b1 b2, vs = [v1, v2] ∧ NumG K G H v1 x ∧ NumG K G H v2 y ∧ bd G b1 b1 x ∧ bd G b2 b2 y ∧ b1 + b2 ≤ 8990 ∧
  ∀ v H', Same H H' → NumG K G H' v (f x y) → Q v H'
theorem rfld {K : PySem.W.Frag} {σ : L2.St} {H : Hp} {Q : VK} {i : Nat} {a C dx : Addr} {fs : List (Str × V)} {f : Str} {v : V} (hσ : σ[i]? = some (some (.ref a))) (ha : H a = some (.ins C dx fs)) (c : Cls K C) (n : NoAttr K C f)
    (hl : fs.lookup f = some v) (q : Q v H) : tFld K (tVar i) f σ H Q := ⟨.ref a, hσ, a, C, dx, fs, v, rfl, ha, c, n, hl, q⟩

theorem ok_add (T : Tx K mg) (G : Gnd F) : FnOk P w K mg base CX0 6 (aN K G.p "__add__") (fdOf K (aN K G.p "__add__")) ["self", "other"] (spBin K G fun x y => x + y) := by
  have hlen : ∀ vs H Q E, spBin K G (fun x y => x + y) vs H Q E → vs.length = ["self", "other"].length := fun vs H Q E h => by
    obtain ⟨v1, v2, x, y, b1, b2, rfl, _⟩ := h
    rfl
  by_cases hp : G.p = 0
  · rw [aN_q hp]
    refine FnOk.mono (j := 3) (fok (F_Q_add T.c) sc_Q_add hlen fun cdv A outer s H vs Q E hr h => ?_) (by decide)
    obtain ⟨v1, v2, x, y, b1, b2, rfl, h1, h2, c1, c2, hb, q⟩ := h
    obtain ⟨a, dx, rfl, ha⟩ := h1.q hp
    obtain ⟨b, dy, rfl, hb'⟩ := h2.q hp
    obtain ⟨c1n, c1d⟩ := c1 hp
    obtain ⟨c2n, c2d⟩ := c2 hp
    have cl : Cls K (He.ga K "Ratio") := He.cls_ok (a_cls_Ratio T.c)
    have nn : NoAttr K (He.ga K "Ratio") "n" := He.noat_ok (a_noat_Ratio_n T.c)
    have nd : NoAttr K (He.ga K "Ratio") "d" := He.noat_ok (a_noat_Ratio_d T.c)
    have dne : G.dn x * G.dn y ≠ 0 := Int.mul_ne_zero (Int.ne_of_gt (G.q0 hp x)) (Int.ne_of_gt (G.q0 hp y))
    refine ⟨_, pss_cons (ps_if (pt_not (pt_val (pe_callB call_isi (by rfl) (T.free (a_free_isinstance T.c)) boot_isi (pa_cons (pv 1) (pa_cons (pe_glob (v := .ref (He.ga K "Ratio")) (by rfl) (T.glo (a_glo_Ratio T.c)) rfl) pa_nil))))) (pss_one ps_never) pss_nil)
      (pss_one (ps_ret (pe_make (He.mkr_ok (a_mkr_Ratio T.c)) (ok_Q_init T) hr (by rfl) (T.glo (a_glo_Ratio T.c)) (B_Q_init T.c) .nil pass0 (pa_cons (pe_op op_add (pe_op op_mulW (pe_fld (pv 0) rfl) (pe_fld (pv 1) rfl)) (pe_op op_mulW (pe_fld (pv 1) rfl) (pe_fld (pv 0) rfl))) (pa_cons (pe_op op_mulW (pe_fld (pv 0) rfl) (pe_fld (pv 1) rfl)) pa_nil))))), ?_⟩
    refine ⟨_, rfl, .ref b, _, _, _, true, rfl, .own _, tyQ T hb', of_decide_eq_true (x_is_Ratio_Ratio T.x), true, rfl, iteF ?_⟩
    refine ⟨_, rfl, a, _, dx, _, _, rfl, ha, cl, nn, rfl, ?_⟩
    refine ⟨_, rfl, b, _, dy, _, _, rfl, hb', cl, nd, rfl, ?_⟩
    refine ⟨_, _, rfl, rfl, mulW c1n c2d (by omega), ?_⟩
    refine ⟨_, rfl, b, _, dy, _, _, rfl, hb', cl, nn, rfl, ?_⟩
    refine ⟨_, rfl, a, _, dx, _, _, rfl, ha, cl, nd, rfl, ?_⟩
    refine ⟨_, _, rfl, rfl, mulW c2n c1d (by omega), ?_⟩
    refine ⟨_, _, rfl, rfl, ?_⟩
    refine ⟨_, rfl, a, _, dx, _, _, rfl, ha, cl, nd, rfl, ?_⟩
    refine ⟨_, rfl, b, _, dy, _, _, rfl, hb', cl, nd, rfl, ?_⟩
    refine ⟨_, _, rfl, rfl, mulW c1d c2d (by omega), ?_⟩
    refine mk_Q (n := G.nm x * G.dn y + G.nm y * G.dn x) (d := G.dn x * G.dn y) dne (den_ok c1d c2d hb) fun v H' e hv => q v H' e (NumG.of_q hp hv ?_)
    have := G.add x y
    rw [hp] at this
    exact this
  · rw [aN_r hp]
    refine FnOk.mono (j := 5) (fok (F_R_add T.c) sc_R_add hlen fun cdv A outer s H vs Q E hr h => ?_) (by decide)
    obtain ⟨v1, v2, x, y, b1, b2, rfl, h1, h2, c1, c2, hb, q⟩ := h
    obtain ⟨a, dx, rfl, ha⟩ := h1.r hp
    obtain ⟨b, dy, rfl, hb'⟩ := h2.r hp
    have cl : Cls K (He.ga K "Residue") := He.cls_ok (a_cls_Residue T.c)
    have nn : NoAttr K (He.ga K "Residue") "n" := He.noat_ok (a_noat_Residue_n T.c)
    have np : NoAttr K (He.ga K "Residue") "p" := He.noat_ok (a_noat_Residue_p T.c)
    refine ⟨_, pss_cons (ps_if (PW.pt (pw_or (pt_not (pt_val (pe_callB call_isi (by rfl) (T.free (a_free_isinstance T.c)) boot_isi (pa_cons (pv 1) (pa_cons (pe_glob (v := .ref (He.ga K "Residue")) (by rfl) (T.glo (a_glo_Residue T.c)) rfl) pa_nil))))) (pw_or1 (pt_cmpR op_ne (pe_fld (pv 0) rfl) (pe_fld (pv 1) rfl) (nomark _))))) (pss_one ps_never) pss_nil)
      (pss_one (ps_ret (pe_make (He.mkr_ok (a_mkr_Residue T.c)) (ok_R_init T) hr (by rfl) (T.glo (a_glo_Residue T.c)) (B_R_init T.c) .nil pass0 (pa_cons (pe_fld (pv 0) rfl) (pa_cons (pe_op op_add (pe_fld (pv 0) rfl) (pe_fld (pv 1) rfl)) pa_nil))))), ?_⟩
    refine ⟨_, rfl, .ref b, _, _, _, true, rfl, .own _, tyR T hb', of_decide_eq_true (x_is_Residue_Residue T.x), true, rfl, iteF ?_⟩
    refine ⟨_, rfl, a, _, dx, _, _, rfl, ha, cl, np, rfl, ?_⟩
    refine ⟨_, rfl, b, _, dy, _, _, rfl, hb', cl, np, rfl, ?_⟩
    refine ⟨rfl, _, rfl, ?_⟩
    rw [decide_eq_true rfl]
    refine iteF ?_
    refine ⟨_, rfl, a, _, dx, _, _, rfl, ha, cl, np, rfl, ?_⟩
    refine ⟨_, rfl, a, _, dx, _, _, rfl, ha, cl, nn, rfl, ?_⟩
    refine ⟨_, rfl, b, _, dy, _, _, rfl, hb', cl, nn, rfl, ?_⟩
    refine ⟨_, _, rfl, rfl, ?_⟩
    refine mk_R (G_smp G hp) fun v H' e hv => q v H' e (NumG.of_r hp hv ?_)
    have e1 := congrArg Prod.fst (G.add x y)
    unfold low at e1
    rw [if_neg hp] at e1
    rw [(G.r0 hp x).1, (G.r0 hp y).1, Int.mul_one, Int.mul_one] at e1
    exact e1
theorem ok_sub (T : Tx K mg) (G : Gnd F) : FnOk P w K mg base CX0 6 (aN K G.p "__sub__") (fdOf K (aN K G.p "__sub__")) ["self", "other"] (spBin K G fun x y => x - y) := by
  have hlen : ∀ vs H Q E, spBin K G (fun x y => x - y) vs H Q E → vs.length = ["self", "other"].length := fun vs H Q E h => by
    obtain ⟨v1, v2, x, y, b1, b2, rfl, _⟩ := h
    rfl
  by_cases hp : G.p = 0
  · rw [aN_q hp]
    refine FnOk.mono (j := 3) (fok (F_Q_sub T.c) sc_Q_sub hlen fun cdv A outer s H vs Q E hr h => ?_) (by decide)
    obtain ⟨v1, v2, x, y, b1, b2, rfl, h1, h2, c1, c2, hb, q⟩ := h
    obtain ⟨a, dx, rfl, ha⟩ := h1.q hp
    obtain ⟨b, dy, rfl, hb'⟩ := h2.q hp
    obtain ⟨c1n, c1d⟩ := c1 hp
    obtain ⟨c2n, c2d⟩ := c2 hp
    have cl : Cls K (He.ga K "Ratio") := He.cls_ok (a_cls_Ratio T.c)
    have nn : NoAttr K (He.ga K "Ratio") "n" := He.noat_ok (a_noat_Ratio_n T.c)
    have nd : NoAttr K (He.ga K "Ratio") "d" := He.noat_ok (a_noat_Ratio_d T.c)
    have dne : G.dn x * G.dn y ≠ 0 := Int.mul_ne_zero (Int.ne_of_gt (G.q0 hp x)) (Int.ne_of_gt (G.q0 hp y))
    refine ⟨_, pss_cons (ps_if (pt_not (pt_val (pe_callB call_isi (by rfl) (T.free (a_free_isinstance T.c)) boot_isi (pa_cons (pv 1) (pa_cons (pe_glob (v := .ref (He.ga K "Ratio")) (by rfl) (T.glo (a_glo_Ratio T.c)) rfl) pa_nil))))) (pss_one ps_never) pss_nil)
      (pss_one (ps_ret (pe_make (He.mkr_ok (a_mkr_Ratio T.c)) (ok_Q_init T) hr (by rfl) (T.glo (a_glo_Ratio T.c)) (B_Q_init T.c) .nil pass0 (pa_cons (pe_op op_sub (pe_op op_mulW (pe_fld (pv 0) rfl) (pe_fld (pv 1) rfl)) (pe_op op_mulW (pe_fld (pv 1) rfl) (pe_fld (pv 0) rfl))) (pa_cons (pe_op op_mulW (pe_fld (pv 0) rfl) (pe_fld (pv 1) rfl)) pa_nil))))), ?_⟩
    refine ⟨_, rfl, .ref b, _, _, _, true, rfl, .own _, tyQ T hb', of_decide_eq_true (x_is_Ratio_Ratio T.x), true, rfl, iteF ?_⟩
    refine ⟨_, rfl, a, _, dx, _, _, rfl, ha, cl, nn, rfl, ?_⟩
    refine ⟨_, rfl, b, _, dy, _, _, rfl, hb', cl, nd, rfl, ?_⟩
    refine ⟨_, _, rfl, rfl, mulW c1n c2d (by omega), ?_⟩
    refine ⟨_, rfl, b, _, dy, _, _, rfl, hb', cl, nn, rfl, ?_⟩
    refine ⟨_, rfl, a, _, dx, _, _, rfl, ha, cl, nd, rfl, ?_⟩
    refine ⟨_, _, rfl, rfl, mulW c2n c1d (by omega), ?_⟩
    refine ⟨_, _, rfl, rfl, ?_⟩
    refine ⟨_, rfl, a, _, dx, _, _, rfl, ha, cl, nd, rfl, ?_⟩
    refine ⟨_, rfl, b, _, dy, _, _, rfl, hb', cl, nd, rfl, ?_⟩
    refine ⟨_, _, rfl, rfl, mulW c1d c2d (by omega), ?_⟩
    refine mk_Q (n := G.nm x * G.dn y - G.nm y * G.dn x) (d := G.dn x * G.dn y) dne (den_ok c1d c2d hb) fun v H' e hv => q v H' e (NumG.of_q hp hv ?_)
    have := G.sub x y
    rw [hp] at this
    exact this
  · rw [aN_r hp]
    refine FnOk.mono (j := 5) (fok (F_R_sub T.c) sc_R_sub hlen fun cdv A outer s H vs Q E hr h => ?_) (by decide)
    obtain ⟨v1, v2, x, y, b1, b2, rfl, h1, h2, c1, c2, hb, q⟩ := h
    obtain ⟨a, dx, rfl, ha⟩ := h1.r hp
    obtain ⟨b, dy, rfl, hb'⟩ := h2.r hp
    have cl : Cls K (He.ga K "Residue") := He.cls_ok (a_cls_Residue T.c)
    have nn : NoAttr K (He.ga K "Residue") "n" := He.noat_ok (a_noat_Residue_n T.c)
    have np : NoAttr K (He.ga K "Residue") "p" := He.noat_ok (a_noat_Residue_p T.c)
    refine ⟨_, pss_cons (ps_if (PW.pt (pw_or (pt_not (pt_val (pe_callB call_isi (by rfl) (T.free (a_free_isinstance T.c)) boot_isi (pa_cons (pv 1) (pa_cons (pe_glob (v := .ref (He.ga K "Residue")) (by rfl) (T.glo (a_glo_Residue T.c)) rfl) pa_nil))))) (pw_or1 (pt_cmpR op_ne (pe_fld (pv 0) rfl) (pe_fld (pv 1) rfl) (nomark _))))) (pss_one ps_never) pss_nil)
      (pss_one (ps_ret (pe_make (He.mkr_ok (a_mkr_Residue T.c)) (ok_R_init T) hr (by rfl) (T.glo (a_glo_Residue T.c)) (B_R_init T.c) .nil pass0 (pa_cons (pe_fld (pv 0) rfl) (pa_cons (pe_op op_sub (pe_fld (pv 0) rfl) (pe_fld (pv 1) rfl)) pa_nil))))), ?_⟩
    refine ⟨_, rfl, .ref b, _, _, _, true, rfl, .own _, tyR T hb', of_decide_eq_true (x_is_Residue_Residue T.x), true, rfl, iteF ?_⟩
    refine ⟨_, rfl, a, _, dx, _, _, rfl, ha, cl, np, rfl, ?_⟩
    refine ⟨_, rfl, b, _, dy, _, _, rfl, hb', cl, np, rfl, ?_⟩
    refine ⟨rfl, _, rfl, ?_⟩
    rw [decide_eq_true rfl]
    refine iteF ?_
    refine ⟨_, rfl, a, _, dx, _, _, rfl, ha, cl, np, rfl, ?_⟩
    refine ⟨_, rfl, a, _, dx, _, _, rfl, ha, cl, nn, rfl, ?_⟩
    refine ⟨_, rfl, b, _, dy, _, _, rfl, hb', cl, nn, rfl, ?_⟩
    refine ⟨_, _, rfl, rfl, ?_⟩
    refine mk_R (G_smp G hp) fun v H' e hv => q v H' e (NumG.of_r hp hv ?_)
    have e1 := congrArg Prod.fst (G.sub x y)
    unfold low at e1
    rw [if_neg hp] at e1
    rw [(G.r0 hp x).1, (G.r0 hp y).1, Int.mul_one, Int.mul_one] at e1
    exact e1
theorem ok_mul (T : Tx K mg) (G : Gnd F) : FnOk P w K mg base CX0 6 (aN K G.p "__mul__") (fdOf K (aN K G.p "__mul__")) ["self", "other"] (spBin K G fun x y => x * y) := by
  have hlen : ∀ vs H Q E, spBin K G (fun x y => x * y) vs H Q E → vs.length = ["self", "other"].length := fun vs H Q E h => by
    obtain ⟨v1, v2, x, y, b1, b2, rfl, _⟩ := h
    rfl
  by_cases hp : G.p = 0
  · rw [aN_q hp]
    refine FnOk.mono (j := 3) (fok (F_Q_mul T.c) sc_Q_mul hlen fun cdv A outer s H vs Q E hr h => ?_) (by decide)
    obtain ⟨v1, v2, x, y, b1, b2, rfl, h1, h2, c1, c2, hb, q⟩ := h
    obtain ⟨a, dx, rfl, ha⟩ := h1.q hp
    obtain ⟨b, dy, rfl, hb'⟩ := h2.q hp
    obtain ⟨c1n, c1d⟩ := c1 hp
    obtain ⟨c2n, c2d⟩ := c2 hp
    have cl : Cls K (He.ga K "Ratio") := He.cls_ok (a_cls_Ratio T.c)
    have nn : NoAttr K (He.ga K "Ratio") "n" := He.noat_ok (a_noat_Ratio_n T.c)
    have nd : NoAttr K (He.ga K "Ratio") "d" := He.noat_ok (a_noat_Ratio_d T.c)
    have dne : G.dn x * G.dn y ≠ 0 := Int.mul_ne_zero (Int.ne_of_gt (G.q0 hp x)) (Int.ne_of_gt (G.q0 hp y))
    refine ⟨_, pss_cons (ps_if (pt_not (pt_val (pe_callB call_isi (by rfl) (T.free (a_free_isinstance T.c)) boot_isi (pa_cons (pv 1) (pa_cons (pe_glob (v := .ref (He.ga K "Ratio")) (by rfl) (T.glo (a_glo_Ratio T.c)) rfl) pa_nil))))) (pss_one ps_never) pss_nil)
      (pss_one (ps_ret (pe_make (He.mkr_ok (a_mkr_Ratio T.c)) (ok_Q_init T) hr (by rfl) (T.glo (a_glo_Ratio T.c)) (B_Q_init T.c) .nil pass0 (pa_cons (pe_op op_mulW (pe_fld (pv 0) rfl) (pe_fld (pv 1) rfl)) (pa_cons (pe_op op_mulW (pe_fld (pv 0) rfl) (pe_fld (pv 1) rfl)) pa_nil))))), ?_⟩
    refine ⟨_, rfl, .ref b, _, _, _, true, rfl, .own _, tyQ T hb', of_decide_eq_true (x_is_Ratio_Ratio T.x), true, rfl, iteF ?_⟩
    refine ⟨_, rfl, a, _, dx, _, _, rfl, ha, cl, nn, rfl, ?_⟩
    refine ⟨_, rfl, b, _, dy, _, _, rfl, hb', cl, nn, rfl, ?_⟩
    refine ⟨_, _, rfl, rfl, mulW c1n c2n (by omega), ?_⟩
    refine ⟨_, rfl, a, _, dx, _, _, rfl, ha, cl, nd, rfl, ?_⟩
    refine ⟨_, rfl, b, _, dy, _, _, rfl, hb', cl, nd, rfl, ?_⟩
    refine ⟨_, _, rfl, rfl, mulW c1d c2d (by omega), ?_⟩
    refine mk_Q (n := G.nm x * G.nm y) (d := G.dn x * G.dn y) dne (den_ok c1d c2d hb) fun v H' e hv => q v H' e (NumG.of_q hp hv ?_)
    have := G.mul x y
    rw [hp] at this
    exact this
  · rw [aN_r hp]
    refine FnOk.mono (j := 5) (fok (F_R_mul T.c) sc_R_mul hlen fun cdv A outer s H vs Q E hr h => ?_) (by decide)
    obtain ⟨v1, v2, x, y, b1, b2, rfl, h1, h2, c1, c2, hb, q⟩ := h
    obtain ⟨a, dx, rfl, ha⟩ := h1.r hp
    obtain ⟨b, dy, rfl, hb'⟩ := h2.r hp
    have cl : Cls K (He.ga K "Residue") := He.cls_ok (a_cls_Residue T.c)
    have nn : NoAttr K (He.ga K "Residue") "n" := He.noat_ok (a_noat_Residue_n T.c)
    have np : NoAttr K (He.ga K "Residue") "p" := He.noat_ok (a_noat_Residue_p T.c)
    refine ⟨_, pss_cons (ps_if (PW.pt (pw_or (pt_not (pt_val (pe_callB call_isi (by rfl) (T.free (a_free_isinstance T.c)) boot_isi (pa_cons (pv 1) (pa_cons (pe_glob (v := .ref (He.ga K "Residue")) (by rfl) (T.glo (a_glo_Residue T.c)) rfl) pa_nil))))) (pw_or1 (pt_cmpR op_ne (pe_fld (pv 0) rfl) (pe_fld (pv 1) rfl) (nomark _))))) (pss_one ps_never) pss_nil)
      (pss_one (ps_ret (pe_make (He.mkr_ok (a_mkr_Residue T.c)) (ok_R_init T) hr (by rfl) (T.glo (a_glo_Residue T.c)) (B_R_init T.c) .nil pass0 (pa_cons (pe_fld (pv 0) rfl) (pa_cons (pe_op op_mulW (pe_fld (pv 0) rfl) (pe_fld (pv 1) rfl)) pa_nil))))), ?_⟩
    refine ⟨_, rfl, .ref b, _, _, _, true, rfl, .own _, tyR T hb', of_decide_eq_true (x_is_Residue_Residue T.x), true, rfl, iteF ?_⟩
    refine ⟨_, rfl, a, _, dx, _, _, rfl, ha, cl, np, rfl, ?_⟩
    refine ⟨_, rfl, b, _, dy, _, _, rfl, hb', cl, np, rfl, ?_⟩
    refine ⟨rfl, _, rfl, ?_⟩
    rw [decide_eq_true rfl]
    refine iteF ?_
    refine ⟨_, rfl, a, _, dx, _, _, rfl, ha, cl, np, rfl, ?_⟩
    obtain ⟨_, r1, r2⟩ := G.r0 hp x
    obtain ⟨_, r3, r4⟩ := G.r0 hp y
    have hp7 : G.p ≤ 7 := by
      rcases G.hp with e | e | e | e | e <;> omega
    refine ⟨_, rfl, a, _, dx, _, _, rfl, ha, cl, nn, rfl, ?_⟩
    refine ⟨_, rfl, b, _, dy, _, _, rfl, hb', cl, nn, rfl, ?_⟩
    refine ⟨_, _, rfl, rfl, mulW (a := 3) (b := 3) (by omega) (by omega) (by decide), ?_⟩
    refine mk_R (G_smp G hp) fun v H' e hv => q v H' e (NumG.of_r hp hv ?_)
    have e1 := congrArg Prod.fst (G.mul x y)
    unfold low at e1
    rw [if_neg hp] at e1
    exact e1
end
end K51

set_option Elab.async false
set_option linter.all false
set_option maxRecDepth 100000
set_option maxHeartbeats 4000000
namespace K51
open PySem PySem.Spec PyProof.Rows L2
section
variable {P : Program} {w : World} {K : PySem.W.Frag} {mg : Str → Option Value} {base : Heap} {F : Type} [Lean.Grind.CommRing F] [DecidableEq F]
def spUn (K : PySem.W.Frag) (G : Gnd F) (ok : F → Prop) (f : F → F) : L2.Sp := fun vs H Q _ => ∃ v1 x b, vs = [v1] ∧ NumG K G H v1 x ∧ bd G b b x ∧ b ≤ 8990 ∧ ok x ∧
  ∀ v H', Same H H' → NumG K G H' v (f x) → Q v H'
theorem le_8990 {d : Int} {b : Nat} (h : d.natAbs ≤ 2 ^ b) (hb : b ≤ 8990) : d.natAbs ≤ 2 ^ 8990 := Nat.le_trans h (Nat.pow_le_pow_right (by decide) hb)
theorem ok_neg (T : Tx K mg) (G : Gnd F) : FnOk P w K mg base CX0 6 (aN K G.p "__neg__") (fdOf K (aN K G.p "__neg__")) ["self"] (spUn K G (fun _ => True) fun x => -x) := by
  have hlen : ∀ vs H Q E, spUn K G (fun _ => True) (fun x => -x) vs H Q E → vs.length = ["self"].length := fun vs H Q E h => by
    obtain ⟨v1, x, b, rfl, _⟩ := h
    rfl
  by_cases hp : G.p = 0
  · rw [aN_q hp]
    refine FnOk.mono (j := 3) (fok (F_Q_neg T.c) sc_Q_neg hlen fun cdv A outer s H vs Q E hr h => ?_) (by decide)
    obtain ⟨v1, x, b, rfl, h1, c1, hb, _, q⟩ := h
    obtain ⟨a, dx, rfl, ha⟩ := h1.q hp
    have cl : Cls K (He.ga K "Ratio") := He.cls_ok (a_cls_Ratio T.c)
    refine ⟨_, pss_one (ps_ret (pe_make (He.mkr_ok (a_mkr_Ratio T.c)) (ok_Q_init T) hr (by rfl) (T.glo (a_glo_Ratio T.c)) (B_Q_init T.c) .nil pass0 (pa_cons (pe_un un_neg (pe_fld (pv 0) rfl)) (pa_cons (pe_fld (pv 0) rfl) pa_nil)))), ?_⟩
    refine ⟨_, rfl, a, _, dx, _, _, rfl, ha, cl, He.noat_ok (a_noat_Ratio_n T.c), rfl, _, rfl, ?_⟩
    refine ⟨_, rfl, a, _, dx, _, _, rfl, ha, cl, He.noat_ok (a_noat_Ratio_d T.c), rfl, ?_⟩
    refine mk_Q (n := -G.nm x) (d := G.dn x) (Int.ne_of_gt (G.q0 hp x)) (le_8990 (c1 hp).2 hb) fun v H' e hv => q v H' e (NumG.of_q hp hv ?_)
    have := G.neg x
    rw [hp] at this
    exact this
  · rw [aN_r hp]
    refine FnOk.mono (j := 5) (fok (F_R_neg T.c) sc_R_neg hlen fun cdv A outer s H vs Q E hr h => ?_) (by decide)
    obtain ⟨v1, x, b, rfl, h1, c1, hb, _, q⟩ := h
    obtain ⟨a, dx, rfl, ha⟩ := h1.r hp
    have cl : Cls K (He.ga K "Residue") := He.cls_ok (a_cls_Residue T.c)
    refine ⟨_, pss_one (ps_ret (pe_make (He.mkr_ok (a_mkr_Residue T.c)) (ok_R_init T) hr (by rfl) (T.glo (a_glo_Residue T.c)) (B_R_init T.c) .nil pass0 (pa_cons (pe_fld (pv 0) rfl) (pa_cons (pe_un un_neg (pe_fld (pv 0) rfl)) pa_nil)))), ?_⟩
    refine ⟨_, rfl, a, _, dx, _, _, rfl, ha, cl, He.noat_ok (a_noat_Residue_p T.c), rfl, ?_⟩
    refine ⟨_, rfl, a, _, dx, _, _, rfl, ha, cl, He.noat_ok (a_noat_Residue_n T.c), rfl, _, rfl, ?_⟩
    refine mk_R (G_smp G hp) fun v H' e hv => q v H' e (NumG.of_r hp hv ?_)
    have e1 := congrArg Prod.fst (G.neg x)
    unfold low at e1
    rw [if_neg hp] at e1
    exact e1
def spZero (K : PySem.W.Frag) (G : Gnd F) : L2.Sp := fun vs H Q _ => ∃ v1 x, vs = [v1] ∧ NumG K G H v1 x ∧ Q (.bl (decide (x = 0))) H
theorem zero_dec (G : Gnd F) (x : F) : decide (V.int (G.nm x) = V.int 0) = decide (x = 0) := by
  rw [Bool.eq_iff_iff]
  simp [G.zero]
theorem ok_is_zero (T : Tx K mg) (G : Gnd F) : FnOk P w K mg base CX0 1 (aN K G.p "is_zero") (fdOf K (aN K G.p "is_zero")) ["self"] (spZero K G) := by
  have hlen : ∀ vs H Q E, spZero K G vs H Q E → vs.length = ["self"].length := fun vs H Q E h => by
    obtain ⟨v1, x, rfl, _⟩ := h
    rfl
  by_cases hp : G.p = 0
  · rw [aN_q hp]
    refine fok (F_Q_is_zero T.c) sc_Q_is_zero hlen fun cdv A outer s H vs Q E hr h => ?_
    obtain ⟨v1, x, rfl, h1, q⟩ := h
    obtain ⟨a, dx, rfl, ha⟩ := h1.q hp
    refine ⟨_, pss_one (ps_ret (pe_cmpR op_eq (pe_fld (pv 0) rfl) pe_int (nomark _))), ?_⟩
    refine ⟨_, rfl, a, _, dx, _, _, rfl, ha, He.cls_ok (a_cls_Ratio T.c), He.noat_ok (a_noat_Ratio_n T.c), rfl, rfl, ?_⟩
    rw [zero_dec]
    exact q
  · rw [aN_r hp]
    refine fok (F_R_is_zero T.c) sc_R_is_zero hlen fun cdv A outer s H vs Q E hr h => ?_
    obtain ⟨v1, x, rfl, h1, q⟩ := h
    obtain ⟨a, dx, rfl, ha⟩ := h1.r hp
    refine ⟨_, pss_one (ps_ret (pe_cmpR op_eq (pe_fld (pv 0) rfl) pe_int (nomark _))), ?_⟩
    refine ⟨_, rfl, a, _, dx, _, _, rfl, ha, He.cls_ok (a_cls_Residue T.c), He.noat_ok (a_noat_Residue_n T.c), rfl, rfl, ?_⟩
    rw [zero_dec]
    exact q
/-- n^i mod p -/
theorem pow_step (n p : Int) (i : Nat) : ((n ^ i) % p * n) % p = (n ^ (i + 1)) % p := by
  rw [Int.pow_succ, Int.mul_emod, Int.emod_emod, ← Int.mul_emod]
theorem ok_inverse (T : Tx K mg) (G : Gnd F) : FnOk P w K mg base CX0 6 (aN K G.p "inverse") (fdOf K (aN K G.p "inverse")) ["self"] (spUn K G (fun x => x ≠ 0) G.inv) := by
  have hlen : ∀ vs H Q E, spUn K G (fun x => x ≠ 0) G.inv vs H Q E → vs.length = ["self"].length := fun vs H Q E h => by
    obtain ⟨v1, x, b, rfl, _⟩ := h
    rfl
  by_cases hp : G.p = 0
  · rw [aN_q hp]
    refine FnOk.mono (j := 3) (fok (F_Q_inverse T.c) sc_Q_inverse hlen fun cdv A outer s H vs Q E hr h => ?_) (by decide)
    obtain ⟨v1, x, b, rfl, h1, c1, hb, hx, q⟩ := h
    obtain ⟨a, dx, rfl, ha⟩ := h1.q hp
    have cl : Cls K (He.ga K "Ratio") := He.cls_ok (a_cls_Ratio T.c)
    refine ⟨_, pss_one (ps_ret (pe_make (He.mkr_ok (a_mkr_Ratio T.c)) (ok_Q_init T) hr (by rfl) (T.glo (a_glo_Ratio T.c)) (B_Q_init T.c) .nil pass0 (pa_cons (pe_fld (pv 0) rfl) (pa_cons (pe_fld (pv 0) rfl) pa_nil)))), ?_⟩
    refine ⟨_, rfl, a, _, dx, _, _, rfl, ha, cl, He.noat_ok (a_noat_Ratio_d T.c), rfl, ?_⟩
    refine ⟨_, rfl, a, _, dx, _, _, rfl, ha, cl, He.noat_ok (a_noat_Ratio_n T.c), rfl, ?_⟩
    exact mk_Q (n := G.dn x) (d := G.nm x) (fun e => hx ((G.zero x).mp e)) (le_8990 (c1 hp).1 hb) fun v H' e hv => q v H' e (NumG.of_q hp hv (G.inv0 hp x hx))
  · rw [aN_r hp]
    refine FnOk.mono (j := 5) (fok (F_R_inverse T.c) sc_R_inverse hlen fun cdv A outer s H vs Q E hr h => ?_) (by decide)
    obtain ⟨v1, x, b, rfl, h1, c1, hb, hx, q⟩ := h
    obtain ⟨a, dx, rfl, ha⟩ := h1.r hp
    have cl : Cls K (He.ga K "Residue") := He.cls_ok (a_cls_Residue T.c)
    have nn : NoAttr K (He.ga K "Residue") "n" := He.noat_ok (a_noat_Residue_n T.c)
    have np : NoAttr K (He.ga K "Residue") "p" := He.noat_ok (a_noat_Residue_p T.c)
    have sp := G_smp G hp
    have hp7 : 2 ≤ G.p ∧ G.p ≤ 7 := by
      rcases G.hp with e | e | e | e | e <;> omega
    refine ⟨_, pss_cons (ps_if (pt_cmpR op_eq (pe_fld (pv 0) rfl) pe_int (nomark _)) (pss_one ps_never) pss_nil)
      (pss_cons (ps_set (i := 1) sc_R_inverse.nd rfl (.inl rfl) pe_int)
      (pss_cons (ps_for PassesOwn.never rfl (pi_range1 (by rfl) (T.free (a_free_range T.c)) (pa_cons (pe_op op_sub (pe_fld (pv 0) rfl) pe_int) pa_nil)) (pg_name (i := 2) sc_R_inverse.nd rfl (.inl rfl))
        (pss_one (ps_set (i := 1) sc_R_inverse.nd rfl (.inl rfl) (pe_op op_mod (pe_op op_mulW (pv 1) (pe_fld (pv 0) rfl)) (pe_fld (pv 0) rfl)))))
      (pss_one (ps_ret (pe_make (He.mkr_ok (a_mkr_Residue T.c)) (ok_R_init T) hr (by rfl) (T.glo (a_glo_Residue T.c)) (B_R_init T.c) .nil pass0 (pa_cons (pe_fld (pv 0) rfl) (pa_cons (pv 1) pa_nil))))))), ?_⟩
    refine ⟨_, rfl, a, _, dx, _, _, rfl, ha, cl, nn, rfl, rfl, _, rfl, ?_⟩
    rw [zero_dec, decide_eq_false hx]
    refine iteF ?_
    refine ⟨_, rfl, a, _, dx, _, _, rfl, ha, cl, np, rfl, _, _, rfl, rfl, _, rfl, by omega, by omega, ?_⟩
    obtain ⟨_, r1, r2⟩ := G.r0 hp x
    refine for_range (lo := 0) (n := ((G.p : Int) - 2).toNat) (fun i σ H' => H' = H ∧ ∃ y, σ = [some (.ref a), some (.int (G.nm x ^ i % (G.p : Int))), y]) ⟨rfl, none, ?_⟩ (fun i σ H' hi hP => ?_) fun σ H' hP => ?_
    · rw [Int.pow_zero, Int.emod_eq_of_lt (by decide) (by omega)]
      rfl
    · obtain ⟨rfl, y, rfl⟩ := hP
      have b0 : 0 ≤ G.nm x ^ i % (G.p : Int) := Int.emod_nonneg _ (by omega)
      have b1 : G.nm x ^ i % (G.p : Int) < G.p := Int.emod_lt_of_pos _ (by omega)
      refine ⟨_, rfl, _, rfl, a, _, dx, _, _, rfl, ha, cl, nn, rfl, _, _, rfl, rfl, mulW (a := 3) (b := 3) (by omega) (by omega) (by decide), ?_⟩
      refine ⟨_, rfl, a, _, dx, _, _, rfl, ha, cl, np, rfl, _, _, rfl, rfl, sp.pos, rfl, some (.int ((0 : Int) + i)), ?_⟩
      rw [← pow_step]
      rfl
    · obtain ⟨rfl, y, rfl⟩ := hP
      refine ⟨_, rfl, a, _, dx, _, _, rfl, ha, cl, np, rfl, _, rfl, ?_⟩
      refine mk_R sp fun v H' e hv => q v H' e (NumG.of_r hp hv ?_)
      have e1 := G.invp hp x hx
      rw [show ((G.p : Int) - 2).toNat = G.p - 2 by omega, Int.emod_emod, e1]
def MethN (K : PySem.W.Frag) (p : Nat) (m : Str) : Prop := Meth K (cN K p) m (aN K p m)
theorem methN {p : Nat} {m : Str} (h1 : (He.Fa.meth "Ratio" m).ok K = true) (h2 : (He.Fa.meth "Residue" m).ok K = true) : MethN K p m := by
  unfold MethN
  by_cases hp : p = 0
  · rw [cN_q hp, aN_q hp]
    exact He.meth_ok h1
  · rw [cN_r hp, aN_r hp]
    exact He.meth_ok h2
theorem clsN (T : Tx K mg) (p : Nat) : Cls K (cN K p) := by
  by_cases hp : p = 0
  · rw [cN_q hp]
    exact He.cls_ok (a_cls_Ratio T.c)
  · rw [cN_r hp]
    exact He.cls_ok (a_cls_Residue T.c)
theorem firstN (T : Tx K mg) (p : Nat) : PySem.W.selfFirst K (cN K p) = true := by
  by_cases hp : p = 0
  · rw [cN_q hp]
    exact x_first_Ratio T.x
  · rw [cN_r hp]
    exact x_first_Residue T.x
theorem bindN {p : Nat} {m : Str} {ps : List Str} (h1 : Binds K (fdOf K (aQ K m)) ps []) (h2 : Binds K (fdOf K (aR K m)) ps []) : Binds K (fdOf K (aN K p m)) ps [] := by
  by_cases hp : p = 0
  · rw [aN_q hp]
    exact h1
  · rw [aN_r hp]
    exact h2
/-- the operators of numbers -/
theorem opN_add {X : Cx} (T : Tx X.K X.mg) (G : Gnd F) (hr : Room 6 X.A) : OpR X (binaryOp .Add) (rOwn (cN X.K G.p) (spBin X.K G fun x y => x + y)) :=
  have m := methN (K := X.K) (p := G.p) (a_meth_Q_add T.c) (a_meth_R_add T.c)
  op_own (ok_add T G) hr (firstN T _) m.at_ m.fn (bindN (B_Q_add T.c) (B_R_add T.c))
theorem opN_sub {X : Cx} (T : Tx X.K X.mg) (G : Gnd F) (hr : Room 6 X.A) : OpR X (binaryOp .Sub) (rOwn (cN X.K G.p) (spBin X.K G fun x y => x - y)) :=
  have m := methN (K := X.K) (p := G.p) (a_meth_Q_sub T.c) (a_meth_R_sub T.c)
  op_own (ok_sub T G) hr (firstN T _) m.at_ m.fn (bindN (B_Q_sub T.c) (B_R_sub T.c))
theorem opN_mul {X : Cx} (T : Tx X.K X.mg) (G : Gnd F) (hr : Room 6 X.A) : OpR X (binaryOp .Mult) (rOwn (cN X.K G.p) (spBin X.K G fun x y => x * y)) :=
  have m := methN (K := X.K) (p := G.p) (a_meth_Q_mul T.c) (a_meth_R_mul T.c)
  op_own (ok_mul T G) hr (firstN T _) m.at_ m.fn (bindN (B_Q_mul T.c) (B_R_mul T.c))
theorem unN_neg {X : Cx} (T : Tx X.K X.mg) (G : Gnd F) (hr : Room 6 X.A) : UnR X (unaryOp .USub) (rOwn1 (cN X.K G.p) (spUn X.K G (fun _ => True) fun x => -x)) :=
  have m := methN (K := X.K) (p := G.p) (a_meth_Q_neg T.c) (a_meth_R_neg T.c)
  un_own (ok_neg T G) hr m.at_ m.fn (bindN (B_Q_neg T.c) (B_R_neg T.c))
end
end K51

set_option Elab.async false
set_option linter.all false
set_option maxRecDepth 100000
set_option maxHeartbeats 4000000
namespace K51
open PySem PySem.Spec PyProof.Rows L2
section
variable {P : Program} {w : World} {K : PySem.W.Frag} {mg : Str → Option Value} {base : Heap} {F : Type} [Lean.Grind.CommRing F] [DecidableEq F]
def spOver (K : PySem.W.Frag) (G : Gnd F) : L2.Sp := fun vs H Q _ => ∃ v1 v2 x y b1 b2, vs = [v1, v2] ∧ NumG K G H v1 x ∧ NumG K G H v2 y ∧ bd G b1 b1 x ∧ bd G b2 b2 y ∧ b1 + b2 ≤ 8990 ∧ y ≠ 0 ∧
  ∀ v H', Same H H' → NumG K G H' v (x * G.inv y) → Q v H'
theorem ok_over (T : Tx K mg) (G : Gnd F) : FnOk P w K mg base CX0 7 (aN K G.p "over") (fdOf K (aN K G.p "over")) ["self", "other"] (spOver K G) := by
  have hlen : ∀ vs H Q E, spOver K G vs H Q E → vs.length = ["self", "other"].length := fun vs H Q E h => by
    obtain ⟨v1, v2, x, y, b1, b2, rfl, _⟩ := h
    rfl
  have mi := methN (K := K) (p := G.p) (a_meth_Q_inverse T.c) (a_meth_R_inverse T.c)
  have bi := bindN (K := K) (p := G.p) (B_Q_inverse T.c) (B_R_inverse T.c)
  by_cases hp : G.p = 0
  · rw [aN_q hp]
    refine fok (F_Q_over T.c) sc_Q_over hlen fun cdv A outer s H vs Q E hr h => ?_
    obtain ⟨v1, v2, x, y, b1, b2, rfl, h1, h2, c1, c2, hb, hy, q⟩ := h
    obtain ⟨a, dx, rfl, ha⟩ := id h1
    obtain ⟨b, dy, rfl, hb'⟩ := id h2
    refine ⟨_, pss_one (ps_ret (pe_op (opN_mul T G hr) (pv 0) (pe_meth0 (pv 1) (clsN T G.p) mi (ok_inverse T G) hr bi .nil pass0))), ?_⟩
    refine ⟨_, rfl, .ref b, rfl, b, dy, _, rfl, hb', by rw [flN_q hp]; rfl, ?_⟩
    refine ⟨.ref b, y, b2, rfl, h2, c2, by omega, hy, fun v H' e hv => ?_⟩
    obtain ⟨c, dz, rfl, hc⟩ := id hv
    exact ⟨a, c, dx, dz, _, _, rfl, rfl, e _ _ ha, hc, _, _, x, G.inv y, b1, b2, rfl, h1.mono e, hv, c1, bd_inv hy c2, hb, fun v2 H2 e2 h => q v2 H2 (e.trans e2) h⟩
  · rw [aN_r hp]
    refine fok (F_R_over T.c) sc_R_over hlen fun cdv A outer s H vs Q E hr h => ?_
    obtain ⟨v1, v2, x, y, b1, b2, rfl, h1, h2, c1, c2, hb, hy, q⟩ := h
    obtain ⟨a, dx, rfl, ha⟩ := id h1
    obtain ⟨b, dy, rfl, hb'⟩ := id h2
    refine ⟨_, pss_one (ps_ret (pe_op (opN_mul T G hr) (pv 0) (pe_meth0 (pv 1) (clsN T G.p) mi (ok_inverse T G) hr bi .nil pass0))), ?_⟩
    refine ⟨_, rfl, .ref b, rfl, b, dy, _, rfl, hb', by rw [flN_r hp]; rfl, ?_⟩
    refine ⟨.ref b, y, b2, rfl, h2, c2, by omega, hy, fun v H' e hv => ?_⟩
    obtain ⟨c, dz, rfl, hc⟩ := id hv
    exact ⟨a, c, dx, dz, _, _, rfl, rfl, e _ _ ha, hc, _, _, x, G.inv y, b1, b2, rfl, h1.mono e, hv, c1, bd_inv hy c2, hb, fun v2 H2 e2 h => q v2 H2 (e.trans e2) h⟩
/-- == of a number and anything: what is no number of its class is unlike -/
def spEqA (K : PySem.W.Frag) (p : Nat) : L2.Sp := fun vs H Q E => spEqN K p vs H Q E ∨ ∃ x y t, vs = [x, y] ∧ TyX K H y t ∧ PySem.W.kitOne K t (.ref (cN K p)) = some false ∧ Q (.bl false) H
theorem ok_eq (T : Tx K mg) (p : Nat) : FnOk P w K mg base CX0 1 (aN K p "__eq__") (fdOf K (aN K p "__eq__")) ["self", "other"] (spEqA K p) := by
  have hlen : ∀ vs H Q E, spEqA K p vs H Q E → vs.length = ["self", "other"].length := fun vs H Q E h => by
    rcases h with h | h
    · obtain ⟨x, y, _, _, _, _, rfl, _⟩ := h
      rfl
    · obtain ⟨x, y, t, rfl, _⟩ := h
      rfl
  by_cases hp : p = 0
  · subst hp
    refine fok (F_Q_eq T.c) sc_Q_eq hlen fun cdv A outer s H vs Q E hr h => ?_
    refine ⟨_, pss_one (ps_ret (pe_and (pe_callB call_isi (by rfl) (T.free (a_free_isinstance T.c)) boot_isi (pa_cons (pv 1) (pa_cons (pe_glob (v := .ref (He.ga K "Ratio")) (by rfl) (T.glo (a_glo_Ratio T.c)) rfl) pa_nil)))
      (pe_and (pe_cmpR op_eq (pe_fld (pv 0) rfl) (pe_fld (pv 1) rfl) (nomark _)) (pe_one (pe_cmpR op_eq (pe_fld (pv 0) rfl) (pe_fld (pv 1) rfl) (nomark _)))))), ?_⟩
    rcases h with h | h
    · obtain ⟨x, y, n1, d1, n2, d2, rfl, ⟨a, dx, rfl, ha⟩, ⟨b, dy, rfl, hb⟩, q⟩ := h
      have cl : Cls K (He.ga K "Ratio") := He.cls_ok (a_cls_Ratio T.c)
      refine ⟨_, rfl, .ref b, _, _, _, true, rfl, .own _, tyQ T hb, of_decide_eq_true (x_is_Ratio_Ratio T.x), true, rfl, iteT ?_⟩
      refine ⟨_, rfl, a, _, dx, _, _, rfl, ha, cl, He.noat_ok (a_noat_Ratio_n T.c), rfl, ?_⟩
      refine ⟨_, rfl, b, _, dy, _, _, rfl, hb, cl, He.noat_ok (a_noat_Ratio_n T.c), rfl, rfl, _, rfl, ?_⟩
      have e1 : decide (flN 0 n1 d1 = flN 0 n2 d2) = (decide (V.int n1 = V.int n2) && decide (V.int d1 = V.int d2)) := by
        rw [Bool.eq_iff_iff]
        simp [flN]
      rw [e1] at q
      by_cases e : V.int n1 = V.int n2
      · rw [decide_eq_true e] at q ⊢
        refine iteT ?_
        refine ⟨_, rfl, a, _, dx, _, _, rfl, ha, cl, He.noat_ok (a_noat_Ratio_d T.c), rfl, ?_⟩
        exact ⟨_, rfl, b, _, dy, _, _, rfl, hb, cl, He.noat_ok (a_noat_Ratio_d T.c), rfl, rfl, q⟩
      · rw [decide_eq_false e] at q ⊢
        exact iteF q
    · obtain ⟨x, y, t, rfl, ht, hk, q⟩ := h
      exact ⟨_, rfl, y, _, _, _, false, rfl, .own _, ht, hk, false, rfl, iteF q⟩
  · rw [aN_r hp]
    refine fok (F_R_eq T.c) sc_R_eq hlen fun cdv A outer s H vs Q E hr h => ?_
    refine ⟨_, pss_one (ps_ret (pe_and (pe_callB call_isi (by rfl) (T.free (a_free_isinstance T.c)) boot_isi (pa_cons (pv 1) (pa_cons (pe_glob (v := .ref (He.ga K "Residue")) (by rfl) (T.glo (a_glo_Residue T.c)) rfl) pa_nil)))
      (pe_and (pe_cmpR op_eq (pe_fld (pv 0) rfl) (pe_fld (pv 1) rfl) (nomark _)) (pe_one (pe_cmpR op_eq (pe_fld (pv 0) rfl) (pe_fld (pv 1) rfl) (nomark _)))))), ?_⟩
    rcases h with h | h
    · obtain ⟨x, y, n1, d1, n2, d2, rfl, ⟨a, dx, rfl, ha⟩, ⟨b, dy, rfl, hb⟩, q⟩ := h
      rw [cN_r hp, flN_r hp] at ha hb
      have cl : Cls K (He.ga K "Residue") := He.cls_ok (a_cls_Residue T.c)
      refine ⟨_, rfl, .ref b, _, _, _, true, rfl, .own _, tyR T hb, of_decide_eq_true (x_is_Residue_Residue T.x), true, rfl, iteT ?_⟩
      refine ⟨_, rfl, a, _, dx, _, _, rfl, ha, cl, He.noat_ok (a_noat_Residue_p T.c), rfl, ?_⟩
      refine ⟨_, rfl, b, _, dy, _, _, rfl, hb, cl, He.noat_ok (a_noat_Residue_p T.c), rfl, rfl, _, rfl, ?_⟩
      rw [decide_eq_true rfl]
      refine iteT ?_
      have e1 : decide (flN p n1 d1 = flN p n2 d2) = decide (V.int n1 = V.int n2) := by
        rw [Bool.eq_iff_iff, flN_r hp, flN_r hp]
        simp
      rw [e1] at q
      refine ⟨_, rfl, a, _, dx, _, _, rfl, ha, cl, He.noat_ok (a_noat_Residue_n T.c), rfl, ?_⟩
      exact ⟨_, rfl, b, _, dy, _, _, rfl, hb, cl, He.noat_ok (a_noat_Residue_n T.c), rfl, rfl, q⟩
    · obtain ⟨x, y, t, rfl, ht, hk, q⟩ := h
      rw [cN_r hp] at hk
      exact ⟨_, rfl, y, _, _, _, false, rfl, .own _, ht, hk, false, rfl, iteF q⟩
theorem eqN {X : Cx} (T : Tx X.K X.mg) (p : Nat) : EqB X 1 (DNum X.K p) :=
  have m := methN (K := X.K) (p := p) (a_meth_Q_eq T.c) (a_meth_R_eq T.c)
  eqB_num ((ok_eq T p).imp fun vs H Q E h => .inl h) m.at_ m.fn (bindN (B_Q_eq T.c) (B_R_eq T.c))

/-! ### the ground -/
def GAt (K : PySem.W.Frag) (H : Hp) (v : V) (p : Nat) : Prop := ∃ a dx, v = .ref a ∧ H a = some (.ins (He.ga K "Ground") dx [("p", .int p)])
theorem GAt.mono {H H' : Hp} {v : V} {p : Nat} (h : GAt K H v p) (e : Same H H') : GAt K H' v p := by
  obtain ⟨a, dx, e1, ha⟩ := h
  exact ⟨a, dx, e1, e _ _ ha⟩
abbrev aG (K : PySem.W.Frag) (m : Str) : Addr := He.fAd K ("Ground", some m)
def spGinit (K : PySem.W.Frag) : L2.Sp := fun vs H Q _ => ∃ a dx p, vs = [.ref a, .int p] ∧ H a = some (.ins (He.ga K "Ground") dx []) ∧ (p = 0 ∨ SmP p) ∧ Q .non (upd H a (.ins (He.ga K "Ground") dx [("p", .int p)]))
theorem ok_G_init (T : Tx K mg) : FnOk P w K mg base CX0 3 (aG K "__init__") (fdOf K (aG K "__init__")) ["self", "p"] (spGinit K) := by
  refine fok (F_G_init T.c) sc_G_init (fun vs H Q E h => ?_) (fun cdv A outer s H vs Q E hr h => ?_)
  · obtain ⟨a, dx, p, rfl, _⟩ := h
    rfl
  · obtain ⟨a, dx, p, rfl, ha, hp, q⟩ := h
    refine ⟨_, pss_cons (ps_if (PW.pt (pw_or (pt_not (pt_val (pe_call ((ok_is_integer T).mono (by decide)) hr (by rfl) (T.glo (a_glo_is_integer T.c)) (F_is_integer T.c).kp (B_is_integer T.c) .nil pass0 (pa_cons (pv 1) pa_nil))))
        (pw_or1 (PW.pt (pw_and (pt_cmpR op_ne (pv 1) pe_int (nomark _)) (pw_and1 (pt_not (pt_val (pe_call (ok_is_small_prime T) hr (by rfl) (T.glo (a_glo_is_small_prime T.c)) (F_is_small_prime T.c).kp (B_is_small_prime T.c) .nil pass0 (pa_cons (pv 1) pa_nil)))))))))) (pss_one ps_never) pss_nil)
      (pss_one (ps_fld (pv 0) (pv 1) rfl)), ?_⟩
    refine ⟨_, rfl, .int p, .type "int", true, false, rfl, .base (.int p), by rfl, kit_ty (by decide +kernel), true, rfl, iteF ?_⟩
    refine ⟨_, rfl, rfl, _, rfl, ?_⟩
    have fin : sFld K (tVar 0) (tVar 1) "p" { nx := fun _ H' => Q .non H', rt := Q } [some (.ref a), some (.int p)] H :=
      ⟨_, rfl, _, rfl, a, _, dx, _, rfl, ha, He.cls_ok (a_cls_Ground T.c), He.noat_ok (a_noat_Ground_p T.c), by decide, q⟩
    by_cases e : p = 0
    · subst e
      exact iteF fin
    · rw [decide_eq_false (fun z => e (V.int.inj z))]
      exact iteT ⟨_, rfl, p, rfl, hp.resolve_left e, true, rfl, iteF fin⟩
theorem mk_G {p : Int} {H : Hp} {Q : VK} {E : XK} (hp : p = 0 ∨ SmP p) (k : ∀ v H', Same H H' → (∃ a dx, v = .ref a ∧ H' a = some (.ins (He.ga K "Ground") dx [("p", .int p)])) → Q v H') :
    ∀ x dx, H x = none → H dx = none → dx ≠ x → spGinit K (.ref x :: ([.int p] ++ [])) (upd (upd H dx (.own x)) x (.ins (He.ga K "Ground") dx [])) (fun v H2 => v = .non ∧ Q (.ref x) H2) E := fun x dx h1 h2 h3 =>
  ⟨x, dx, p, rfl, upd_same, hp, rfl, k _ _ (made_same h1 h2) ⟨x, dx, rfl, upd_same⟩⟩
theorem inv_one (G : Gnd F) : G.inv 1 = 1 := by
  have := G.minv 1 G.one_ne
  grind
def spNumber (K : PySem.W.Frag) (G : Gnd F) : L2.Sp := fun vs H Q _ => ∃ v n, vs = [v, .int n, .int 1] ∧ GAt K H v G.p ∧ n.natAbs ≤ 2 ^ 100 ∧ ∀ v H', Same H H' → NumG K G H' v (G.ic n) → Q v H'
theorem ok_number (T : Tx K mg) (G : Gnd F) : FnOk P w K mg base CX0 8 (aG K "number") (fdOf K (aG K "number")) ["self", "n", "d"] (spNumber K G) := by
  refine fok (F_G_number T.c) sc_G_number (fun vs H Q E h => ?_) (fun cdv A outer s H vs Q E hr h => ?_)
  · obtain ⟨v, n, rfl, _⟩ := h
    rfl
  · obtain ⟨v, n, rfl, ⟨a, dx, rfl, ha⟩, hn, q⟩ := h
    have cl : Cls K (He.ga K "Ground") := He.cls_ok (a_cls_Ground T.c)
    have np : NoAttr K (He.ga K "Ground") "p" := He.noat_ok (a_noat_Ground_p T.c)
    by_cases hp : G.p = 0
    · refine ⟨_, pss_cons (ps_if (pt_cmpR op_eq (pe_fld (pv 0) rfl) pe_int (nomark _)) (pss_one (ps_ret (pe_make (He.mkr_ok (a_mkr_Ratio T.c)) (ok_Q_init T) (hr.mono (by decide)) (by rfl) (T.glo (a_glo_Ratio T.c)) (B_Q_init T.c) .nil pass0 (pa_cons (pv 1) (pa_cons (pv 2) pa_nil))))) pss_nil)
        (pss_cons ps_never (pss_one ps_never)), ?_⟩
      refine ⟨_, rfl, a, _, dx, _, _, rfl, ha, cl, np, rfl, rfl, _, rfl, ?_⟩
      rw [decide_eq_true (by rw [hp]; rfl)]
      refine iteT ?_
      refine ⟨_, rfl, _, rfl, ?_⟩
      refine mk_Q (n := n) (d := 1) (by decide) (Nat.le_trans (Nat.one_le_two_pow (n := 0)) (Nat.pow_le_pow_right (by decide) (Nat.zero_le _))) fun v H' e hv => q v H' e (NumG.of_q hp hv ?_)
      have := G.int n
      rw [hp] at this
      exact this
    · have sp := G_smp G hp
      have hp7 : 2 ≤ G.p ∧ G.p ≤ 7 := by
        rcases G.hp with e | e | e | e | e <;> omega
      have mo := methN (K := K) (p := G.p) (a_meth_Q_over T.c) (a_meth_R_over T.c)
      have bo := bindN (K := K) (p := G.p) (B_Q_over T.c) (B_R_over T.c)
      refine ⟨_, pss_cons (ps_if (pt_cmpR op_eq (pe_fld (pv 0) rfl) pe_int (nomark _)) (pss_one ps_never) pss_nil)
        (pss_cons (ps_if (pt_cmpR op_eq (pe_op op_mod (pv 2) (pe_fld (pv 0) rfl)) pe_int (nomark _)) (pss_one ps_never) pss_nil)
        (pss_one (ps_ret (pe_meth (pe_make (He.mkr_ok (a_mkr_Residue T.c)) (ok_R_init T) (hr.mono (by decide)) (by rfl) (T.glo (a_glo_Residue T.c)) (B_R_init T.c) .nil pass0 (pa_cons (pe_fld (pv 0) rfl) (pa_cons (pv 1) pa_nil)))
          (clsN T G.p) mo (ok_over T G) hr bo .nil pass0 (pa_cons (pe_make (He.mkr_ok (a_mkr_Residue T.c)) (ok_R_init T) (hr.mono (by decide)) (by rfl) (T.glo (a_glo_Residue T.c)) (B_R_init T.c) .nil pass0 (pa_cons (pe_fld (pv 0) rfl) (pa_cons (pv 2) pa_nil))) pa_nil))))), ?_⟩
      refine ⟨_, rfl, a, _, dx, _, _, rfl, ha, cl, np, rfl, rfl, _, rfl, ?_⟩
      rw [decide_eq_false (fun z => hp (by have := V.int.inj z; omega))]
      refine iteF ?_
      refine ⟨_, rfl, _, rfl, a, _, dx, _, _, rfl, ha, cl, np, rfl, _, _, rfl, rfl, sp.pos, rfl, _, rfl, ?_⟩
      have e1p : (1 : Int) % (G.p : Int) = 1 := Int.emod_eq_of_lt (by decide) (by omega)
      refine ite2 (fun e => absurd (e1p.symm.trans (V.int.inj (of_decide_eq_true e))) (by decide)) (fun _ => ?_)
      refine ⟨_, rfl, a, _, dx, _, _, rfl, ha, cl, np, rfl, _, rfl, ?_⟩
      refine fun x1 y1 q1 q2 q3 => ⟨x1, y1, _, _, rfl, upd_same, sp, rfl, ?_⟩
      have e1 : Same H (upd (upd (upd H y1 (.own x1)) x1 (.ins (He.ga K "Residue") y1 [])) x1 (.ins (He.ga K "Residue") y1 [("p", .int G.p), ("n", .int (n % G.p))])) := made_same q1 q2
      have h1 : ∃ a dx, V.ref x1 = .ref a ∧ (upd (upd (upd H y1 (.own x1)) x1 (.ins (He.ga K "Residue") y1 [])) x1 (.ins (He.ga K "Residue") y1 [("p", .int G.p), ("n", .int (n % G.p))])) a = some (.ins (He.ga K "Residue") dx [("p", .int G.p), ("n", .int (n % G.p))]) := ⟨x1, y1, rfl, upd_same⟩
      have hn1 : NumG K G (upd (upd (upd H y1 (.own x1)) x1 (.ins (He.ga K "Residue") y1 [])) x1 (.ins (He.ga K "Residue") y1 [("p", .int G.p), ("n", .int (n % G.p))])) (.ref x1) (G.ic n) := NumG.of_r hp h1 (by
        have e1 := congrArg Prod.fst (G.int n)
        unfold low at e1
        rw [if_neg hp] at e1
        exact e1)
      have hi1 : (upd (upd (upd H y1 (.own x1)) x1 (.ins (He.ga K "Residue") y1 [])) x1 (.ins (He.ga K "Residue") y1 [("p", .int G.p), ("n", .int (n % G.p))])) x1 = some (.ins (cN K G.p) y1 [("p", .int G.p), ("n", .int (n % G.p))]) := by
        rw [cN_r hp]
        exact upd_same
      refine ⟨x1, y1, _, rfl, hi1, rfl, ?_⟩
      refine ⟨_, rfl, a, _, dx, _, _, rfl, e1 _ _ ha, cl, np, rfl, _, rfl, ?_⟩
      refine mk_R (p := G.p) (n := 1) (Q := fun v2 H2 => spOver K G [.ref x1, v2] H2 Q E0) sp fun v2 H2 e2 h2 => ?_
      have hn2 : NumG K G H2 v2 1 := NumG.of_r hp h2 (by
        have e1 := congrArg Prod.fst (G.int 1)
        unfold low at e1
        rw [if_neg hp, G.ic_one] at e1
        exact e1)
      refine ⟨_, _, G.ic n, 1, 0, 0, rfl, hn1.mono e2, hn2, fun z => absurd z hp, fun z => absurd z hp, by decide, G.one_ne, fun v H' e hv => q v H' ((e1.trans e2).trans e) ?_⟩
      rw [inv_one] at hv
      have : G.ic n * 1 = G.ic n := by grind
      rw [this] at hv
      exact hv
def spConst (K : PySem.W.Frag) (G : Gnd F) (x : F) : L2.Sp := fun vs H Q _ => ∃ v, vs = [v] ∧ GAt K H v G.p ∧ ∀ v H', Same H H' → NumG K G H' v x → Q v H'
theorem ok_zero (T : Tx K mg) (G : Gnd F) : FnOk P w K mg base CX0 9 (aG K "zero") (fdOf K (aG K "zero")) ["self"] (spConst K G 0) := by
  refine fok (F_G_zero T.c) sc_G_zero (fun vs H Q E h => ?_) (fun cdv A outer s H vs Q E hr h => ?_)
  · obtain ⟨v, rfl, _⟩ := h
    rfl
  · obtain ⟨v, rfl, hg, q⟩ := h
    obtain ⟨a, dx, rfl, ha⟩ := id hg
    obtain ⟨ds, hv, hb⟩ := B1_G_number T.c
    refine ⟨_, pss_one (ps_ret (pe_meth (pv 0) (He.cls_ok (a_cls_Ground T.c)) (He.meth_ok (a_meth_G_number T.c)) (ok_number T G) hr hb hv pass0 (pa_cons pe_int pa_nil))), ?_⟩
    refine ⟨_, rfl, a, dx, _, rfl, ha, rfl, ?_⟩
    refine ⟨_, 0, rfl, hg, by decide, fun v H' e hv => q v H' e ?_⟩
    rw [ic_zero] at hv
    exact hv
theorem ok_one (T : Tx K mg) (G : Gnd F) : FnOk P w K mg base CX0 9 (aG K "one") (fdOf K (aG K "one")) ["self"] (spConst K G 1) := by
  refine fok (F_G_one T.c) sc_G_one (fun vs H Q E h => ?_) (fun cdv A outer s H vs Q E hr h => ?_)
  · obtain ⟨v, rfl, _⟩ := h
    rfl
  · obtain ⟨v, rfl, hg, q⟩ := h
    obtain ⟨a, dx, rfl, ha⟩ := id hg
    obtain ⟨ds, hv, hb⟩ := B1_G_number T.c
    refine ⟨_, pss_one (ps_ret (pe_meth (pv 0) (He.cls_ok (a_cls_Ground T.c)) (He.meth_ok (a_meth_G_number T.c)) (ok_number T G) hr hb hv pass0 (pa_cons pe_int pa_nil))), ?_⟩
    refine ⟨_, rfl, a, dx, _, rfl, ha, rfl, ?_⟩
    refine ⟨_, 1, rfl, hg, by decide, fun v H' e hv => q v H' e ?_⟩
    rw [G.ic_one] at hv
    exact hv
end
end K51

set_option Elab.async false
set_option linter.all false
set_option maxRecDepth 100000
set_option maxHeartbeats 4000000
namespace K51
open PySem PySem.Spec PyProof.Rows L2

/-! ### lists of values and what they stand for -/
structure Al {α β : Type} (R : α → β → Prop) (vs : List α) (xs : List β) : Prop where
  len : vs.length = xs.length
  at_ : ∀ (i : Nat) v x, vs[i]? = some v → xs[i]? = some x → R v x
section
variable {α β : Type} {R R' : α → β → Prop} {vs ws : List α} {xs ys : List β}
theorem Al.nil : Al R [] [] := ⟨rfl, fun i v x h _ => by simp at h⟩
theorem Al.imp (h : Al R vs xs) (f : ∀ v x, R v x → R' v x) : Al R' vs xs := ⟨h.len, fun i v x h1 h2 => f v x (h.at_ i v x h1 h2)⟩
theorem Al.snoc (h : Al R vs xs) {v : α} {x : β} (r : R v x) : Al R (vs ++ [v]) (xs ++ [x]) := by
  refine ⟨by rw [List.length_append, List.length_append, h.len, List.length_singleton, List.length_singleton], fun i a b h1 h2 => ?_⟩
  by_cases e : i < vs.length
  · rw [List.getElem?_append_left e] at h1
    rw [List.getElem?_append_left (by rw [← h.len]; exact e)] at h2
    exact h.at_ i a b h1 h2
  · rw [List.getElem?_append_right (by omega)] at h1
    rw [List.getElem?_append_right (by rw [← h.len]; omega), ← h.len] at h2
    have hi : i - vs.length = 0 := by
      obtain ⟨q, _⟩ := List.getElem?_eq_some_iff.mp h1
      rw [List.length_singleton] at q
      omega
    rw [hi] at h1 h2
    cases h1
    cases h2
    exact r
theorem Al.get (h : Al R vs xs) {i : Nat} {x : β} (e : xs[i]? = some x) : ∃ v, vs[i]? = some v ∧ R v x := by
  obtain ⟨hi, _⟩ := List.getElem?_eq_some_iff.mp e
  have hv : vs[i]? = some (vs[i]'(by rw [h.len]; exact hi)) := List.getElem?_eq_getElem _
  exact ⟨_, hv, h.at_ i _ x hv e⟩
theorem Al.got (h : Al R vs xs) {i : Nat} {v : α} (e : vs[i]? = some v) : ∃ x, xs[i]? = some x ∧ R v x := by
  obtain ⟨hi, _⟩ := List.getElem?_eq_some_iff.mp e
  have hv : xs[i]? = some (xs[i]'(by rw [← h.len]; exact hi)) := List.getElem?_eq_getElem _
  exact ⟨_, hv, h.at_ i v _ e hv⟩
theorem Al.app (h : Al R vs xs) (h' : Al R ws ys) : Al R (vs ++ ws) (xs ++ ys) := by
  refine ⟨by rw [List.length_append, List.length_append, h.len, h'.len], fun i a b h1 h2 => ?_⟩
  by_cases e : i < vs.length
  · rw [List.getElem?_append_left e] at h1
    rw [List.getElem?_append_left (by rw [← h.len]; exact e)] at h2
    exact h.at_ i a b h1 h2
  · rw [List.getElem?_append_right (by omega)] at h1
    rw [List.getElem?_append_right (by rw [← h.len]; omega), ← h.len] at h2
    exact h'.at_ _ a b h1 h2
theorem Al.take (h : Al R vs xs) (n : Nat) : Al R (vs.take n) (xs.take n) := by
  refine ⟨by rw [List.length_take, List.length_take, h.len], fun i a b h1 h2 => ?_⟩
  rw [List.getElem?_take] at h1 h2
  by_cases e : i < n
  · rw [if_pos e] at h1 h2
    exact h.at_ i a b h1 h2
  · rw [if_neg e] at h1
    cases h1
theorem Al.drop (h : Al R vs xs) (n : Nat) : Al R (vs.drop n) (xs.drop n) := by
  refine ⟨by rw [List.length_drop, List.length_drop, h.len], fun i a b h1 h2 => ?_⟩
  rw [List.getElem?_drop] at h1 h2
  exact h.at_ _ a b h1 h2
theorem Al.rev (h : Al R vs xs) : Al R vs.reverse xs.reverse := by
  refine ⟨by rw [List.length_reverse, List.length_reverse, h.len], fun i a b h1 h2 => ?_⟩
  obtain ⟨q, _⟩ := List.getElem?_eq_some_iff.mp h1
  rw [List.length_reverse] at q
  rw [List.getElem?_reverse q] at h1
  rw [List.getElem?_reverse (by rw [← h.len]; exact q), ← h.len] at h2
  exact h.at_ _ a b h1 h2
theorem Al.cons {v : α} {x : β} (r : R v x) (h : Al R vs xs) : Al R (v :: vs) (x :: xs) := by
  refine ⟨by rw [List.length_cons, List.length_cons, h.len], fun i a b h1 h2 => ?_⟩
  cases i with
  | zero =>
    simp at h1 h2
    rw [← h1, ← h2]
    exact r
  | succ i =>
    simp at h1 h2
    exact h.at_ i a b h1 h2
theorem Al.map {γ : Type} {f : γ → β} {zs : List γ} (h : Al (fun v z => R v (f z)) vs zs) : Al R vs (zs.map f) := by
  refine ⟨by rw [List.length_map, h.len], fun i v x h1 h2 => ?_⟩
  rw [List.getElem?_map] at h2
  obtain ⟨z, hz, e⟩ := Option.map_eq_some_iff.mp h2
  rw [← e]
  exact h.at_ i v z h1 hz
theorem Al.unmap {γ : Type} {f : γ → β} {zs : List γ} (h : Al R vs (zs.map f)) : Al (fun v z => R v (f z)) vs zs := by
  refine ⟨by rw [h.len, List.length_map], fun i v x h1 h2 => ?_⟩
  exact h.at_ i v (f x) h1 (by rw [List.getElem?_map, h2] <;> rfl)
end
/-- what stands is known to stand on -/
def MoR {β : Type} (R : V → β → Hp → Prop) : Prop := ∀ v y H H', Same H H' → R v y H → R v y H'
theorem Al.mo {β : Type} {R : V → β → Hp → Prop} (m : MoR R) {H H' : Hp} (e : Same H H') {vs : List V} {ys : List β} (h : Al (fun v y => R v y H) vs ys) : Al (fun v y => R v y H') vs ys := h.imp fun v y r => m v y H H' e r
theorem same_mut {H H1 : Hp} {D : Addr} {o : HO} (h : H D = none) (e : Same H H1) : Same H (upd H1 D o) := fun b u q => by
  rw [upd_ne (ne_of_none q h)]
  exact e b u q

/-! ### comprehensions: each turn gives what stands for the next one -/
/-- the list that grows is none of the things that were given -/
structure Stay {β : Type} (H1 : Hp) (N : V → Addr → Prop) (R : V → β → Hp → Prop) : Prop where
  mo : MoR R
  st : ∀ v y H D zs zs', H1 D = none → H D = some (.lst zs) → N v D → R v y H → R v y (upd H D (.lst zs'))
def Yes : V → Addr → Prop := fun _ _ => True
def Nt : V → Addr → Prop := fun v D => v ≠ .ref D
section
variable {K : PySem.W.Frag} {tt : TT} {te : TE} {vs : List Nat} {σ : L2.St} {H1 : Hp} {Qd : Addr → Hp → Prop} {β : Type} {ys : List β} {R : V → β → Hp → Prop} {N : V → Addr → Prop} {j : Nat}
/-- what a turn is to give -/
def Step (te : TE) (σ2 : L2.St) (H1 : Hp) (N : V → Addr → Prop) (R : V → β → Hp → Prop) (y : β) : Prop :=
  ∀ H, Same H1 H → ∀ Q : VK, (∀ v H', Same H H' → R v y H' → (∀ D, H1 D = none → H D ≠ none → N v D) → Q v H') → te σ2 H Q
/-- what a test is to give -/
def TStep (tt : TT) (σ2 : L2.St) (H1 : Hp) (b : Bool) : Prop := ∀ H, Same H1 H → ∀ Q : Bool → Hp → Prop, (∀ H', Same H H' → Q b H') → tt σ2 H Q
def CInv (H1 : Hp) (D : Addr) (N : V → Addr → Prop) (R : V → β → Hp → Prop) (ys : List β) (H : Hp) : Prop := H1 D = none ∧ Same H1 H ∧ ∃ zs, H D = some (.lst zs) ∧ Al (fun v y => R v y H ∧ N v D) zs ys
theorem filt_take {pf : β → Bool} {i : Nat} {y : β} (hy : ys[i]? = some y) : (ys.take (i + 1)).filter pf = (ys.take i).filter pf ++ (if pf y then [y] else []) := by
  rw [List.take_add_one, hy, List.filter_append]
  congr 1
  show ([y] : List β).filter pf = _
  cases h : pf y with
  | true => rw [if_pos rfl]; simp [h]
  | false => rw [if_neg Bool.false_ne_true]; simp [h]
theorem cinv_turn {pf : β → Bool} (S : Stay H1 N R) {D : Addr} {i : Nat} {H : Hp} {y : β} (hz : ys.length ≤ 100000) (hy : ys[i]? = some y) (p : CInv H1 D N R ((ys.take i).filter pf) H) {σ2 : L2.St}
    (ht : TStep tt σ2 H1 (pf y)) (step : pf y = true → Step te σ2 H1 N R y) :
    tt σ2 H fun b H3 => if b = true then te σ2 H3 fun v H4 => ∃ acc, H4 D = some (.lst acc) ∧ acc.length < sizeLine ∧ CInv H1 D N R ((ys.take (i + 1)).filter pf) (upd H4 D (.lst (acc ++ [v]))) else CInv H1 D N R ((ys.take (i + 1)).filter pf) H3 := by
  obtain ⟨p1, p2, zs, p3, p4⟩ := p
  have hf := filt_take (pf := pf) hy
  refine ht H p2 _ fun H3 e3 => ?_
  cases hb : pf y with
  | true =>
    rw [hb, if_pos rfl] at hf
    refine iteT (step hb H3 (p2.trans e3) _ fun v H' e r n => ⟨zs, e _ _ (e3 _ _ p3), ?_, p1, same_mut p1 ((p2.trans e3).trans e), zs ++ [v], upd_same, ?_⟩)
    · have h1 := p4.len
      have h2 := List.length_filter_le pf (ys.take i)
      rw [List.length_take] at h2
      have : zs.length ≤ 100000 := by omega
      exact Nat.lt_of_le_of_lt this (by decide)
    · rw [hf]
      have hD : H' D = some (.lst zs) := e _ _ (e3 _ _ p3)
      have nD : N v D := n D p1 (by rw [e3 _ _ p3]; exact fun z => nomatch z)
      exact (p4.imp fun v' y' q => ⟨S.st v' y' H' D zs _ p1 hD q.2 (S.mo v' y' _ _ e (S.mo v' y' _ _ e3 q.1)), q.2⟩).snoc ⟨S.st v y H' D zs _ p1 hD nD r, nD⟩
  | false =>
    rw [hb, if_neg Bool.false_ne_true, List.append_nil] at hf
    refine iteF ⟨p1, p2.trans e3, zs, e3 _ _ p3, ?_⟩
    rw [hf]
    exact p4.imp fun v' y' q => ⟨S.mo v' y' _ _ e3 q.1, q.2⟩
/-- what follows a comprehension -/
def LDone (H1 : Hp) (R : V → β → Hp → Prop) (ys : List β) (Qd : Addr → Hp → Prop) : Prop := ∀ p H zs, H1 p = none → Same H1 H → H p = some (.lst zs) → Al (fun v y => R v y H) zs ys → Qd p H
theorem cinv_start {D : Addr} {pf : β → Bool} (h : H1 D = none) : CInv H1 D N R ((ys.take 0).filter pf) (upd H1 D (.lst [])) := ⟨h, same_upd h, [], upd_same, Al.nil⟩
theorem cinv_done {D : Addr} {H : Hp} {n : Nat} {pf : β → Bool} (hn : ys.length ≤ n) (p : CInv H1 D N R ((ys.take n).filter pf) H) (d : LDone H1 R (ys.filter pf) Qd) : Qd D H := by
  obtain ⟨p1, p2, zs, p3, p4⟩ := p
  rw [List.take_of_length_le hn] at p4
  exact d D H zs p1 p2 p3 (p4.imp fun v y q => q.1)
/-- [te for x in xs if tt], xs a list of values -/
theorem lcf_list {pf : β → Bool} {a : Addr} {xs : List V} (S : Stay H1 N R) (hS : SqL K H1 a xs) (hl : xs.length = ys.length) (hz : ys.length ≤ 100000) (hw : ∀ x, wipe ((wipe σ vs).set j (some x)) vs = wipe σ vs)
    (ht : ∀ (i : Nat) x y, xs[i]? = some x → ys[i]? = some y → TStep tt ((wipe σ vs).set j (some x)) H1 (pf y)) (step : ∀ (i : Nat) x y, xs[i]? = some x → ys[i]? = some y → pf y = true → Step te ((wipe σ vs).set j (some x)) H1 N R y) (d : LDone H1 R (ys.filter pf) Qd) :
    ∀ D, H1 D = none → ∃ W : Nat → Nat → Hp → Prop, (∃ m, W 0 m (upd H1 D (.lst []))) ∧ ∀ i m H, W i m H →
      ((Itl K a).stop i H ∧ Qd D H) ∨ ((Itl K a).go i H ∧ ∃ Nx : Hp → Prop, (∀ H', Nx H' → ∃ m', m' < m ∧ W (i + 1) m' H') ∧ ∀ x H', (Itl K a).yld i H x H' → gName j x (wipe σ vs) H' fun σ2 H2 => wipe σ2 vs = wipe σ vs ∧ tt σ2 H2 fun b H3 =>
        if b = true then te σ2 H3 fun y H4 => ∃ acc, H4 D = some (.lst acc) ∧ acc.length < sizeLine ∧ Nx (upd H4 D (.lst (acc ++ [y]))) else Nx H3) := fun D hD =>
  lc_list (Qd := Qd D) (fun i H => CInv H1 D N R ((ys.take i).filter pf) H) (cinv_start hD) (fun i H _ p => Same.seq p.2.1 hS) (fun i x H hx p => by
    have hi : i < ys.length := by
      obtain ⟨q, _⟩ := List.getElem?_eq_some_iff.mp hx
      omega
    have hy : ys[i]? = some ys[i] := List.getElem?_eq_getElem hi
    exact ⟨hw x, cinv_turn S hz hy p (ht i x _ hx hy) (step i x _ hx hy)⟩) fun H p => cinv_done (by omega) p d
theorem lcf_tup {pf : β → Bool} {a : Addr} {xs : List V} (S : Stay H1 N R) (hS : SqT K H1 a xs) (hl : xs.length = ys.length) (hz : ys.length ≤ 100000) (hw : ∀ x, wipe ((wipe σ vs).set j (some x)) vs = wipe σ vs)
    (ht : ∀ (i : Nat) x y, xs[i]? = some x → ys[i]? = some y → TStep tt ((wipe σ vs).set j (some x)) H1 (pf y)) (step : ∀ (i : Nat) x y, xs[i]? = some x → ys[i]? = some y → pf y = true → Step te ((wipe σ vs).set j (some x)) H1 N R y) (d : LDone H1 R (ys.filter pf) Qd) :
    ∀ D, H1 D = none → ∃ W : Nat → Nat → Hp → Prop, (∃ m, W 0 m (upd H1 D (.lst []))) ∧ ∀ i m H, W i m H →
      ((Itt K a).stop i H ∧ Qd D H) ∨ ((Itt K a).go i H ∧ ∃ Nx : Hp → Prop, (∀ H', Nx H' → ∃ m', m' < m ∧ W (i + 1) m' H') ∧ ∀ x H', (Itt K a).yld i H x H' → gName j x (wipe σ vs) H' fun σ2 H2 => wipe σ2 vs = wipe σ vs ∧ tt σ2 H2 fun b H3 =>
        if b = true then te σ2 H3 fun y H4 => ∃ acc, H4 D = some (.lst acc) ∧ acc.length < sizeLine ∧ Nx (upd H4 D (.lst (acc ++ [y]))) else Nx H3) := fun D hD =>
  lc_tup (Qd := Qd D) (fun i H => CInv H1 D N R ((ys.take i).filter pf) H) (cinv_start hD) (fun i H _ p => SqT.same p.2.1 hS) (fun i x H hx p => by
    have hi : i < ys.length := by
      obtain ⟨q, _⟩ := List.getElem?_eq_some_iff.mp hx
      omega
    have hy : ys[i]? = some ys[i] := List.getElem?_eq_getElem hi
    exact ⟨hw x, cinv_turn S hz hy p (ht i x _ hx hy) (step i x _ hx hy)⟩) fun H p => cinv_done (by omega) p d
theorem lcf_range {pf : β → Bool} {lo : Int} {n : Nat} (S : Stay H1 N R) (hl : n = ys.length) (hz : ys.length ≤ 100000) (hw : ∀ x, wipe ((wipe σ vs).set j (some x)) vs = wipe σ vs)
    (ht : ∀ (i : Nat) y, ys[i]? = some y → TStep tt ((wipe σ vs).set j (some (.int (lo + i)))) H1 (pf y)) (step : ∀ (i : Nat) y, ys[i]? = some y → pf y = true → Step te ((wipe σ vs).set j (some (.int (lo + i)))) H1 N R y) (d : LDone H1 R (ys.filter pf) Qd) :
    ∀ D, H1 D = none → ∃ W : Nat → Nat → Hp → Prop, (∃ m, W 0 m (upd H1 D (.lst []))) ∧ ∀ i m H, W i m H →
      ((Itr lo n).stop i H ∧ Qd D H) ∨ ((Itr lo n).go i H ∧ ∃ Nx : Hp → Prop, (∀ H', Nx H' → ∃ m', m' < m ∧ W (i + 1) m' H') ∧ ∀ x H', (Itr lo n).yld i H x H' → gName j x (wipe σ vs) H' fun σ2 H2 => wipe σ2 vs = wipe σ vs ∧ tt σ2 H2 fun b H3 =>
        if b = true then te σ2 H3 fun y H4 => ∃ acc, H4 D = some (.lst acc) ∧ acc.length < sizeLine ∧ Nx (upd H4 D (.lst (acc ++ [y]))) else Nx H3) := fun D hD =>
  lc_range (Qd := Qd D) (fun i H => CInv H1 D N R ((ys.take i).filter pf) H) (cinv_start hD) (fun i H hi p => by
    have hy : ys[i]? = some (ys[i]'(by omega)) := List.getElem?_eq_getElem _
    exact ⟨hw _, cinv_turn S hz hy p (ht i _ hy) (step i _ hy)⟩) fun H p => cinv_done (by omega) p d
theorem tstep_yes {σ2 : L2.St} : TStep tYes σ2 H1 true := fun H e Q k => k H (Same.refl H)
theorem ldone_all {d : LDone H1 R ys Qd} : LDone H1 R (ys.filter fun _ => true) Qd := by
  rw [List.filter_eq_self.mpr (fun _ _ => rfl)]
  exact d
/-- without a test -/
theorem lc_l {a : Addr} {xs : List V} (S : Stay H1 N R) (hS : SqL K H1 a xs) (hl : xs.length = ys.length) (hz : ys.length ≤ 100000) (hw : ∀ x, wipe ((wipe σ vs).set j (some x)) vs = wipe σ vs)
    (step : ∀ (i : Nat) x y, xs[i]? = some x → ys[i]? = some y → Step te ((wipe σ vs).set j (some x)) H1 N R y) (d : LDone H1 R ys Qd) :
    ∀ D, H1 D = none → ∃ W : Nat → Nat → Hp → Prop, (∃ m, W 0 m (upd H1 D (.lst []))) ∧ ∀ i m H, W i m H →
      ((Itl K a).stop i H ∧ Qd D H) ∨ ((Itl K a).go i H ∧ ∃ Nx : Hp → Prop, (∀ H', Nx H' → ∃ m', m' < m ∧ W (i + 1) m' H') ∧ ∀ x H', (Itl K a).yld i H x H' → gName j x (wipe σ vs) H' fun σ2 H2 => wipe σ2 vs = wipe σ vs ∧ tYes σ2 H2 fun b H3 =>
        if b = true then te σ2 H3 fun y H4 => ∃ acc, H4 D = some (.lst acc) ∧ acc.length < sizeLine ∧ Nx (upd H4 D (.lst (acc ++ [y]))) else Nx H3) :=
  lcf_list (pf := fun _ => true) S hS hl hz hw (fun _ _ _ _ _ => tstep_yes) (fun i x y h1 h2 _ => step i x y h1 h2) (ldone_all (d := d))
theorem lc_t {a : Addr} {xs : List V} (S : Stay H1 N R) (hS : SqT K H1 a xs) (hl : xs.length = ys.length) (hz : ys.length ≤ 100000) (hw : ∀ x, wipe ((wipe σ vs).set j (some x)) vs = wipe σ vs)
    (step : ∀ (i : Nat) x y, xs[i]? = some x → ys[i]? = some y → Step te ((wipe σ vs).set j (some x)) H1 N R y) (d : LDone H1 R ys Qd) :
    ∀ D, H1 D = none → ∃ W : Nat → Nat → Hp → Prop, (∃ m, W 0 m (upd H1 D (.lst []))) ∧ ∀ i m H, W i m H →
      ((Itt K a).stop i H ∧ Qd D H) ∨ ((Itt K a).go i H ∧ ∃ Nx : Hp → Prop, (∀ H', Nx H' → ∃ m', m' < m ∧ W (i + 1) m' H') ∧ ∀ x H', (Itt K a).yld i H x H' → gName j x (wipe σ vs) H' fun σ2 H2 => wipe σ2 vs = wipe σ vs ∧ tYes σ2 H2 fun b H3 =>
        if b = true then te σ2 H3 fun y H4 => ∃ acc, H4 D = some (.lst acc) ∧ acc.length < sizeLine ∧ Nx (upd H4 D (.lst (acc ++ [y]))) else Nx H3) :=
  lcf_tup (pf := fun _ => true) S hS hl hz hw (fun _ _ _ _ _ => tstep_yes) (fun i x y h1 h2 _ => step i x y h1 h2) (ldone_all (d := d))
theorem lc_r {lo : Int} {n : Nat} (S : Stay H1 N R) (hl : n = ys.length) (hz : ys.length ≤ 100000) (hw : ∀ x, wipe ((wipe σ vs).set j (some x)) vs = wipe σ vs)
    (step : ∀ (i : Nat) y, ys[i]? = some y → Step te ((wipe σ vs).set j (some (.int (lo + i)))) H1 N R y) (d : LDone H1 R ys Qd) :
    ∀ D, H1 D = none → ∃ W : Nat → Nat → Hp → Prop, (∃ m, W 0 m (upd H1 D (.lst []))) ∧ ∀ i m H, W i m H →
      ((Itr lo n).stop i H ∧ Qd D H) ∨ ((Itr lo n).go i H ∧ ∃ Nx : Hp → Prop, (∀ H', Nx H' → ∃ m', m' < m ∧ W (i + 1) m' H') ∧ ∀ x H', (Itr lo n).yld i H x H' → gName j x (wipe σ vs) H' fun σ2 H2 => wipe σ2 vs = wipe σ vs ∧ tYes σ2 H2 fun b H3 =>
        if b = true then te σ2 H3 fun y H4 => ∃ acc, H4 D = some (.lst acc) ∧ acc.length < sizeLine ∧ Nx (upd H4 D (.lst (acc ++ [y]))) else Nx H3) :=
  lcf_range (pf := fun _ => true) S hl hz hw (fun _ _ _ => tstep_yes) (fun i y h _ => step i y h) (ldone_all (d := d))
/-- [te for x, y in zip(xs, zs)], two lists -/
theorem lc_z {a b : Addr} {xs zs : List V} {j2 : Nat} (S : Stay H1 N R) (hS : SqL K H1 a xs) (hS2 : SqL K H1 b zs) (hl : xs.length = ys.length) (hl2 : zs.length = ys.length) (hz : ys.length ≤ 100000)
    (hw : ∀ x y, wipe (((wipe σ vs).set j (some x)).set j2 (some y)) vs = wipe σ vs)
    (step : ∀ (i : Nat) x z y, xs[i]? = some x → zs[i]? = some z → ys[i]? = some y → Step te (((wipe σ vs).set j (some x)).set j2 (some z)) H1 N R y) (d : LDone H1 R ys Qd) :
    ∀ D, H1 D = none → ∃ W : Nat → Nat → Hp → Prop, (∃ m, W 0 m (upd H1 D (.lst []))) ∧ ∀ i m H, W i m H →
      ((Itz K a b).stop i H ∧ Qd D H) ∨ ((Itz K a b).go i H ∧ ∃ Nx : Hp → Prop, (∀ H', Nx H' → ∃ m', m' < m ∧ W (i + 1) m' H') ∧ ∀ x H', (Itz K a b).yld i H x H' → gTup K 2 (gCons (gName j) (gCons (gName j2) gNil)) x (wipe σ vs) H' fun σ2 H2 => wipe σ2 vs = wipe σ vs ∧ tYes σ2 H2 fun b H3 =>
        if b = true then te σ2 H3 fun y H4 => ∃ acc, H4 D = some (.lst acc) ∧ acc.length < sizeLine ∧ Nx (upd H4 D (.lst (acc ++ [y]))) else Nx H3) := by
  intro D hD
  refine ⟨fun i m H => m = ys.length - i ∧ i ≤ ys.length ∧ CInv H1 D N R ((ys.take i).filter fun _ => true) H, ⟨ys.length, by simp, Nat.zero_le _, cinv_start hD⟩, ?_⟩
  rintro i m H ⟨rfl, hi, p⟩
  have s1 := Same.seq p.2.1 hS
  have s2 := Same.seq p.2.1 hS2
  by_cases hlt : i < ys.length
  · have hx : xs[i]? = some (xs[i]'(by omega)) := List.getElem?_eq_getElem _
    have hzz : zs[i]? = some (zs[i]'(by omega)) := List.getElem?_eq_getElem _
    have hy : ys[i]? = some ys[i] := List.getElem?_eq_getElem hlt
    refine .inr ⟨⟨xs, zs, _, _, s1, s2, hx, hzz⟩, fun H => CInv H1 D N R ((ys.take (i + 1)).filter fun _ => true) H, fun H' p' => ⟨ys.length - (i + 1), by omega, rfl, hlt, p'⟩, fun v H' y => ?_⟩
    obtain ⟨T, x, z, rfl, nT, rfl, f1, f2⟩ := y
    have hx' : xs[i]? = some x := f1 _ s1
    have hzz' : zs[i]? = some z := f2 _ s2
    have eT : Same H (upd H T (.tup [x, z])) := same_upd nT
    have p' : CInv H1 D N R ((ys.take i).filter fun _ => true) (upd H T (.tup [x, z])) := by
      obtain ⟨p1, p2, ws, p3, p4⟩ := p
      exact ⟨p1, p2.trans eT, ws, eT _ _ p3, p4.imp fun v' y' q => ⟨S.mo v' y' _ _ eT q.1, q.2⟩⟩
    exact ⟨T, [x, z], rfl, .inl (.inl upd_same), rfl, x, [z], rfl, z, [], rfl, rfl, hw x z, cinv_turn (pf := fun _ => true) S hz hy p' tstep_yes fun _ => step i x z _ hx' hzz' hy⟩
  · have e : i = ys.length := by omega
    subst e
    exact .inl ⟨⟨xs, zs, s1, s2, .inl (by omega)⟩, cinv_done (Nat.le_refl _) p (ldone_all (d := d))⟩
variable {wi : TI} {H : Hp} {Q : VK}
/-- the whole reading of such a comprehension -/
theorem tlc_l {a : Addr} {xs : List V} (hi : ∀ R : It → Hp → Prop, R (Itl K a) H1 → wi σ H R) (S : Stay H1 N R) (hS : SqL K H1 a xs) (hl : xs.length = ys.length) (hz : ys.length ≤ 100000) (hw : ∀ x, wipe ((wipe σ vs).set j (some x)) vs = wipe σ vs)
    (step : ∀ (i : Nat) x y, xs[i]? = some x → ys[i]? = some y → Step te ((wipe σ vs).set j (some x)) H1 N R y) (d : LDone H1 R ys fun p H => Q (.ref p) H) : tLc wi (gName j) tYes te vs σ H Q :=
  hi _ fun D hD => lc_l (Qd := fun p H => Q (.ref p) H) S hS hl hz hw step d D hD
theorem tlc_t {a : Addr} {xs : List V} (hi : ∀ R : It → Hp → Prop, R (Itt K a) H1 → wi σ H R) (S : Stay H1 N R) (hS : SqT K H1 a xs) (hl : xs.length = ys.length) (hz : ys.length ≤ 100000) (hw : ∀ x, wipe ((wipe σ vs).set j (some x)) vs = wipe σ vs)
    (step : ∀ (i : Nat) x y, xs[i]? = some x → ys[i]? = some y → Step te ((wipe σ vs).set j (some x)) H1 N R y) (d : LDone H1 R ys fun p H => Q (.ref p) H) : tLc wi (gName j) tYes te vs σ H Q :=
  hi _ fun D hD => lc_t (Qd := fun p H => Q (.ref p) H) S hS hl hz hw step d D hD
theorem tlc_r {lo : Int} {n : Nat} (hi : ∀ R : It → Hp → Prop, R (Itr lo n) H1 → wi σ H R) (S : Stay H1 N R) (hl : n = ys.length) (hz : ys.length ≤ 100000) (hw : ∀ x, wipe ((wipe σ vs).set j (some x)) vs = wipe σ vs)
    (step : ∀ (i : Nat) y, ys[i]? = some y → Step te ((wipe σ vs).set j (some (.int (lo + i)))) H1 N R y) (d : LDone H1 R ys fun p H => Q (.ref p) H) : tLc wi (gName j) tYes te vs σ H Q :=
  hi _ fun D hD => lc_r (Qd := fun p H => Q (.ref p) H) S hl hz hw step d D hD
theorem tlcf_r {pf : β → Bool} {lo : Int} {n : Nat} (hi : ∀ R : It → Hp → Prop, R (Itr lo n) H1 → wi σ H R) (S : Stay H1 N R) (hl : n = ys.length) (hz : ys.length ≤ 100000) (hw : ∀ x, wipe ((wipe σ vs).set j (some x)) vs = wipe σ vs)
    (ht : ∀ (i : Nat) y, ys[i]? = some y → TStep tt ((wipe σ vs).set j (some (.int (lo + i)))) H1 (pf y)) (step : ∀ (i : Nat) y, ys[i]? = some y → pf y = true → Step te ((wipe σ vs).set j (some (.int (lo + i)))) H1 N R y) (d : LDone H1 R (ys.filter pf) fun p H => Q (.ref p) H) : tLc wi (gName j) tt te vs σ H Q :=
  hi _ fun D hD => lcf_range (Qd := fun p H => Q (.ref p) H) S hl hz hw ht step d D hD
theorem tlc_z {a b : Addr} {xs zs : List V} {j2 : Nat} (hi : ∀ R : It → Hp → Prop, R (Itz K a b) H1 → wi σ H R) (S : Stay H1 N R) (hS : SqL K H1 a xs) (hS2 : SqL K H1 b zs) (hl : xs.length = ys.length) (hl2 : zs.length = ys.length) (hz : ys.length ≤ 100000)
    (hw : ∀ x y, wipe (((wipe σ vs).set j (some x)).set j2 (some y)) vs = wipe σ vs)
    (step : ∀ (i : Nat) x z y, xs[i]? = some x → zs[i]? = some z → ys[i]? = some y → Step te (((wipe σ vs).set j (some x)).set j2 (some z)) H1 N R y) (d : LDone H1 R ys fun p H => Q (.ref p) H) : tLc wi (gTup K 2 (gCons (gName j) (gCons (gName j2) gNil))) tYes te vs σ H Q :=
  hi _ fun D hD => lc_z (Qd := fun p H => Q (.ref p) H) S hS hS2 hl hl2 hz hw step d D hD
end
/-! ### peeling a reading -/
section
variable {σ : L2.St} {H : Hp} {Q : VK} {ta tb te : TE} {tr t : TA} {Qa : List V → Hp → Prop}
theorem p_cons (h : ta σ H fun x H1 => tr σ H1 fun xs H2 => Qa (x :: xs) H2) : tCons ta tr σ H Qa := h
theorem p_nil (h : Qa [] H) : tNil σ H Qa := h
theorem p_cb {r : List V → Hp → VK → Prop} (h : t σ H fun vs H1 => r vs H1 Q) : tCB r t σ H Q := h
theorem p_op {r : R2} (h : ta σ H fun x H1 => tb σ H1 fun y H2 => r x y H2 Q) : tOp r ta tb σ H Q := h
theorem p_un {r : V → Hp → VK → Prop} (h : ta σ H fun x H1 => r x H1 Q) : tUn r ta σ H Q := h
theorem p_call {sp : L2.Sp} {dvs : List V} {E : XK} (h : t σ H fun vs H1 => sp (vs ++ dvs) H1 Q E) : tCall sp dvs E t σ H Q := h
theorem p_ret {D : Ends} (h : te σ H D.rt) : tRet te D σ H := h
theorem p_asg {D : Ends} {i : Nat} (h : te σ H fun v H1 => D.nx (σ.set i (some v)) H1) : tAsg te (gName i) D σ H := h
theorem p_seq {D : Ends} {a b : TS} (h : a { D with nx := b D } σ H) : tSeq a b D σ H := h
end
end K51

set_option Elab.async false
set_option linter.all false
set_option maxRecDepth 100000
set_option maxHeartbeats 4000000
namespace K51
open PySem PySem.Spec PyProof.Rows L2
section
variable {F : Type} [Lean.Grind.CommRing F] [DecidableEq F]
/-- what a value stands for -/
inductive RepD (K : PySem.W.Frag) (G : Gnd F) (H : Hp) : V → D F → Prop where
  | non : RepD K G H .non .non
  | bl (b : Bool) : RepD K G H (.bl b) (.bl b)
  | int (i : Int) : RepD K G H (.int i) (.int i)
  | str (s : Str) : RepD K G H (.str s) (.str (decide (s = ("rank" : Str))))
  | tup {a : Addr} {vs : List V} {ds : List (D F)} (h : H a = some (.tup vs)) (hl : vs.length = ds.length) (hd : ∀ (i : Nat) v d, vs[i]? = some v → ds[i]? = some d → RepD K G H v d) : RepD K G H (.ref a) (.tup ds)
  | lst {a : Addr} {xs : List V} (h : H a = some (.lst xs)) : RepD K G H (.ref a) .lst
  | num {v : V} {x : F} (h : NumG K G H v x) : RepD K G H v (.num x)
  | othQ {a dx : Addr} {fs : List (Str × V)} (hp : G.p ≠ 0) (h : H a = some (.ins (He.ga K "Ratio") dx fs)) : RepD K G H (.ref a) .oth
  | othR {a dx : Addr} {fs : List (Str × V)} (q : Int) (h : H a = some (.ins (He.ga K "Residue") dx fs)) (hq : fs.lookup ("p" : Str) = some (.int q)) (hn : q ≠ G.p) : RepD K G H (.ref a) .oth
section
variable {K : PySem.W.Frag} {G : Gnd F} {H H' : Hp} {v : V} {d : D F}
/-- all but the list at L stands on, and a list stays at L -/
structure Kp (L : Addr) (H H' : Hp) : Prop where
  keep : ∀ b o, H b = some o → b ≠ L → H' b = some o
  lst : ∀ xs, H L = some (.lst xs) → ∃ ys, H' L = some (.lst ys)
theorem Same.kp (L : Addr) (e : Same H H') : Kp L H H' := ⟨fun b o h _ => e b o h, fun xs h => ⟨xs, e _ _ h⟩⟩
theorem Kp.trans {L : Addr} {H1 H2 H3 : Hp} (a : Kp L H1 H2) (b : Kp L H2 H3) : Kp L H1 H3 := ⟨fun c o h n => b.keep c o (a.keep c o h n) n, fun xs h => let ⟨ys, h'⟩ := a.lst xs h; b.lst ys h'⟩
theorem Kp.at_ {L : Addr} (k : Kp L H H') (hL : ∃ ns, H L = some (.lst ns)) {a : Addr} {o : HO} (h : H a = some o) (hn : ∀ xs, o ≠ .lst xs) : H' a = some o := by
  refine k.keep a o h fun e => ?_
  obtain ⟨ns, hL⟩ := hL
  rw [e, hL] at h
  exact hn ns (Option.some.inj h).symm
theorem NumG.kp {L : Addr} {x : F} (h : NumG K G H v x) (hL : ∃ ns, H L = some (.lst ns)) (k : Kp L H H') : NumG K G H' v x := by
  obtain ⟨a, dx, e, ha⟩ := h
  exact ⟨a, dx, e, k.at_ hL ha fun xs z => by cases z⟩
theorem GAt.kp {L : Addr} {p : Nat} (h : GAt K H v p) (hL : ∃ ns, H L = some (.lst ns)) (k : Kp L H H') : GAt K H' v p := by
  obtain ⟨a, dx, e, ha⟩ := h
  exact ⟨a, dx, e, k.at_ hL ha fun xs z => by cases z⟩
theorem RepD.kp {L : Addr} (h : RepD K G H v d) (hL : ∃ ns, H L = some (.lst ns)) (k : Kp L H H') : RepD K G H' v d := by
  induction h with
  | non => exact .non
  | bl b => exact .bl b
  | int i => exact .int i
  | str s => exact .str s
  | tup h hl _ ih => exact .tup (k.at_ hL h fun xs z => by cases z) hl ih
  | @lst a xs h =>
    by_cases e : a = L
    · subst e
      obtain ⟨ys, h'⟩ := k.lst xs h
      exact .lst h'
    · exact .lst (k.keep _ _ h e)
  | num h => exact .num (h.kp hL k)
  | othQ hp h => exact .othQ hp (k.at_ hL h fun xs z => by cases z)
  | othR q h hq hn => exact .othR q (k.at_ hL h fun xs z => by cases z) hq hn
theorem RepD.mono (h : RepD K G H v d) (e : Same H H') : RepD K G H' v d := by
  induction h with
  | non => exact .non
  | bl b => exact .bl b
  | int i => exact .int i
  | str s => exact .str s
  | tup h hl _ ih => exact .tup (e _ _ h) hl ih
  | lst h => exact .lst (e _ _ h)
  | num h => exact .num (h.mono e)
  | othQ hp h => exact .othQ hp (e _ _ h)
  | othR q h hq hn => exact .othR q (e _ _ h) hq hn
theorem RepD.al {a : Addr} {ds : List (D F)} (h : RepD K G H v (.tup ds)) : ∃ a vs, v = .ref a ∧ H a = some (.tup vs) ∧ Al (RepD K G H) vs ds := by
  cases h with
  | tup h hl hd => exact ⟨_, _, rfl, h, hl, hd⟩
theorem RepD.tupA {a : Addr} {vs : List V} {ds : List (D F)} (h : H a = some (.tup vs)) (al : Al (RepD K G H) vs ds) : RepD K G H (.ref a) (.tup ds) := .tup h al.len al.at_
end
/-! ### types -/
def isTup : D F → Bool
  | .tup _ => true
  | _ => false
def isIntD : D F → Bool
  | .int _ => true
  | .bl _ => true
  | _ => false
def isBl : D F → Bool
  | .bl _ => true
  | _ => false
variable {K : PySem.W.Frag} {mg : Str → Option Value} {G : Gnd F} {H H' : Hp} {v : V} {d : D F}
theorem tyD (T : Tx K mg) (h : RepD K G H v d) : ∃ t, TyX K H v t ∧ PySem.W.kitOne K t (.type "tuple") = some (isTup d) ∧ PySem.W.kitOne K t (.type "int") = some (isIntD d) ∧ PySem.W.kitOne K t (.type "bool") = some (isBl d) := by
  have own : ∀ {a dx : Addr} {fs : List (Str × V)} (p : Nat), H a = some (.ins (cN K p) dx fs) → ∃ t, TyX K H (.ref a) t ∧ PySem.W.kitOne K t (.type "tuple") = some false ∧ PySem.W.kitOne K t (.type "int") = some false ∧ PySem.W.kitOne K t (.type "bool") = some false := fun {a dx fs} p h => by
    refine ⟨_, num_ty T h, ?_⟩
    by_cases hp : p = 0
    · rw [cN_q hp]
      exact ⟨of_decide_eq_true (x_is_Ratio_tuple T.x), of_decide_eq_true (x_is_Ratio_int T.x), of_decide_eq_true (x_is_Ratio_bool T.x)⟩
    · rw [cN_r hp]
      exact ⟨of_decide_eq_true (x_is_Residue_tuple T.x), of_decide_eq_true (x_is_Residue_int T.x), of_decide_eq_true (x_is_Residue_bool T.x)⟩
  cases h with
  | non => exact ⟨_, .base .non, kit_ty (show kitB "NoneType" "tuple" = some false by decide +kernel), kit_ty (show kitB "NoneType" "int" = some false by decide +kernel), kit_ty (show kitB "NoneType" "bool" = some false by decide +kernel)⟩
  | bl b => exact ⟨_, .base (.bl b), kit_ty (show kitB "bool" "tuple" = some false by decide +kernel), kit_ty (show kitB "bool" "int" = some true by decide +kernel), kit_ty (show kitB "bool" "bool" = some true by decide +kernel)⟩
  | int i => exact ⟨_, .base (.int i), kit_ty (show kitB "int" "tuple" = some false by decide +kernel), kit_ty (show kitB "int" "int" = some true by decide +kernel), kit_ty (show kitB "int" "bool" = some false by decide +kernel)⟩
  | str s => exact ⟨_, .base (.str s), kit_ty (show kitB "str" "tuple" = some false by decide +kernel), kit_ty (show kitB "str" "int" = some false by decide +kernel), kit_ty (show kitB "str" "bool" = some false by decide +kernel)⟩
  | tup h _ _ => exact ⟨_, .base (.tup h), kit_ty (show kitB "tuple" "tuple" = some true by decide +kernel), kit_ty (show kitB "tuple" "int" = some false by decide +kernel), kit_ty (show kitB "tuple" "bool" = some false by decide +kernel)⟩
  | lst h => exact ⟨_, .base (.lst h), kit_ty (show kitB "list" "tuple" = some false by decide +kernel), kit_ty (show kitB "list" "int" = some false by decide +kernel), kit_ty (show kitB "list" "bool" = some false by decide +kernel)⟩
  | num h =>
    obtain ⟨a, dx, rfl, ha⟩ := h
    exact own G.p ha
  | othQ hp h => exact own 0 h
  | othR q h hq hn => exact own 1 h
/-- is it a number of the ground -/
theorem tyQ_D (T : Tx K mg) (hp : G.p = 0) (h : RepD K G H v d) : ∃ t, TyX K H v t ∧ PySem.W.kitOne K t (.ref (He.ga K "Ratio")) = some (memD d).isSome := by
  cases h with
  | non => exact ⟨_, .base .non, of_decide_eq_true (x_is_NoneType_Ratio T.x)⟩
  | bl b => exact ⟨_, .base (.bl b), of_decide_eq_true (x_is_bool_Ratio T.x)⟩
  | int i => exact ⟨_, .base (.int i), of_decide_eq_true (x_is_int_Ratio T.x)⟩
  | str s => exact ⟨_, .base (.str s), of_decide_eq_true (x_is_str_Ratio T.x)⟩
  | tup h _ _ => exact ⟨_, .base (.tup h), of_decide_eq_true (x_is_tuple_Ratio T.x)⟩
  | lst h => exact ⟨_, .base (.lst h), of_decide_eq_true (x_is_list_Ratio T.x)⟩
  | num h =>
    obtain ⟨a, dx, rfl, ha⟩ := h.q hp
    exact ⟨_, tyQ T ha, of_decide_eq_true (x_is_Ratio_Ratio T.x)⟩
  | othQ hp' h => exact absurd hp hp'
  | othR q h hq hn => exact ⟨_, tyR T h, of_decide_eq_true (x_is_Residue_Ratio T.x)⟩
theorem tyR_D (T : Tx K mg) (hp : G.p ≠ 0) (h : RepD K G H v d) : ∃ t b, TyX K H v t ∧ PySem.W.kitOne K t (.ref (He.ga K "Residue")) = some b ∧ (b = false → (memD d).isSome = false) ∧
    (b = true → ∃ (a dx : Addr) (fs : List (Str × V)) (q : Int), v = .ref a ∧ H a = some (.ins (He.ga K "Residue") dx fs) ∧ fs.lookup ("p" : Str) = some (.int q) ∧ (memD d).isSome = decide (q = G.p)) := by
  cases h with
  | non => exact ⟨_, _, .base .non, of_decide_eq_true (x_is_NoneType_Residue T.x), fun _ => rfl, fun z => nomatch z⟩
  | bl b => exact ⟨_, _, .base (.bl b), of_decide_eq_true (x_is_bool_Residue T.x), fun _ => rfl, fun z => nomatch z⟩
  | int i => exact ⟨_, _, .base (.int i), of_decide_eq_true (x_is_int_Residue T.x), fun _ => rfl, fun z => nomatch z⟩
  | str s => exact ⟨_, _, .base (.str s), of_decide_eq_true (x_is_str_Residue T.x), fun _ => rfl, fun z => nomatch z⟩
  | tup h _ _ => exact ⟨_, _, .base (.tup h), of_decide_eq_true (x_is_tuple_Residue T.x), fun _ => rfl, fun z => nomatch z⟩
  | lst h => exact ⟨_, _, .base (.lst h), of_decide_eq_true (x_is_list_Residue T.x), fun _ => rfl, fun z => nomatch z⟩
  | num h =>
    obtain ⟨a, dx, rfl, ha⟩ := h.r hp
    exact ⟨_, _, tyR T ha, of_decide_eq_true (x_is_Residue_Residue T.x), (fun z => nomatch z), fun _ => ⟨a, dx, _, G.p, rfl, ha, rfl, (decide_eq_true rfl).symm⟩⟩
  | othQ hp' h => exact ⟨_, _, tyQ T h, of_decide_eq_true (x_is_Ratio_Residue T.x), fun _ => rfl, fun z => nomatch z⟩
  | othR q h hq hn => exact ⟨_, _, tyR T h, of_decide_eq_true (x_is_Residue_Residue T.x), (fun z => nomatch z), fun _ => ⟨_, _, _, q, rfl, h, hq, (decide_eq_false hn).symm⟩⟩
end
section
variable {P : Program} {w : World} {K : PySem.W.Frag} {mg : Str → Option Value} {base : Heap} {F : Type} [Lean.Grind.CommRing F] [DecidableEq F]
def spMember (K : PySem.W.Frag) (G : Gnd F) : L2.Sp := fun vs H Q _ => ∃ g x d, vs = [g, x] ∧ GAt K H g G.p ∧ RepD K G H x d ∧ Q (.bl (memD d).isSome) H
theorem ok_is_member (T : Tx K mg) (G : Gnd F) : FnOk P w K mg base CX0 1 (aG K "is_member") (fdOf K (aG K "is_member")) ["self", "value"] (spMember K G) := by
  refine fok (F_G_is_member T.c) sc_G_is_member (fun vs H Q E h => ?_) (fun cdv A outer s H vs Q E hr h => ?_)
  · obtain ⟨g, x, d, rfl, _⟩ := h
    rfl
  · obtain ⟨g, x, d, rfl, ⟨a, dx, rfl, ha⟩, hd, q⟩ := h
    have cl : Cls K (He.ga K "Ground") := He.cls_ok (a_cls_Ground T.c)
    have np : NoAttr K (He.ga K "Ground") "p" := He.noat_ok (a_noat_Ground_p T.c)
    have clR : Cls K (He.ga K "Residue") := He.cls_ok (a_cls_Residue T.c)
    refine ⟨_, pss_cons (ps_if (pt_cmpR op_eq (pe_fld (pv 0) rfl) pe_int (nomark _)) (pss_one (ps_ret (pe_callB call_isi (by rfl) (T.free (a_free_isinstance T.c)) boot_isi (pa_cons (pv 1) (pa_cons (pe_glob (v := .ref (He.ga K "Ratio")) (by rfl) (T.glo (a_glo_Ratio T.c)) rfl) pa_nil))))) pss_nil)
      (pss_one (ps_ret (pe_and (pe_callB call_isi (by rfl) (T.free (a_free_isinstance T.c)) boot_isi (pa_cons (pv 1) (pa_cons (pe_glob (v := .ref (He.ga K "Residue")) (by rfl) (T.glo (a_glo_Residue T.c)) rfl) pa_nil)))
        (pe_one (pe_cmpR op_eq (pe_fld (pv 1) rfl) (pe_fld (pv 0) rfl) (nomark _)))))), ?_⟩
    refine ⟨_, rfl, a, _, dx, _, _, rfl, ha, cl, np, rfl, rfl, _, rfl, ?_⟩
    by_cases hp : G.p = 0
    · rw [decide_eq_true (by rw [hp]; rfl)]
      refine iteT ?_
      obtain ⟨t, ht, hk⟩ := tyQ_D T hp hd
      exact ⟨_, rfl, x, _, t, _, _, rfl, .own _, ht, hk, q⟩
    · rw [decide_eq_false (fun z => hp (by have := V.int.inj z; omega))]
      refine iteF ?_
      obtain ⟨t, b, ht, hk, h0, h1⟩ := tyR_D T hp hd
      refine ⟨_, rfl, x, _, t, _, b, rfl, .own _, ht, hk, b, rfl, ?_⟩
      cases b with
      | false =>
        rw [h0 rfl] at q
        exact q
      | true =>
        obtain ⟨c, dy, fs, qq, rfl, hc, hl, hm⟩ := h1 rfl
        refine iteT ?_
        refine ⟨_, rfl, c, _, dy, _, _, rfl, hc, clR, He.noat_ok (a_noat_Residue_p T.c), hl, ?_⟩
        refine ⟨_, rfl, a, _, dx, _, _, rfl, ha, cl, np, rfl, rfl, ?_⟩
        have e : decide (V.int qq = V.int (G.p : Int)) = (memD d).isSome := by
          rw [hm, Bool.eq_iff_iff]
          simp
        rw [e]
        exact q
/-- what taken takes: an integer or a number -/
def TkAt (K : PySem.W.Frag) (G : Gnd F) (v : V) (x : F) (H : Hp) : Prop := (∃ n, v = .int n ∧ n.natAbs ≤ 2 ^ 100 ∧ G.ic n = x) ∨ NumG K G H v x
theorem TkAt.mono {G : Gnd F} {v : V} {x : F} {H H' : Hp} (e : Same H H') (h : TkAt K G v x H) : TkAt K G v x H' := h.elim .inl fun h => .inr (h.mono e)
def spTaken (K : PySem.W.Frag) (G : Gnd F) : L2.Sp := fun vs H Q _ => ∃ g v x, vs = [g, v] ∧ GAt K H g G.p ∧ TkAt K G v x H ∧ ∀ v H', Same H H' → NumG K G H' v x → Q v H'
theorem ok_taken (T : Tx K mg) (G : Gnd F) : FnOk P w K mg base CX0 9 (He.fAd K ("taken", none)) (fdOf K (He.fAd K ("taken", none))) ["ground", "item"] (spTaken K G) := by
  refine fok (F_taken T.c) sc_taken (fun vs H Q E h => ?_) (fun cdv A outer s H vs Q E hr h => ?_)
  · obtain ⟨g, v, x, rfl, _⟩ := h
    rfl
  · obtain ⟨g, v, x, rfl, hg, hv, q⟩ := h
    obtain ⟨a, dx, rfl, ha⟩ := id hg
    obtain ⟨ds, hds, hb⟩ := B1_G_number T.c
    have clG : Cls K (He.ga K "Ground") := He.cls_ok (a_cls_Ground T.c)
    refine ⟨_, pss_cons (ps_if (pt_val (pe_call ((ok_is_integer T).mono (by decide)) hr (by rfl) (T.glo (a_glo_is_integer T.c)) (F_is_integer T.c).kp (B_is_integer T.c) .nil pass0 (pa_cons (pv 1) pa_nil)))
        (pss_one (ps_ret (pe_meth (pv 0) clG (He.meth_ok (a_meth_G_number T.c)) (ok_number T G) hr hb hds pass0 (pa_cons (pv 1) pa_nil)))) pss_nil)
      (pss_cons (ps_if (pt_val (pe_meth (pv 0) clG (He.meth_ok (a_meth_G_is_member T.c)) ((ok_is_member T G).mono (by decide)) hr (B_G_is_member T.c) .nil pass0 (pa_cons (pv 1) pa_nil))) (pss_one (ps_ret (pv 1))) pss_nil)
      (pss_one ps_never)), ?_⟩
    rcases hv with ⟨n, rfl, hn, hx⟩ | hv
    · refine ⟨_, rfl, .int n, .type "int", true, false, rfl, .base (.int n), by rfl, kit_ty (by decide +kernel), true, rfl, iteT ?_⟩
      refine ⟨_, rfl, a, dx, _, rfl, ha, rfl, ?_⟩
      exact ⟨_, rfl, _, n, rfl, hg, hn, fun v H' e h => q v H' e (by rw [← hx]; exact h)⟩
    · have hd : RepD K G H v (.num x) := .num hv
      obtain ⟨t, ht, _, h1, h2⟩ := tyD T hd
      refine ⟨_, rfl, v, t, false, false, rfl, ht, h1, h2, false, rfl, iteF ?_⟩
      refine ⟨_, rfl, a, dx, _, rfl, ha, rfl, ?_⟩
      exact ⟨v, rfl, _, v, _, rfl, hg, hd, true, rfl, iteT ⟨v, rfl, q v H (Same.refl H) hv⟩⟩
end
end K51

set_option Elab.async false
set_option linter.all false
set_option maxRecDepth 100000
set_option maxHeartbeats 4000000
set_option autoImplicit false
namespace K51
open PySem PySem.Spec PyProof.Rows L2
theorem boot_all : bootBuiltins "all" = some (.builtin "all") := by decide +kernel
section
variable {F : Type} [Lean.Grind.CommRing F] [DecidableEq F] {K : PySem.W.Frag} {G : Gnd F}
theorem upd_other {H : Hp} {a D : Addr} {o x : HO} {zs : List V} (h : H a = some o) (hD : H D = some (.lst zs)) (hn : ∀ xs, o ≠ .lst xs) : upd H D x a = some o := by
  rw [upd_ne (ne_of h hD (hn zs))]
  exact h
def RNum (K : PySem.W.Frag) (G : Gnd F) : V → F → Hp → Prop := fun v x H => NumG K G H v x
def RowT (K : PySem.W.Frag) (G : Gnd F) : V → List F → Hp → Prop := fun v xs H => ∃ a vs, v = .ref a ∧ H a = some (.tup vs) ∧ Al (fun v x => NumG K G H v x) vs xs
def RowL (K : PySem.W.Frag) (G : Gnd F) : V → List F → Hp → Prop := fun v xs H => ∃ a vs, v = .ref a ∧ H a = some (.lst vs) ∧ Al (fun v x => NumG K G H v x) vs xs
def TabT (K : PySem.W.Frag) (G : Gnd F) : V → List (List F) → Hp → Prop := fun v M H => ∃ a vs, v = .ref a ∧ H a = some (.tup vs) ∧ Al (fun v x => RowT K G v x H) vs M
def TabL (K : PySem.W.Frag) (G : Gnd F) : V → List (List F) → Hp → Prop := fun v M H => ∃ a vs, v = .ref a ∧ H a = some (.lst vs) ∧ Al (fun v x => RowL K G v x H) vs M
theorem mo_num : MoR (RNum K G) := fun v y H H' e h => NumG.mono h e
theorem mo_rowT : MoR (RowT K G) := fun v y H H' e ⟨a, vs, h1, h2, h3⟩ => ⟨a, vs, h1, e _ _ h2, h3.imp fun v x h => NumG.mono h e⟩
theorem mo_rowL : MoR (RowL K G) := fun v y H H' e ⟨a, vs, h1, h2, h3⟩ => ⟨a, vs, h1, e _ _ h2, h3.imp fun v x h => NumG.mono h e⟩
theorem mo_tabT : MoR (TabT K G) := fun v y H H' e ⟨a, vs, h1, h2, h3⟩ => ⟨a, vs, h1, e _ _ h2, h3.imp fun v x h => mo_rowT v x H H' e h⟩
theorem mo_tabL : MoR (TabL K G) := fun v y H H' e ⟨a, vs, h1, h2, h3⟩ => ⟨a, vs, h1, e _ _ h2, h3.imp fun v x h => mo_rowL v x H H' e h⟩
theorem num_mut {H : Hp} {D : Addr} {zs : List V} {x : HO} {v : V} {y : F} (hD : H D = some (.lst zs)) (h : NumG K G H v y) : NumG K G (upd H D x) v y := by
  obtain ⟨a, dx, e, ha⟩ := h
  exact ⟨a, dx, e, upd_other ha hD fun xs z => by cases z⟩
theorem rowT_mut {H : Hp} {D : Addr} {zs : List V} {x : HO} {v : V} {y : List F} (hD : H D = some (.lst zs)) (h : RowT K G v y H) : RowT K G v y (upd H D x) := by
  obtain ⟨a, vs, e, ha, al⟩ := h
  exact ⟨a, vs, e, upd_other ha hD (fun xs z => by cases z), al.imp fun v x h => num_mut hD h⟩
theorem rowL_mut {H : Hp} {D : Addr} {zs : List V} {x : HO} {v : V} {y : List F} (hD : H D = some (.lst zs)) (hn : v ≠ .ref D) (h : RowL K G v y H) : RowL K G v y (upd H D x) := by
  obtain ⟨a, vs, e, ha, al⟩ := h
  refine ⟨a, vs, e, ?_, al.imp fun v x h => num_mut hD h⟩
  rw [upd_ne (fun z => hn (by rw [e, z]))]
  exact ha
theorem stay_num {H1 : Hp} : Stay H1 Yes (RNum K G) := ⟨mo_num, fun v y H D zs zs' _ hD _ h => num_mut hD h⟩
theorem stay_rowT {H1 : Hp} : Stay H1 Yes (RowT K G) := ⟨mo_rowT, fun v y H D zs zs' _ hD _ h => rowT_mut hD h⟩
theorem stay_rowL {H1 : Hp} : Stay H1 Nt (RowL K G) := ⟨mo_rowL, fun v y H D zs zs' _ hD n h => rowL_mut hD n h⟩
/-- integers -/
def RInt : V → Int → Hp → Prop := fun v i _ => v = .int i
theorem stay_int {H1 : Hp} : Stay H1 Yes RInt := ⟨fun _ _ _ _ _ h => h, fun _ _ _ _ _ _ _ _ _ h => h⟩
def RBool : V → Bool → Hp → Prop := fun v b _ => v = .bl b
theorem stay_bool {H1 : Hp} : Stay H1 Yes RBool := ⟨fun _ _ _ _ _ h => h, fun _ _ _ _ _ _ _ _ _ h => h⟩
theorem al_int {zs : List V} {ys : List Int} {H : Hp} (h : Al (fun v y => RInt v y H) zs ys) : zs = ys.map V.int := by
  refine List.ext_getElem (by rw [h.len, List.length_map]) fun i h1 h2 => ?_
  rw [List.length_map] at h2
  rw [List.getElem_map]
  exact h.at_ i _ _ (List.getElem?_eq_getElem h1) (List.getElem?_eq_getElem h2)
theorem al_bool {zs : List V} {ys : List Bool} {H : Hp} (h : Al (fun v y => RBool v y H) zs ys) : zs = ys.map V.bl := by
  refine List.ext_getElem (by rw [h.len, List.length_map]) fun i h1 h2 => ?_
  rw [List.length_map] at h2
  rw [List.getElem_map]
  exact h.at_ i _ _ (List.getElem?_eq_getElem h1) (List.getElem?_eq_getElem h2)
theorem yes_all {H H1 : Hp} {v : V} : ∀ D, H1 D = none → H D ≠ none → Yes v D := fun _ _ _ => trivial
theorem nt_new {H H1 : Hp} {p : Addr} (h : H p = none) : ∀ D, H1 D = none → H D ≠ none → Nt (.ref p) D := fun D _ h2 e => h2 (by
  injection e with e
  rw [← e]
  exact h)
theorem nt_old {H H1 : Hp} {p : Addr} (h : H1 p ≠ none) : ∀ D, H1 D = none → H D ≠ none → Nt (.ref p) D := fun D h1 _ e => h (by
  injection e with e
  rw [e]
  exact h1)
/-- a sequence of sequences that taken_rows takes: lists of lists, tuples of tuples -/
def SeqK (k : Bool) (H : Hp) (a : Addr) (vs : List V) : Prop := H a = some (if k then .lst vs else .tup vs)
def TkRow (K : PySem.W.Frag) (G : Gnd F) (k : Bool) : V → List F → Hp → Prop := fun v xs H => ∃ a vs, v = .ref a ∧ SeqK k H a vs ∧ Al (fun v x => TkAt K G v x H) vs xs
theorem TkRow.mono {k : Bool} {v : V} {xs : List F} {H H' : Hp} (e : Same H H') (h : TkRow K G k v xs H) : TkRow K G k v xs H' := by
  obtain ⟨a, vs, h1, h2, h3⟩ := h
  exact ⟨a, vs, h1, e _ _ h2, h3.imp fun v x h => TkAt.mono e h⟩
def TkTab (K : PySem.W.Frag) (G : Gnd F) (k : Bool) : V → List (List F) → Hp → Prop := fun v M H => ∃ a vs, v = .ref a ∧ SeqK k H a vs ∧ Al (fun v x => TkRow K G k v x H) vs M
theorem TabL.tk {v : V} {M : List (List F)} {H : Hp} (h : TabL K G v M H) : TkTab K G true v M H := by
  obtain ⟨a, vs, h1, h2, h3⟩ := h
  refine ⟨a, vs, h1, h2, h3.imp fun v x h => ?_⟩
  obtain ⟨b, us, g1, g2, g3⟩ := h
  exact ⟨b, us, g1, g2, g3.imp fun v x h => .inr h⟩
theorem TabT.tk {v : V} {M : List (List F)} {H : Hp} (h : TabT K G v M H) : TkTab K G false v M H := by
  obtain ⟨a, vs, h1, h2, h3⟩ := h
  refine ⟨a, vs, h1, h2, h3.imp fun v x h => ?_⟩
  obtain ⟨b, us, g1, g2, g3⟩ := h
  exact ⟨b, us, g1, g2, g3.imp fun v x h => .inr h⟩
end
section
variable {P : Program} {w : World} {K : PySem.W.Frag} {mg : Str → Option Value} {base : Heap} {F : Type} [Lean.Grind.CommRing F] [DecidableEq F]
/-- all rows have at most a thousand items, there are at most a thousand rows -/
def Small (M : List (List F)) : Prop := M.length ≤ 1000 ∧ ∀ r, r ∈ M → r.length ≤ 1000
theorem Small.of {M : List (List F)} {w : Nat} (h : M.length ≤ 1000) (hw : w ≤ 1000) (hr : ∀ r, r ∈ M → r.length = w) : Small M := ⟨h, fun r h => by rw [hr r h]; exact hw⟩
def spTakenRows (K : PySem.W.Frag) (G : Gnd F) (k : Bool) : L2.Sp := fun vs H Q _ => ∃ g v M, vs = [g, v] ∧ GAt K H g G.p ∧ TkTab K G k v M H ∧ Small M ∧ ∀ v H', Same H H' → TabT K G v M H' → Q v H'

theorem ok_taken_rows_list (T : Tx K mg) (G : Gnd F) : FnOk P w K mg base CX0 10 (He.fAd K ("taken_rows", none)) (fdOf K (He.fAd K ("taken_rows", none))) ["ground", "rows"] (spTakenRows K G true) := by
  refine fok (F_taken_rows T.c) sc_taken_rows (fun vs H Q E h => ?_) (fun cdv A outer s H vs Q E hr h => ?_)
  · obtain ⟨g, v, M, rfl, _⟩ := h
    rfl
  · obtain ⟨g, v, M, rfl, hg, ⟨a, rs, rfl, ha, al⟩, ⟨hs1, hs2⟩, q⟩ := h
    have ha' : H a = some (.lst rs) := ha
    refine ⟨_, pss_cons (ps_if (pt_not (pt_val (pe_callB call_isiT (by rfl) (T.free (a_free_isinstance T.c)) boot_isi (pa_cons (pv 1) (pa_cons (pe_tup (pa_cons (pe_bltn (v := .ty "list") (by rfl) (T.free (a_free_list T.c)) boot_tlist rfl) (pa_cons (pe_bltn (v := .ty "tuple") (by rfl) (T.free (a_free_tuple T.c)) boot_ttuple rfl) pa_nil))) pa_nil))))) (pss_one ps_never) pss_nil)
      (pss_cons (ps_set (i := 2) sc_taken_rows.nd rfl (.inl rfl) (pe_lst pa_nil))
      (pss_cons (ps_for PassesOwn.never rfl (pi_list (pv 1)) (pg_name (i := 3) sc_taken_rows.nd rfl (.inl rfl))
        (pss_cons (ps_if (pt_not (pt_val (pe_callB call_isiT (by rfl) (T.free (a_free_isinstance T.c)) boot_isi (pa_cons (pv 3) (pa_cons (pe_tup (pa_cons (pe_bltn (v := .ty "list") (by rfl) (T.free (a_free_list T.c)) boot_tlist rfl) (pa_cons (pe_bltn (v := .ty "tuple") (by rfl) (T.free (a_free_tuple T.c)) boot_ttuple rfl) pa_nil))) pa_nil))))) (pss_one ps_never) pss_nil)
        (pss_one (ps_expr (pe_bm PySem.F.plainAttrs_list PySem.F.slot_list_append PySem.F.type_list_append mt_append (pv 2) (pa_cons
          (pe_callTy call_tuple_of (by rfl) (T.free (a_free_tuple T.c)) boot_ttuple (pa_cons (pe_lc (own := [("item", 4)]) (g := gName 4) (tt := tYes) rfl sc_taken_rows.nd (pi_list (pv 3)) (blkOk_by (N := ["ground", "rows", "found", "row", "item"]) (sc := defScope s_taken_rows) (by decide +kernel))
            (fun _ _ _ _ _ => pg_name (i := 4) sc_taken_rows.nd rfl (.inl rfl)) (fun _ _ _ _ _ => pts_nil)
            (fun _ _ _ _ _ => pe_call (ok_taken T G) hr (by rfl) (T.glo (a_glo_taken T.c)) (F_taken T.c).kp (B_taken T.c) .nil pass0 (pa_cons (pv 0) (pa_cons (pv 4) pa_nil)))) pa_nil)) pa_nil))))))
      (pss_one (ps_ret (pe_callTy call_tuple_of (by rfl) (T.free (a_free_tuple T.c)) boot_ttuple (pa_cons (pv 2) pa_nil)))))), ?_⟩
    refine ⟨_, rfl, by decide, fun p np => ?_⟩
    have sp : Same H (upd H p (.tup [.ty "list", .ty "tuple"])) := same_upd np
    refine ⟨.ref a, p, _, .type "list", [.type "list", .type "tuple"], true, rfl, upd_same, .cons (.ty "list") (.cons (.ty "tuple") .nil), .base (.lst (sp _ _ ha')), kitAny_cons (b := true) (kit_ty (show kitB "list" "list" = some true by decide +kernel)) (fun z => nomatch z) (fun _ => rfl), true, rfl, iteF ?_⟩
    refine ⟨Nat.zero_le _, fun o no => ?_⟩
    have so := sp.trans (same_upd (o := .lst []) no)
    refine ⟨.ref a, rfl, a, rfl, ⟨_, SqL.of (so _ _ ha')⟩, ?_⟩
    refine for_list (xs := rs) (fun i σ H' => Same H H' ∧ ∃ zs y3, σ = [some g, some (.ref a), some (.ref o), y3, none] ∧ H' o = some (.lst zs) ∧ Al (fun v x => RowT K G v x H') zs (M.take i)) ⟨so, [], none, rfl, upd_same, Al.nil⟩
      (fun i σ H' _ hP => SqL.of (hP.1 _ _ ha')) (fun i x σ H' hx hP => ?_) fun σ H' hP => ?_
    · obtain ⟨s1, zs, y3, rfl, ho, hz⟩ := hP
      obtain ⟨row, hrow, hxr⟩ := al.got hx
      have hno : H o = none := by
        cases e : H o with
        | none => rfl
        | some u =>
          rw [sp _ _ e] at no
          cases no
      obtain ⟨b, us, rfl, hb, al2⟩ := hxr.mono s1
      have hb' : H' b = some (.lst us) := hb
      refine ⟨_, rfl, by decide, fun p2 np2 => ?_⟩
      have sp2 : Same H' (upd H' p2 (.tup [.ty "list", .ty "tuple"])) := same_upd np2
      refine ⟨.ref b, p2, _, .type "list", [.type "list", .type "tuple"], true, rfl, upd_same, .cons (.ty "list") (.cons (.ty "tuple") .nil), .base (.lst (sp2 _ _ hb')), kitAny_cons (b := true) (kit_ty (show kitB "list" "list" = some true by decide +kernel)) (fun z => nomatch z) (fun _ => rfl), true, rfl, iteF ?_⟩
      refine ⟨.ref o, rfl, .inl ⟨rfl, _, .inl (.inl (sp2 _ _ ho))⟩, ?_⟩
      have hrl : row.length ≤ 1000 := hs2 row (List.mem_of_getElem? hrow)
      refine p_cons (p_cb (p_cons (tlc_l (H1 := upd H' p2 (.tup [.ty "list", .ty "tuple"])) (ys := row) (R := RNum K G) (N := Yes) (fun R r => ⟨.ref b, rfl, b, rfl, ⟨_, SqL.of (sp2 _ _ hb')⟩, r⟩) stay_num (SqL.of (sp2 _ _ hb')) al2.len (by omega) (by intro x; rfl) (fun j x y hx2 hy2 => ?_) (fun p3 H3 ws np3 s3 h3 al3 => ?_))))
      · intro H4 s4 Q4 k4
        refine ⟨g, rfl, x, rfl, ?_⟩
        exact ⟨g, x, y, rfl, hg.mono ((s1.trans sp2).trans s4), (al2.at_ j x y hx2 hy2).mono (sp2.trans s4), fun v H5 e5 h5 => k4 v H5 e5 h5 yes_all⟩
      · refine ⟨p3, ws, rfl, .inl ⟨SqL.of h3, fun l nl => ?_⟩⟩
        have sl : Same H3 (upd H3 l (.tup ws)) := same_upd nl
        have s5 : Same H' (upd H3 l (.tup ws)) := (sp2.trans s3).trans sl
        have hzl := hz.len
        rw [List.length_take] at hzl
        refine ⟨o, zs, .ref l, rfl, rfl, s5 _ _ ho, small1000 (by omega), ?_⟩
        refine ⟨same_mut hno (s1.trans s5), zs ++ [.ref l], some (.ref b), rfl, upd_same, ?_⟩
        rw [List.take_add_one, hrow]
        have hl5 : (upd H3 l (.tup ws)) o = some (.lst zs) := s5 _ _ ho
        refine (hz.imp fun v x h => rowT_mut hl5 (mo_rowT v x _ _ s5 h)).snoc (rowT_mut hl5 ⟨l, ws, rfl, upd_same, al3.imp fun v x h => NumG.mono h sl⟩)
    · obtain ⟨s1, zs, y3, rfl, ho, hz⟩ := hP
      refine ⟨_, rfl, o, zs, rfl, .inl ⟨SqL.of ho, fun l nl => ?_⟩⟩
      have sl : Same H' (upd H' l (.tup zs)) := same_upd nl
      refine q _ _ (s1.trans sl) ⟨l, zs, rfl, upd_same, ?_⟩
      rw [List.take_of_length_le (by rw [al.len]; exact Nat.le_refl _)] at hz
      exact hz.imp fun v x h => mo_rowT v x _ _ sl h
theorem ok_taken_rows_tuple (T : Tx K mg) (G : Gnd F) : FnOk P w K mg base CX0 10 (He.fAd K ("taken_rows", none)) (fdOf K (He.fAd K ("taken_rows", none))) ["ground", "rows"] (spTakenRows K G false) := by
  refine fok (F_taken_rows T.c) sc_taken_rows (fun vs H Q E h => ?_) (fun cdv A outer s H vs Q E hr h => ?_)
  · obtain ⟨g, v, M, rfl, _⟩ := h
    rfl
  · obtain ⟨g, v, M, rfl, hg, ⟨a, rs, rfl, ha, al⟩, ⟨hs1, hs2⟩, q⟩ := h
    have ha' : H a = some (.tup rs) := ha
    refine ⟨_, pss_cons (ps_if (pt_not (pt_val (pe_callB call_isiT (by rfl) (T.free (a_free_isinstance T.c)) boot_isi (pa_cons (pv 1) (pa_cons (pe_tup (pa_cons (pe_bltn (v := .ty "list") (by rfl) (T.free (a_free_list T.c)) boot_tlist rfl) (pa_cons (pe_bltn (v := .ty "tuple") (by rfl) (T.free (a_free_tuple T.c)) boot_ttuple rfl) pa_nil))) pa_nil))))) (pss_one ps_never) pss_nil)
      (pss_cons (ps_set (i := 2) sc_taken_rows.nd rfl (.inl rfl) (pe_lst pa_nil))
      (pss_cons (ps_for PassesOwn.never rfl (pi_tup (pv 1)) (pg_name (i := 3) sc_taken_rows.nd rfl (.inl rfl))
        (pss_cons (ps_if (pt_not (pt_val (pe_callB call_isiT (by rfl) (T.free (a_free_isinstance T.c)) boot_isi (pa_cons (pv 3) (pa_cons (pe_tup (pa_cons (pe_bltn (v := .ty "list") (by rfl) (T.free (a_free_list T.c)) boot_tlist rfl) (pa_cons (pe_bltn (v := .ty "tuple") (by rfl) (T.free (a_free_tuple T.c)) boot_ttuple rfl) pa_nil))) pa_nil))))) (pss_one ps_never) pss_nil)
        (pss_one (ps_expr (pe_bm PySem.F.plainAttrs_list PySem.F.slot_list_append PySem.F.type_list_append mt_append (pv 2) (pa_cons
          (pe_callTy call_tuple_of (by rfl) (T.free (a_free_tuple T.c)) boot_ttuple (pa_cons (pe_lc (own := [("item", 4)]) (g := gName 4) (tt := tYes) rfl sc_taken_rows.nd (pi_tup (pv 3)) (blkOk_by (N := ["ground", "rows", "found", "row", "item"]) (sc := defScope s_taken_rows) (by decide +kernel))
            (fun _ _ _ _ _ => pg_name (i := 4) sc_taken_rows.nd rfl (.inl rfl)) (fun _ _ _ _ _ => pts_nil)
            (fun _ _ _ _ _ => pe_call (ok_taken T G) hr (by rfl) (T.glo (a_glo_taken T.c)) (F_taken T.c).kp (B_taken T.c) .nil pass0 (pa_cons (pv 0) (pa_cons (pv 4) pa_nil)))) pa_nil)) pa_nil))))))
      (pss_one (ps_ret (pe_callTy call_tuple_of (by rfl) (T.free (a_free_tuple T.c)) boot_ttuple (pa_cons (pv 2) pa_nil)))))), ?_⟩
    refine ⟨_, rfl, by decide, fun p np => ?_⟩
    have sp : Same H (upd H p (.tup [.ty "list", .ty "tuple"])) := same_upd np
    refine ⟨.ref a, p, _, .type "tuple", [.type "list", .type "tuple"], true, rfl, upd_same, .cons (.ty "list") (.cons (.ty "tuple") .nil), .base (.tup (sp _ _ ha')), kitAny_cons (b := false) (kit_ty (show kitB "tuple" "list" = some false by decide +kernel)) (fun _ => kitAny_cons (b := true) (kit_ty (show kitB "tuple" "tuple" = some true by decide +kernel)) (fun z => nomatch z) (fun _ => rfl)) (fun z => nomatch z), true, rfl, iteF ?_⟩
    refine ⟨Nat.zero_le _, fun o no => ?_⟩
    have so := sp.trans (same_upd (o := .lst []) no)
    refine ⟨.ref a, rfl, a, rfl, ⟨_, SqT.of (so _ _ ha')⟩, ?_⟩
    refine for_tup (xs := rs) (fun i σ H' => Same H H' ∧ ∃ zs y3, σ = [some g, some (.ref a), some (.ref o), y3, none] ∧ H' o = some (.lst zs) ∧ Al (fun v x => RowT K G v x H') zs (M.take i)) ⟨so, [], none, rfl, upd_same, Al.nil⟩
      (fun i σ H' _ hP => SqT.of (hP.1 _ _ ha')) (fun i x σ H' hx hP => ?_) fun σ H' hP => ?_
    · obtain ⟨s1, zs, y3, rfl, ho, hz⟩ := hP
      obtain ⟨row, hrow, hxr⟩ := al.got hx
      have hno : H o = none := by
        cases e : H o with
        | none => rfl
        | some u =>
          rw [sp _ _ e] at no
          cases no
      obtain ⟨b, us, rfl, hb, al2⟩ := hxr.mono s1
      have hb' : H' b = some (.tup us) := hb
      refine ⟨_, rfl, by decide, fun p2 np2 => ?_⟩
      have sp2 : Same H' (upd H' p2 (.tup [.ty "list", .ty "tuple"])) := same_upd np2
      refine ⟨.ref b, p2, _, .type "tuple", [.type "list", .type "tuple"], true, rfl, upd_same, .cons (.ty "list") (.cons (.ty "tuple") .nil), .base (.tup (sp2 _ _ hb')), kitAny_cons (b := false) (kit_ty (show kitB "tuple" "list" = some false by decide +kernel)) (fun _ => kitAny_cons (b := true) (kit_ty (show kitB "tuple" "tuple" = some true by decide +kernel)) (fun z => nomatch z) (fun _ => rfl)) (fun z => nomatch z), true, rfl, iteF ?_⟩
      refine ⟨.ref o, rfl, .inl ⟨rfl, _, .inl (.inl (sp2 _ _ ho))⟩, ?_⟩
      have hrl : row.length ≤ 1000 := hs2 row (List.mem_of_getElem? hrow)
      refine p_cons (p_cb (p_cons (tlc_t (H1 := upd H' p2 (.tup [.ty "list", .ty "tuple"])) (ys := row) (R := RNum K G) (N := Yes) (fun R r => ⟨.ref b, rfl, b, rfl, ⟨_, SqT.of (sp2 _ _ hb')⟩, r⟩) stay_num (SqT.of (sp2 _ _ hb')) al2.len (by omega) (by intro x; rfl) (fun j x y hx2 hy2 => ?_) (fun p3 H3 ws np3 s3 h3 al3 => ?_))))
      · intro H4 s4 Q4 k4
        refine ⟨g, rfl, x, rfl, ?_⟩
        exact ⟨g, x, y, rfl, hg.mono ((s1.trans sp2).trans s4), (al2.at_ j x y hx2 hy2).mono (sp2.trans s4), fun v H5 e5 h5 => k4 v H5 e5 h5 yes_all⟩
      · refine ⟨p3, ws, rfl, .inl ⟨SqL.of h3, fun l nl => ?_⟩⟩
        have sl : Same H3 (upd H3 l (.tup ws)) := same_upd nl
        have s5 : Same H' (upd H3 l (.tup ws)) := (sp2.trans s3).trans sl
        have hzl := hz.len
        rw [List.length_take] at hzl
        refine ⟨o, zs, .ref l, rfl, rfl, s5 _ _ ho, small1000 (by omega), ?_⟩
        refine ⟨same_mut hno (s1.trans s5), zs ++ [.ref l], some (.ref b), rfl, upd_same, ?_⟩
        rw [List.take_add_one, hrow]
        have hl5 : (upd H3 l (.tup ws)) o = some (.lst zs) := s5 _ _ ho
        refine (hz.imp fun v x h => rowT_mut hl5 (mo_rowT v x _ _ s5 h)).snoc (rowT_mut hl5 ⟨l, ws, rfl, upd_same, al3.imp fun v x h => NumG.mono h sl⟩)
    · obtain ⟨s1, zs, y3, rfl, ho, hz⟩ := hP
      refine ⟨_, rfl, o, zs, rfl, .inl ⟨SqL.of ho, fun l nl => ?_⟩⟩
      have sl : Same H' (upd H' l (.tup zs)) := same_upd nl
      refine q _ _ (s1.trans sl) ⟨l, zs, rfl, upd_same, ?_⟩
      rw [List.take_of_length_le (by rw [al.len]; exact Nat.le_refl _)] at hz
      exact hz.imp fun v x h => mo_rowT v x _ _ sl h
end
end K51

set_option Elab.async false
set_option linter.all false
set_option maxRecDepth 100000
set_option maxHeartbeats 4000000
set_option autoImplicit false
namespace K51
open PySem PySem.Spec PyProof.Rows L2
theorem boot_len : bootBuiltins "len" = some (.builtin "len") := by decide +kernel
theorem boot_range : bootBuiltins "range" = some (.type "range") := by decide +kernel
section
variable {X : Cx} {n : Nat} {C f : Addr} {fd : FuncData} {ps : List Str} {sp : L2.Sp}
/-- len(x), x an instance of an own class that has a __len__ -/
def rLenOwn (C : Addr) (sp : L2.Sp) : List V → Hp → VK → Prop := fun xs H Q => ∃ a dx fs, ∃ k : Nat, xs = [.ref a] ∧ H a = some (.ins C dx fs) ∧ k < 2 ^ 62 ∧ sp [.ref a] H (fun v H' => v = .int k ∧ H' = H) E0 ∧ Q (.int k) H
theorem call_len_own (F : FnOk X.prog X.w X.K X.mg X.base CX0 n f fd ps sp) (hr : Room (n + 1) X.A) (hs : PySem.W.findIn X.K (.ref C) "__len__" = some (some (.ref f)))
    (hf : PySem.W.isFn X.K (.ref f) = true) (hb : Binds X.K fd ps []) : CallR X (.builtin "len") (rLenOwn C sp) := by
  intro pins s σ H xs us Q I r h
  obtain ⟨a, dx, fs, k, rfl, ha, hk, hsp, q⟩ := h
  obtain ⟨u, rfl, rx⟩ := vals1 r
  cases rx
  obtain ⟨ox, od, J⟩ := inst_at I ha
  obtain ⟨m, hF⟩ := I.fr
  have sb : Sub X n X.A.in1 := (⟨hr, rfl⟩ : Sub X (n + 1) X.A).in1
  refine PySem.W.len_K hF I.ok.mod.kin J hs hf ?_
  have e0 : Env0 X.prog X.w X.K X.mg X.base X.A.in1 X.stack s H := by
    have e := I.env0
    exact ⟨by rw [sb.fr]; exact e.frames, e.mod, e.bs, e.bsz, e.funs, e.frf, e.hok, e.bare⟩
  have hl := F.len _ _ _ _ hsp
  have r2 : Vals [V.ref a] [Value.ref a] := .cons rfl .nil
  refine wpAny_call (codeAny_mono (F.run X.A.in1 X.stack s H ⟨[.ref a], []⟩ [.ref a] [.ref a] _ E0 sb.room e0 (by
    have := hb s [.ref a] I.kIn (by simpa using hl)
    simpa using this) r2 hsp) fun r' s' hq => ?_)
  cases r' with
  | error e => exact hq.elim
  | ok fl =>
    cases fl with
    | ret w =>
      obtain ⟨z, H', I', rz, ez, ex⟩ := I.after hq
      subst ez
      obtain ⟨t, rfl⟩ := rz
      subst ex
      exact ⟨⟨by omega, by omega⟩, .int k, H', I'.tok _, ⟨_, rfl⟩, q⟩
    | next => exact False.elim hq
    | brk => exact False.elim hq
    | cont => exact False.elim hq
end
section
variable {F : Type} [Lean.Grind.CommRing F] [DecidableEq F] {K : PySem.W.Frag} {G : Gnd F}
theorem upd_oth {H : Hp} {a b : Addr} {o o' x : HO} (h : H b = some o) (h' : H a = some o') (hn : o ≠ o') : upd H a x b = some o := by
  rw [upd_ne (fun e => hn (by
    rw [e, h'] at h
    exact (Option.some.inj h).symm))]
  exact h
/-- while an object is filled all else stands -/
theorem num_fill {H : Hp} {a C dx : Addr} {x : HO} {v : V} {y : F} (ha : H a = some (.ins C dx [])) (h : NumG K G H v y) : NumG K G (upd H a x) v y := by
  obtain ⟨b, dy, e, hb⟩ := h
  refine ⟨b, dy, e, upd_oth hb ha fun z => ?_⟩
  injection z with _ _ z
  unfold flN at z
  split at z <;> cases z
theorem g_fill {H : Hp} {a C dx : Addr} {x : HO} {v : V} {p : Nat} (ha : H a = some (.ins C dx [])) (h : GAt K H v p) : GAt K (upd H a x) v p := by
  obtain ⟨b, dy, e, hb⟩ := h
  exact ⟨b, dy, e, upd_oth hb ha fun z => by cases z⟩
theorem tabT_fill {H : Hp} {a C dx : Addr} {x : HO} {v : V} {M : List (List F)} (ha : H a = some (.ins C dx [])) (h : TabT K G v M H) : TabT K G v M (upd H a x) := by
  obtain ⟨b, vs, e, hb, al⟩ := h
  refine ⟨b, vs, e, upd_oth hb ha (fun z => by cases z), al.imp fun v r h => ?_⟩
  obtain ⟨c, us, e2, hc, al2⟩ := h
  exact ⟨c, us, e2, upd_oth hc ha (fun z => by cases z), al2.imp fun v x h => num_fill ha h⟩
/-- a matrix -/
def MatAt (K : PySem.W.Frag) (G : Gnd F) (H : Hp) (v : V) (M : List (List F)) (w : Nat) : Prop := ∃ a dx g r, v = .ref a ∧ H a = some (.ins (He.ga K "Matrix") dx [("ground", g), ("rows", r), ("width", .int w)]) ∧ GAt K H g G.p ∧ TabT K G r M H
theorem MatAt.mono {H H' : Hp} {v : V} {M : List (List F)} {w : Nat} (e : Same H H') (h : MatAt K G H v M w) : MatAt K G H' v M w := by
  obtain ⟨a, dx, g, r, e1, ha, hg, hr⟩ := h
  exact ⟨a, dx, g, r, e1, e _ _ ha, hg.mono e, mo_tabT _ _ _ _ e hr⟩
end
section
variable {P : Program} {w : World} {K : PySem.W.Frag} {mg : Str → Option Value} {base : Heap} {F : Type} [Lean.Grind.CommRing F] [DecidableEq F]
def spMinit (K : PySem.W.Frag) (G : Gnd F) (k : Bool) : L2.Sp := fun vs H Q _ => ∃ a dx g v M, ∃ wd : Nat, vs = [.ref a, g, v, .int wd] ∧ H a = some (.ins (He.ga K "Matrix") dx []) ∧ GAt K H g G.p ∧ TkTab K G k v M H ∧ M.length ≤ 8 ∧ wd ≤ 64 ∧ (∀ r, r ∈ M → r.length = wd) ∧
  ∀ r H', Same H H' → TabT K G r M H' → Q .non (upd H' a (.ins (He.ga K "Matrix") dx [("ground", g), ("rows", r), ("width", .int wd)]))
theorem Tx.int (T : Tx K mg) {x : Str} {i : Int} (h : (He.Fa.int x i).ok K = true) : ∃ t, mg x = some (.int i t) := let ⟨_, X, G⟩ := T.h; He.int_ok X G h
theorem ok_M_init (T : Tx K mg) (G : Gnd F) (k : Bool) : FnOk P w K mg base CX0 11 (He.fAd K ("Matrix", some "__init__")) (fdOf K (He.fAd K ("Matrix", some "__init__"))) ["self", "ground", "rows", "width"] (spMinit K G k) := by
  refine fok (F_M_init T.c) sc_M_init (fun vs H Q E h => ?_) (fun cdv A outer s H vs Q E hr h => ?_)
  · obtain ⟨a, dx, g, v, M, wd, rfl, _⟩ := h
    rfl
  · obtain ⟨a, dx, g, v, M, wd, rfl, ha, hg, hv, hM, hw, hrow, q⟩ := h
    have cl : Cls K (He.ga K "Matrix") := He.cls_ok (a_cls_Matrix T.c)
    have okT : FnOk P w K mg base CX0 10 (He.fAd K ("taken_rows", none)) (fdOf K (He.fAd K ("taken_rows", none))) ["ground", "rows"] (spTakenRows K G k) := by
      cases k with
      | true => exact ok_taken_rows_list T G
      | false => exact ok_taken_rows_tuple T G
    obtain ⟨t8, h8⟩ := T.int (a_int_MOST_ROWS T.c)
    obtain ⟨t64, h64⟩ := T.int (a_int_MOST_WIDTH T.c)
    refine ⟨_, pss_cons (ps_set (i := 4) sc_M_init.nd rfl (.inl rfl) (pe_call okT hr (by rfl) (T.glo (a_glo_taken_rows T.c)) (F_taken_rows T.c).kp (B_taken_rows T.c) .nil pass0 (pa_cons (pv 1) (pa_cons (pv 2) pa_nil))))
      (pss_cons (ps_if (pt_cmpR op_isN (pv 3) pe_non (nomark _)) (pss_cons ps_never (pss_one ps_never)) pss_nil)
      (pss_cons (ps_for PassesOwn.never rfl (pi_tup (pv 4)) (pg_name (i := 5) sc_M_init.nd rfl (.inl rfl))
        (pss_one (ps_if (pt_cmpR op_ne (pe_callB call_len_seq (by rfl) (T.free (a_free_len T.c)) boot_len (pa_cons (pv 5) pa_nil)) (pv 3) (nomark _)) (pss_one ps_never) pss_nil)))
      (pss_cons (ps_if (PW.pt (pw_or (pt_cmpR op_gt (pe_callB call_len_seq (by rfl) (T.free (a_free_len T.c)) boot_len (pa_cons (pv 4) pa_nil)) (pe_glob (v := .int 8) (by rfl) h8 ⟨_, rfl⟩) (nomark _))
          (pw_or1 (pt_cmpR op_gt (pv 3) (pe_glob (v := .int 64) (by rfl) h64 ⟨_, rfl⟩) (nomark _))))) (pss_one ps_never) pss_nil)
      (pss_cons (ps_fld (pv 0) (pv 1) rfl) (pss_cons (ps_fld (pv 0) (pv 4) rfl) (pss_one (ps_fld (pv 0) (pv 3) rfl))))))), ?_⟩
    refine ⟨g, rfl, v, rfl, g, v, M, rfl, hg, hv, ⟨by omega, fun r h => by rw [hrow r h]; omega⟩, fun r H1 e1 hT => ?_⟩
    obtain ⟨b, vs, rfl, hb, al⟩ := id hT
    refine ⟨_, rfl, rfl, _, rfl, iteF ?_⟩
    refine ⟨.ref b, rfl, b, rfl, ⟨_, .inl (.inl hb)⟩, ?_⟩
    refine for_tup (xs := vs) (fun i σ H' => H' = H1 ∧ ∃ y5, σ = [some (.ref a), some g, some v, some (.int wd), some (.ref b), y5]) ⟨rfl, none, rfl⟩
      (fun i σ H' _ hP => .inl (.inl (by rw [hP.1]; exact hb))) (fun i x σ H' hx hP => ?_) fun σ H' hP => ?_
    · obtain ⟨rfl, y5, rfl⟩ := hP
      obtain ⟨row, hrow2, c, us, rfl, hc, al2⟩ := al.got hx
      refine ⟨_, rfl, c, us, rfl, .inr (.inl (.inl hc)), _, rfl, rfl, _, rfl, ?_⟩
      refine ite2 (fun e => absurd e ?_) (fun _ => ⟨rfl, _, rfl⟩)
      rw [al2.len, hrow row (List.mem_of_getElem? hrow2)]
      simp
    · obtain ⟨rfl, y5, rfl⟩ := hP
      refine ⟨_, rfl, b, vs, rfl, .inr (.inl (.inl hb)), _, _, rfl, rfl, _, rfl, ?_⟩
      rw [al.len, decide_eq_false (by omega)]
      refine iteF ⟨_, rfl, _, _, rfl, rfl, _, rfl, ?_⟩
      rw [decide_eq_false (by omega)]
      refine iteF ?_
      refine ⟨_, rfl, _, rfl, a, _, dx, _, rfl, e1 _ _ ha, cl, He.noat_ok (a_noat_Matrix_ground T.c), by decide, ?_⟩
      refine ⟨_, rfl, _, rfl, a, _, dx, _, rfl, upd_same, cl, He.noat_ok (a_noat_Matrix_rows T.c), (show (1 : Nat) < 1000 by decide), ?_⟩
      refine ⟨_, rfl, _, rfl, a, _, dx, _, rfl, upd_same, cl, He.noat_ok (a_noat_Matrix_width T.c), (show (2 : Nat) < 1000 by decide), ?_⟩
      rw [upd_upd, upd_upd]
      exact q _ _ e1 hT
theorem mk_M {G : Gnd F} {k : Bool} {g v : V} {M : List (List F)} {wd : Nat} {H : Hp} {Q : VK} {E : XK} (hg : GAt K H g G.p) (hv : TkTab K G k v M H) (hM : M.length ≤ 8) (hw : wd ≤ 64) (hrow : ∀ r, r ∈ M → r.length = wd)
    (q : ∀ v H', Same H H' → MatAt K G H' v M wd → Q v H') :
    ∀ x dx, H x = none → H dx = none → dx ≠ x → spMinit K G k (.ref x :: ([g, v, .int wd] ++ [])) (upd (upd H dx (.own x)) x (.ins (He.ga K "Matrix") dx [])) (fun v H2 => v = .non ∧ Q (.ref x) H2) E := fun x dx h1 h2 h3 => by
  have e1 : Same H (upd (upd H dx (.own x)) x (.ins (He.ga K "Matrix") dx [])) := fun b o e => by
    rw [upd_ne (ne_of_none e h1), upd_ne (ne_of_none e h2)]
    exact e
  have hvt : TkTab K G k v M (upd (upd H dx (.own x)) x (.ins (He.ga K "Matrix") dx [])) := by
    obtain ⟨a, vs, e, hs, al⟩ := hv
    exact ⟨a, vs, e, e1 _ _ hs, al.imp fun v r h => h.mono e1⟩
  refine ⟨x, dx, g, v, M, wd, rfl, upd_same, hg.mono e1, hvt, hM, hw, hrow, fun r H' e hT => ⟨rfl, q _ _ ?_ ?_⟩⟩
  · intro b o eo
    have := e b o (e1 b o eo)
    rw [upd_ne (ne_of_none eo h1)]
    exact this
  · have hx := e _ _ upd_same
    exact ⟨x, dx, g, r, rfl, upd_same, g_fill hx (hg.mono (e1.trans e)), tabT_fill hx hT⟩
/-- len -/
def spMlen (K : PySem.W.Frag) (G : Gnd F) : L2.Sp := fun vs H Q _ => ∃ v M, ∃ wd : Nat, vs = [v] ∧ MatAt K G H v M wd ∧ Q (.int M.length) H
theorem ok_M_len (T : Tx K mg) (G : Gnd F) : FnOk P w K mg base CX0 1 (He.fAd K ("Matrix", some "__len__")) (fdOf K (He.fAd K ("Matrix", some "__len__"))) ["self"] (spMlen K G) := by
  refine fok (F_M_len T.c) sc_M_len (fun vs H Q E h => ?_) (fun cdv A outer s H vs Q E hr h => ?_)
  · obtain ⟨v, M, wd, rfl, _⟩ := h
    rfl
  · obtain ⟨v, M, wd, rfl, ⟨a, dx, g, r, rfl, ha, hg, b, vs, rfl, hb, al⟩, q⟩ := h
    have cl : Cls K (He.ga K "Matrix") := He.cls_ok (a_cls_Matrix T.c)
    refine ⟨_, pss_one (ps_ret (pe_callB call_len_seq (by rfl) (T.free (a_free_len T.c)) boot_len (pa_cons (pe_fld (pv 0) rfl) pa_nil))), ?_⟩
    refine ⟨_, rfl, a, _, dx, _, _, rfl, ha, cl, He.noat_ok (a_noat_Matrix_rows T.c), rfl, b, vs, rfl, .inr (.inl (.inl hb)), ?_⟩
    rw [al.len]
    exact q
end
section
variable {X : Cx} {F : Type} [Lean.Grind.CommRing F] [DecidableEq F]
/-- len(m) of a matrix -/
def rLenM (K : PySem.W.Frag) (G : Gnd F) : List V → Hp → VK → Prop := fun xs H Q => ∃ v M, ∃ wd : Nat, xs = [v] ∧ MatAt K G H v M wd ∧ M.length ≤ 8 ∧ Q (.int M.length) H
theorem call_len_M (T : Tx X.K X.mg) (G : Gnd F) (hr : Room 2 X.A) : CallR X (.builtin "len") (rLenM X.K G) := by
  intro pins s σ H xs us Q I r h
  obtain ⟨v, M, wd, rfl, hm, hl, q⟩ := h
  obtain ⟨a, dx, g, t, rfl, ha, _⟩ := id hm
  have mm := He.meth_ok (a_meth_M_len T.c)
  exact call_len_own (ok_M_len T G) hr mm.at_ mm.fn (B_M_len T.c) pins s σ H _ us Q I r ⟨a, dx, _, M.length, rfl, ha, by omega, ⟨_, M, wd, rfl, hm, rfl, rfl⟩, q⟩
end
end K51

set_option Elab.async false
set_option linter.all false
set_option maxRecDepth 100000
set_option maxHeartbeats 4000000
set_option autoImplicit false
namespace K51
open PySem PySem.Spec PyProof.Rows L2
section
variable {X : Cx} {K : PySem.W.Frag} {mg : Str → Option Value} {F : Type} [Lean.Grind.CommRing F] [DecidableEq F]
theorem opK_add (hK : X.K = K) (hm : X.mg = mg) (T : Tx K mg) (G : Gnd F) (hr : Room 6 X.A) : OpR X (binaryOp .Add) (rOwn (cN K G.p) (spBin K G fun x y => x + y)) := by
  subst hK hm
  exact opN_add T G hr
theorem opK_sub (hK : X.K = K) (hm : X.mg = mg) (T : Tx K mg) (G : Gnd F) (hr : Room 6 X.A) : OpR X (binaryOp .Sub) (rOwn (cN K G.p) (spBin K G fun x y => x - y)) := by
  subst hK hm
  exact opN_sub T G hr
theorem opK_mul (hK : X.K = K) (hm : X.mg = mg) (T : Tx K mg) (G : Gnd F) (hr : Room 6 X.A) : OpR X (binaryOp .Mult) (rOwn (cN K G.p) (spBin K G fun x y => x * y)) := by
  subst hK hm
  exact opN_mul T G hr
theorem unK_neg (hK : X.K = K) (hm : X.mg = mg) (T : Tx K mg) (G : Gnd F) (hr : Room 6 X.A) : UnR X (unaryOp .USub) (rOwn1 (cN K G.p) (spUn K G (fun _ => True) fun x => -x)) := by
  subst hK hm
  exact unN_neg T G hr
theorem callK_len (hK : X.K = K) (hm : X.mg = mg) (T : Tx K mg) (G : Gnd F) (hr : Room 2 X.A) : CallR X (.builtin "len") (rLenM K G) := by
  subst hK hm
  exact call_len_M T G hr
theorem eqK (hK : X.K = K) (hm : X.mg = mg) (T : Tx K mg) (p : Nat) : EqB X 1 (DNum K p) := by
  subst hK hm
  exact eqN T p
end
theorem p_next {D : Ends} {σ : L2.St} {H : Hp} (h : D.nx σ H) : tNext D σ H := h
section
variable {P : Program} {w : World} {K : PySem.W.Frag} {mg : Str → Option Value} {base : Heap} {F : Type} [Lean.Grind.CommRing F] [DecidableEq F]
theorem fl_none {p : Nat} {n d : Int} {m : Str} (h1 : m ≠ "p") (h2 : m ≠ "n") (h3 : m ≠ "d") : (flN p n d).lookup m = none := by
  have e1 : (m == ("p" : Str)) = false := by simpa using h1
  have e2 : (m == ("n" : Str)) = false := by simpa using h2
  have e3 : (m == ("d" : Str)) = false := by simpa using h3
  unfold flN
  split <;> simp [List.lookup, e1, e2, e3]
theorem rOwn_bin {G : Gnd F} {f : F → F → F} {v1 v2 : V} {x y : F} {b1 b2 : Nat} {H : Hp} {Q : VK} (h1 : NumG K G H v1 x) (h2 : NumG K G H v2 y) (c1 : bd G b1 b1 x) (c2 : bd G b2 b2 y) (hb : b1 + b2 ≤ 8990)
    (q : ∀ v H', Same H H' → NumG K G H' v (f x y) → Q v H') : rOwn (cN K G.p) (spBin K G f) v1 v2 H Q := by
  obtain ⟨a, dx, rfl, ha⟩ := id h1
  obtain ⟨b, dy, rfl, hb'⟩ := id h2
  exact ⟨a, b, dx, dy, _, _, rfl, rfl, ha, hb', _, _, x, y, b1, b2, rfl, h1, h2, c1, c2, hb, q⟩
/-- a method of a number without arguments -/
theorem rm0 {G : Gnd F} {v : V} {x : F} {H : Hp} {m : Str} {sp : L2.Sp} {Q : VK} {E : XK} (h1 : m ≠ "p") (h2 : m ≠ "n") (h3 : m ≠ "d") (h : NumG K G H v x) (q : sp [v] H Q E) :
    ∃ (a dx : Addr) (fs : List (Str × V)), v = .ref a ∧ H a = some (.ins (cN K G.p) dx fs) ∧ fs.lookup m = none ∧ sp [.ref a] H Q E := by
  obtain ⟨a, dx, rfl, ha⟩ := h
  exact ⟨a, dx, _, rfl, ha, fl_none h1 h2 h3, q⟩
theorem bd_max {G : Gnd F} {b : Nat} {x y : F} (c : F) (h : bd G b b x) (h2 : bd G b b c) (h3 : bd G b b y) : bd G (b + b) (b + b) (c * y) := bd_mul h2 h3
/-- less -/
def spLess (K : PySem.W.Frag) (G : Gnd F) : L2.Sp := fun vs H Q _ => ∃ v1 v2 xs ys, ∃ c : Nat, vs = [v1, v2, .int c] ∧ RowL K G v1 xs H ∧ RowL K G v2 ys H ∧ xs.length = ys.length ∧ c < xs.length ∧ xs.length ≤ 1000 ∧ (∀ x, x ∈ xs → bd G 240 240 x) ∧ (∀ x, x ∈ ys → bd G 240 240 x) ∧
  ∀ v H', Same H H' → (v = v1 ∨ ∃ p, v = .ref p ∧ H p = none) → RowL K G v (lessK xs ys c) H' → Q v H'
theorem ok_less (T : Tx K mg) (G : Gnd F) : FnOk P w K mg base CX0 7 (He.fAd K ("less", none)) (fdOf K (He.fAd K ("less", none))) ["row", "own", "column"] (spLess K G) := by
  refine fok (F_less T.c) sc_less (fun vs H Q E h => ?_) (fun cdv A outer s H vs Q E hr h => ?_)
  · obtain ⟨v1, v2, xs, ys, c, rfl, _⟩ := h
    rfl
  · obtain ⟨v1, v2, xs, ys, c, rfl, h1, h2, hl, hc, hz, b1, b2, q⟩ := h
    obtain ⟨a, us, rfl, ha, al1⟩ := id h1
    obtain ⟨b, ws, rfl, hb, al2⟩ := id h2
    have mz := methN (K := K) (p := G.p) (a_meth_Q_is_zero T.c) (a_meth_R_is_zero T.c)
    have bz := bindN (K := K) (p := G.p) (B_Q_is_zero T.c) (B_R_is_zero T.c)
    refine ⟨_, pss_cons (ps_set (i := 3) sc_less.nd rfl (.inr rfl) (pe_ix ix_list (pv 0) (pv 2) (fun _ _ => rfl)))
      (pss_cons (ps_if (pt_val (pe_meth0 (pv 3) (clsN T G.p) mz (ok_is_zero T G) (hr.mono (by decide)) bz .nil pass0)) (pss_one (ps_ret (pv 0))) pss_nil)
      (pss_one (ps_ret (pe_lc (own := [("x", 4), ("y", 5)]) (g := gTup K 2 (gCons (gName 4) (gCons (gName 5) gNil))) (tt := tYes) rfl sc_less.nd (pi_zip (by rfl) (T.free (a_free_zip T.c)) (pa_cons (pv 0) (pa_cons (pv 1) pa_nil)))
        (blkOk_by (N := ["row", "own", "column", "factor", "x", "y"]) (sc := defScope s_less) (by decide +kernel))
        (fun _ _ _ _ _ => pg_tup rfl (pgs_cons (pg_name (i := 4) sc_less.nd rfl (.inl rfl)) (pgs_cons (pg_name (i := 5) sc_less.nd rfl (.inl rfl)) pgs_nil))) (fun _ _ _ _ _ => pts_nil)
        (fun _ _ _ _ _ => pe_op (opK_sub (K := K) (mg := mg) rfl rfl T G hr) (pv 4) (pe_op (opK_mul (K := K) (mg := mg) rfl rfl T G hr) (pv 3) (pv 5))))))), ?_⟩
    have hcx : xs[c]? = some xs[c] := List.getElem?_eq_getElem hc
    obtain ⟨u, hu, hn⟩ := al1.get hcx
    refine ⟨_, rfl, _, rfl, a, us, _, u, rfl, rfl, SqL.of ha, atI_nat hu, ?_⟩
    obtain ⟨ax, dx, rfl, hax⟩ := id hn
    refine ⟨_, rfl, ax, dx, _, rfl, hax, fl_none (by decide) (by decide) (by decide), ?_⟩
    refine ⟨_, _, rfl, hn, _, rfl, ?_⟩
    have hv : vec xs c = xs[c] := vec_at hcx
    have hbc : bd G 240 240 xs[c] := b1 _ (List.getElem_mem hc)
    refine ite2 (fun e => ?_) (fun e => ?_)
    · have e' : xs[c] = 0 := of_decide_eq_true e
      refine ⟨_, rfl, q _ H (Same.refl H) (.inl rfl) ?_⟩
      unfold lessK
      rw [hv, if_pos e']
      exact h1
    · have e' : ¬ xs[c] = 0 := fun z => e (decide_eq_true z)
      refine p_next ?_
      dsimp only
      refine p_ret ?_
      refine (tlc_z (ys := List.zipWith (fun x y => x - xs[c] * y) xs ys) (R := RNum K G) (N := Yes) (fun R r => ⟨.ref a, rfl, .ref b, rfl, a, b, us, ws, rfl, SqL.of ha, SqL.of hb, r⟩) stay_num (SqL.of ha) (SqL.of hb) (by rw [al1.len, List.length_zipWith, hl]; omega) (by rw [al2.len, List.length_zipWith, hl]; omega)
        (by rw [List.length_zipWith]; omega) (by intro x y; rfl) (fun i x z y hx hzz hy => ?_) (fun p H3 rs np s3 h3 al3 => ?_))
      · intro H4 s4 Q4 k4
        obtain ⟨fx, hfx, n1⟩ := al1.got hx
        obtain ⟨fy, hfy, n2⟩ := al2.got hzz
        have hy' : y = fx - xs[c] * fy := by
          rw [List.getElem?_zipWith, hfx, hfy] at hy
          exact (Option.some.inj hy).symm
        refine ⟨_, rfl, _, rfl, _, rfl, ?_⟩
        have bf : bd G 240 240 fy := b2 _ (List.mem_of_getElem? hfy)
        refine rOwn_bin (hn.mono s4) (n2.mono s4) hbc bf (by decide) fun v5 H5 e5 h5 => ?_
        refine rOwn_bin ((n1.mono s4).mono e5) h5 (b1 _ (List.mem_of_getElem? hfx)) (bd_mul hbc bf) (by decide) fun v6 H6 e6 h6 => ?_
        refine k4 v6 H6 (e5.trans e6) ?_ yes_all
        rw [hy']
        exact h6
      · refine q _ H3 s3 (.inr ⟨p, rfl, np⟩) ⟨p, rs, rfl, h3, ?_⟩
        unfold lessK
        rw [hv, if_neg e']
        exact al3
end
end K51

set_option Elab.async false
set_option linter.all false
set_option maxRecDepth 100000
set_option maxHeartbeats 4000000
set_option autoImplicit false
namespace K51
open PySem PySem.Spec PyProof.Rows L2
section
variable {X : Cx} {K : PySem.W.Frag}
theorem ixL (hK : X.K = K) : IxR X (rIxL K) := by
  subst hK
  exact ix_list
theorem ixT (hK : X.K = K) : IxR X (rIxT K) := by
  subst hK
  exact ix_tup
/-- len of a list or a tuple -/
def rLenS (K : PySem.W.Frag) : List V → Hp → VK → Prop := fun xs H Q => ∃ p ys, xs = [.ref p] ∧ (SqL K H p ys ∨ SqT K H p ys) ∧ Q (.int ys.length) H
theorem lenS (hK : X.K = K) : CallR X (.builtin "len") (rLenS K) := by
  subst hK
  exact call_len_seq
def rListOf (K : PySem.W.Frag) : List V → Hp → VK → Prop := fun xs H Q => ∃ p ys, xs = [.ref p] ∧ (SqL K H p ys ∨ SqT K H p ys) ∧ ∀ l, H l = none → Q (.ref l) (upd H l (.lst ys))
theorem listOf (hK : X.K = K) : CallR X (.type "list") (rListOf K) := by
  subst hK
  exact call_list_of
def rTupOf (K : PySem.W.Frag) : List V → Hp → VK → Prop := fun xs H Q => ∃ p ys, xs = [.ref p] ∧ ((SqL K H p ys ∧ ∀ l, H l = none → Q (.ref l) (upd H l (.tup ys))) ∨ (SqT K H p ys ∧ Q (.ref p) H))
theorem tupOf (hK : X.K = K) : CallR X (.type "tuple") (rTupOf K) := by
  subst hK
  exact call_tuple_of
end
section
variable {F : Type} [Lean.Grind.CommRing F] [DecidableEq F] {K : PySem.W.Frag} {G : Gnd F}
def RowK (K : PySem.W.Frag) (G : Gnd F) (k : Bool) : V → List F → Hp → Prop := fun v xs H => ∃ a vs, v = .ref a ∧ SeqK k H a vs ∧ Al (fun v x => NumG K G H v x) vs xs
def TabK (K : PySem.W.Frag) (G : Gnd F) (k : Bool) : V → List (List F) → Hp → Prop := fun v M H => ∃ a vs, v = .ref a ∧ SeqK k H a vs ∧ Al (fun v x => RowK K G k v x H) vs M
theorem tabK_T {v : V} {M : List (List F)} {H : Hp} (h : TabT K G v M H) : TabK K G false v M H := h
theorem tabK_L {v : V} {M : List (List F)} {H : Hp} (h : TabL K G v M H) : TabK K G true v M H := h
theorem mo_rowK {k : Bool} : MoR (RowK K G k) := fun v y H H' e ⟨a, vs, h1, h2, h3⟩ => ⟨a, vs, h1, e _ _ h2, h3.imp fun v x h => NumG.mono h e⟩
theorem mo_tabK {k : Bool} : MoR (TabK K G k) := fun v y H H' e ⟨a, vs, h1, h2, h3⟩ => ⟨a, vs, h1, e _ _ h2, h3.imp fun v x h => mo_rowK v x H H' e h⟩
/-- rows other than the list at L -/
def RowN (K : PySem.W.Frag) (G : Gnd F) (L : Addr) : V → List F → Hp → Prop := fun v xs H => RowL K G v xs H ∧ v ≠ .ref L
theorem mo_rowN {L : Addr} : MoR (RowN K G L) := fun v y H H' e h => ⟨mo_rowL v y H H' e h.1, h.2⟩
theorem stay_rowN {L : Addr} {H1 : Hp} : Stay H1 Nt (RowN K G L) := ⟨mo_rowN, fun v y H D zs zs' _ hD n h => ⟨rowL_mut hD n h.1, h.2⟩⟩
def TabN (K : PySem.W.Frag) (G : Gnd F) (L : Addr) : V → List (List F) → Hp → Prop := fun v M H => ∃ a vs, v = .ref a ∧ a ≠ L ∧ H a = some (.lst vs) ∧ Al (fun v x => RowN K G L v x H) vs M
theorem mo_tabN {L : Addr} : MoR (TabN K G L) := fun v y H H' e ⟨a, vs, h1, hn, h2, h3⟩ => ⟨a, vs, h1, hn, e _ _ h2, h3.imp fun v x h => mo_rowN v x H H' e h⟩
theorem tabN_mut {L : Addr} {H : Hp} {zs : List V} {x : HO} {v : V} {M : List (List F)} (hD : H L = some (.lst zs)) (h : TabN K G L v M H) : TabN K G L v M (upd H L x) := by
  obtain ⟨a, vs, e, hn, ha, al⟩ := h
  exact ⟨a, vs, e, hn, by rw [upd_ne hn]; exact ha, al.imp fun v x h => ⟨rowL_mut hD h.2 h.1, h.2⟩⟩
theorem TabN.l {L : Addr} {H : Hp} {v : V} {M : List (List F)} (h : TabN K G L v M H) : TabL K G v M H := by
  obtain ⟨a, vs, e, hn, ha, al⟩ := h
  exact ⟨a, vs, e, ha, al.imp fun v x h => h.1⟩
theorem TabL.n {L : Addr} {H : Hp} {v : V} {M : List (List F)} (hL : H L = none) (h : TabL K G v M H) : TabN K G L v M H := by
  obtain ⟨a, vs, e, ha, al⟩ := h
  exact ⟨a, vs, e, (fun z => by rw [z, hL] at ha; cases ha), ha, al.imp fun v x h => ⟨h, fun z => by
    obtain ⟨b, us, e2, hb, _⟩ := h
    rw [e2] at z
    injection z with z
    rw [z, hL] at hb
    cases hb⟩⟩
def RNat : V → Nat → Hp → Prop := fun v i _ => v = .int i
theorem stay_nat {H1 : Hp} : Stay H1 Yes RNat := ⟨fun _ _ _ _ _ h => h, fun _ _ _ _ _ _ _ _ _ h => h⟩
theorem cut_take {xs : List V} {j : Nat} (h : j ≤ xs.length) : cutV xs none (some (j : Int)) = xs.take j := by
  unfold cutV
  rw [HT.sIx_nat]
  show (xs.drop 0).take (min j xs.length - 0) = _
  rw [Nat.min_eq_left h]
  rfl
theorem cut_drop {xs : List V} {j : Nat} (h : j ≤ xs.length) : cutV xs (some (j : Int)) none = xs.drop j := by
  unfold cutV
  rw [HT.sIx_nat]
  show (xs.drop (min j xs.length)).take (xs.length - min j xs.length) = _
  rw [Nat.min_eq_left h]
  exact List.take_of_length_le (by rw [List.length_drop]; exact Nat.le_refl _)
theorem small_line {n : Nat} (h : n ≤ 10000) : n ≤ sizeLine := Nat.le_trans h (by decide)
theorem small_line' {n : Nat} (h : n ≤ 10000) : n < sizeLine := Nat.lt_of_le_of_lt h (by decide)
end
section
variable {P : Program} {w : World} {K : PySem.W.Frag} {mg : Str → Option Value} {base : Heap} {F : Type} [Lean.Grind.CommRing F] [DecidableEq F]
def spReduce (K : PySem.W.Frag) (G : Gnd F) (k : Bool) : L2.Sp := fun vs H Q _ => ∃ v M, ∃ n : Nat, vs = [v, .int n] ∧ TabK K G k v M H ∧ M.length ≤ 1000 ∧ n ≤ 1000 ∧ (∀ r, r ∈ M → r.length = n) ∧ (∀ t, RBd G (redN G.inv M t) 120 120) ∧
  ∀ t f p H', Same H H' → H' t = some (.tup [f, .ref p]) → TabL K G f ((redN G.inv M n).fp.map (·.1)) H' → H' p = some (.lst ((redN G.inv M n).fp.map fun a => .int a.2)) → Q (.ref t) H'

theorem ok_reduce_list (T : Tx K mg) (G : Gnd F) : FnOk P w K mg base CX0 8 (He.fAd K ("reduce_rows", none)) (fdOf K (He.fAd K ("reduce_rows", none))) ["rows", "width"] (spReduce K G true) := by
  refine fok (F_reduce_rows T.c) sc_reduce_rows (fun vs H Q E h => ?_) (fun cdv A outer s H vs Q E hr h => ?_)
  · obtain ⟨v, M, n, rfl, _⟩ := h
    rfl
  · obtain ⟨v, M, n, rfl, ⟨a, rs, rfl, ha, al⟩, hM, hn, hw, hB, q⟩ := h
    have ha' : H a = some (.lst rs) := ha
    have mz := methN (K := K) (p := G.p) (a_meth_Q_is_zero T.c) (a_meth_R_is_zero T.c)
    have bz := bindN (K := K) (p := G.p) (B_Q_is_zero T.c) (B_R_is_zero T.c)
    have mi := methN (K := K) (p := G.p) (a_meth_Q_inverse T.c) (a_meth_R_inverse T.c)
    have bi := bindN (K := K) (p := G.p) (B_Q_inverse T.c) (B_R_inverse T.c)
    have nd := sc_reduce_rows.nd
    refine ⟨_, pss_cons (ps_set (i := 2) nd rfl (.inr rfl) (pe_lc (own := [("row", 10)]) (g := gName 10) (tt := tYes) rfl nd (pi_list (pv 0)) (blkOk_by (N := ["rows", "width", "rest", "found", "pivots", "column", "places", "own", "head", "left", "row", "i", "x"]) (sc := defScope s_reduce_rows) (by decide +kernel))
          (fun _ _ _ _ _ => pg_name (i := 10) nd rfl (.inl rfl)) (fun _ _ _ _ _ => pts_nil) (fun _ _ _ _ _ => pe_callTy (listOf (K := K) rfl) (by rfl) (T.free (a_free_list T.c)) boot_tlist (pa_cons (pv 10) pa_nil))))
      (pss_cons (ps_set (i := 3) nd rfl (.inl rfl) (pe_lst pa_nil))
      (pss_cons (ps_set (i := 4) nd rfl (.inl rfl) (pe_lst pa_nil))
      (pss_cons (ps_for PassesOwn.never rfl (pi_range1 (by rfl) (T.free (a_free_range T.c)) (pa_cons (pv 1) pa_nil)) (pg_name (i := 5) nd rfl (.inr rfl))
        (pss_cons (ps_setLc (i := 6) (own := [("i", 11)]) (g := gName 11) rfl nd rfl rfl (sw_true rfl rfl rfl (by decide +kernel)) (pi_range1 (by rfl) (T.free (a_free_range T.c)) (pa_cons (pe_callB (lenS (K := K) rfl) (by rfl) (T.free (a_free_len T.c)) boot_len (pa_cons (pv 2) pa_nil)) pa_nil)) (blkOk_by (N := ["rows", "width", "rest", "found", "pivots", "column", "places", "own", "head", "left", "row", "i", "x"]) (sc := defScope s_reduce_rows) (by decide +kernel))
            (fun _ _ _ _ _ => pg_name (i := 11) nd rfl (.inl rfl)) (fun _ _ _ _ _ => pts_one (pt_not (pt_val (pe_meth0 (pe_ix (ixL (K := K) rfl) (pe_ix (ixL (K := K) rfl) (pv 2) (pv 11) (fun _ _ => rfl)) (pv 5) (fun _ _ => rfl)) (clsN T G.p) mz (ok_is_zero T G) (hr.mono (by decide)) bz .nil pass0)))) (fun _ _ _ _ _ => pv 11))
        (pss_one (ps_if (pt_cmpR op_gt (pe_callB (lenS (K := K) rfl) (by rfl) (T.free (a_free_len T.c)) boot_len (pa_cons (pv 6) pa_nil)) pe_int (nomark _))
          (pss_cons (ps_set (i := 7) nd rfl (.inr rfl) (pe_ix (ixL (K := K) rfl) (pv 2) (pe_ix (ixL (K := K) rfl) (pv 6) pe_int (fun _ _ => rfl)) (fun _ _ => rfl)))
          (pss_cons (ps_set (i := 8) nd rfl (.inr rfl) (pe_meth0 (pe_ix (ixL (K := K) rfl) (pv 7) (pv 5) (fun _ _ => rfl)) (clsN T G.p) mi (ok_inverse T G) (hr.mono (by decide)) bi .nil pass0))
          (pss_cons (ps_set (i := 7) nd rfl (.inr rfl) (pe_lc (own := [("x", 12)]) (g := gName 12) (tt := tYes) rfl nd (pi_list (pv 7)) (blkOk_by (N := ["rows", "width", "rest", "found", "pivots", "column", "places", "own", "head", "left", "row", "i", "x"]) (sc := defScope s_reduce_rows) (by decide +kernel))
              (fun _ _ _ _ _ => pg_name (i := 12) nd rfl (.inl rfl)) (fun _ _ _ _ _ => pts_nil) (fun _ _ _ _ _ => pe_op (opK_mul (K := K) (mg := mg) rfl rfl T G (hr.mono (by decide))) (pv 8) (pv 12))))
          (pss_cons (ps_set (i := 9) nd rfl (.inl rfl) (pe_op op_cat (pe_slice sl_list (pv 2) po_none (po_some (pe_ix (ixL (K := K) rfl) (pv 6) pe_int (fun _ _ => rfl)))) (pe_slice sl_list (pv 2) (po_some (pe_op op_add (pe_ix (ixL (K := K) rfl) (pv 6) pe_int (fun _ _ => rfl)) pe_int)) po_none)))
          (pss_cons (ps_set (i := 2) nd rfl (.inr rfl) (pe_lc (own := [("row", 10)]) (g := gName 10) (tt := tYes) rfl nd (pi_list (pv 9)) (blkOk_by (N := ["rows", "width", "rest", "found", "pivots", "column", "places", "own", "head", "left", "row", "i", "x"]) (sc := defScope s_reduce_rows) (by decide +kernel))
              (fun _ _ _ _ _ => pg_name (i := 10) nd rfl (.inl rfl)) (fun _ _ _ _ _ => pts_nil) (fun _ _ _ _ _ => pe_call (ok_less T G) hr (by rfl) (T.glo (a_glo_less T.c)) (F_less T.c).kp (B_less T.c) .nil pass0 (pa_cons (pv 10) (pa_cons (pv 7) (pa_cons (pv 5) pa_nil))))))
          (pss_cons (ps_set (i := 3) nd rfl (.inl rfl) (pe_op op_cat (pe_lc (own := [("row", 10)]) (g := gName 10) (tt := tYes) rfl nd (pi_list (pv 3)) (blkOk_by (N := ["rows", "width", "rest", "found", "pivots", "column", "places", "own", "head", "left", "row", "i", "x"]) (sc := defScope s_reduce_rows) (by decide +kernel))
              (fun _ _ _ _ _ => pg_name (i := 10) nd rfl (.inl rfl)) (fun _ _ _ _ _ => pts_nil) (fun _ _ _ _ _ => pe_call (ok_less T G) hr (by rfl) (T.glo (a_glo_less T.c)) (F_less T.c).kp (B_less T.c) .nil pass0 (pa_cons (pv 10) (pa_cons (pv 7) (pa_cons (pv 5) pa_nil))))) (pe_lst (pa_cons (pv 7) pa_nil))))
          (pss_one (ps_expr (pe_bm PySem.F.plainAttrs_list PySem.F.slot_list_append PySem.F.type_list_append mt_append (pv 4) (pa_cons (pv 5) pa_nil)))))))))) pss_nil))))
      (pss_one (ps_ret (pe_tup (pa_cons (pv 3) (pa_cons (pv 4) pa_nil)))))))), ?_⟩
    refine p_seq ?_
    refine p_asg ?_
    refine tlc_l (H1 := H) (ys := M) (R := RowL K G) (N := Nt) (fun R r => ⟨.ref a, rfl, a, rfl, ⟨_, SqL.of ha'⟩, r⟩) stay_rowL (SqL.of ha') al.len (by omega) (by intro x; rfl) (fun j x y hx hy => ?_) (fun ra H1 rs1 nra s1 hra alr => ?_)
    · intro H4 s4 Q4 k4
      obtain ⟨b, us, rfl, hb, al2⟩ := mo_rowK _ _ _ _ s4 (al.at_ j x y hx hy)
      have hb' : H4 b = some (.lst us) := hb
      have hb := hb'
      refine ⟨_, rfl, b, us, rfl, .inl (SqL.of hb), fun l nl => ?_⟩
      have sl : Same H4 (upd H4 l (.lst us)) := same_upd nl
      exact k4 _ _ sl ⟨l, us, rfl, upd_same, al2.imp fun v x h => h.mono sl⟩ (nt_new nl)
    · refine ⟨Nat.zero_le _, fun fa nfa => ?_⟩
      have sf : Same H1 (upd H1 fa (.lst [])) := same_upd nfa
      refine ⟨Nat.zero_le _, fun L nL => ?_⟩
      have sL : Same (upd H1 fa (.lst [])) (upd (upd H1 fa (.lst [])) L (.lst [])) := same_upd nL
      have HL : H L = none := by
        cases e : H L with
        | none => rfl
        | some u =>
          rw [sf _ _ (s1 _ _ e)] at nL
          cases nL
      have t0 : TabN K G L (.ref ra) M (upd (upd H1 fa (.lst [])) L (.lst [])) := mo_tabN _ _ _ _ sL (TabL.n nL ⟨ra, rs1, rfl, sf _ _ hra, alr.imp fun v x h => mo_rowL _ _ _ _ sf h⟩)
      have f0 : TabN K G L (.ref fa) [] (upd (upd H1 fa (.lst [])) L (.lst [])) := mo_tabN _ _ _ _ sL (TabL.n nL ⟨fa, [], rfl, upd_same, Al.nil⟩)
      refine ⟨_, rfl, n, rfl, by omega, by omega, ?_⟩
      refine for_range (lo := 0) (n := n) (fun i σ H' => Same H H' ∧ ∃ r f y5 y6 y7 y8 y9, σ = [some (.ref a), some (.int n), some r, some f, some (.ref L), y5, y6, y7, y8, y9, none, none, none] ∧ TabN K G L r (redN G.inv M i).rest H' ∧ TabN K G L f ((redN G.inv M i).fp.map (·.1)) H' ∧ H' L = some (.lst ((redN G.inv M i).fp.map fun a => .int a.2)))
        ⟨(s1.trans sf).trans sL, .ref ra, .ref fa, none, none, none, none, none, rfl, t0, f0, upd_same⟩ (fun i σ H' hi hP => ?_) fun σ H' hP => ?_
      · obtain ⟨s2, r, f, y5, y6, y7, y8, y9, rfl, hr', hf', hL'⟩ := hP
        have e0 : (0 : Int) + (i : Int) = i := Int.zero_add _
        rw [e0]
        obtain ⟨ra2, rs, rfl, hnr, hra2, alR⟩ := id hr'
        have I := RInv.all G.minv hw i
        have hRl : (redN G.inv M i).rest.length ≤ 1000 := by
          have := I.cnt
          omega
        have hFl : (redN G.inv M i).fp.length ≤ 1000 := by
          have := I.cnt
          omega
        have hB0 := hB i
        refine p_seq ?_
        refine p_asg ?_
        refine tlcf_r (lo := 0) (n := rs.length) (ys := List.range (redN G.inv M i).rest.length) (pf := fun j => decide (¬ vec ((redN G.inv M i).rest.getD j []) i = 0)) (H1 := H') (R := RNat) (N := Yes)
          (fun R r => ⟨_, rfl, ra2, rs, rfl, .inl (SqL.of hra2), _, rfl, by omega, by rw [alR.len]; omega, r⟩) stay_nat (by rw [alR.len, List.length_range]) (by rw [List.length_range]; omega) (by intro x; rfl) (fun j y hy => ?_) (fun j y hy hp => ?_) (fun p H3 zs np s3 hp al3 => ?_)
        · intro H4 s4 Q4 k4
          obtain ⟨hj, ej⟩ := List.getElem?_eq_some_iff.mp hy
          rw [List.length_range] at hj
          rw [List.getElem_range] at ej
          subst ej
          have ej0 : (0 : Int) + (j : Int) = j := Int.zero_add _
          rw [ej0]
          have hrow : (redN G.inv M i).rest[j]? = some (redN G.inv M i).rest[j] := List.getElem?_eq_getElem hj
          obtain ⟨v1, hv1, ⟨b, us, rfl, hb, al2⟩, _⟩ := alR.get hrow
          have hl1 := I.wr _ (List.getElem_mem hj)
          have hcx : (redN G.inv M i).rest[j][i]? = some ((redN G.inv M i).rest[j][i]'(by omega)) := List.getElem?_eq_getElem _
          obtain ⟨nv, hnv, hN⟩ := al2.get hcx
          have hgd : (redN G.inv M i).rest.getD j [] = (redN G.inv M i).rest[j] := getD_at hrow
          have hN4 := hN.mono s4
          obtain ⟨ax, dx, rfl, hax⟩ := id hN4
          refine ⟨_, rfl, _, rfl, ra2, rs, _, _, rfl, rfl, SqL.of (s4 _ _ hra2), atI_nat hv1, ?_⟩
          refine ⟨_, rfl, b, us, _, _, rfl, rfl, SqL.of (s4 _ _ hb), atI_nat hnv, ?_⟩
          refine ⟨ax, dx, _, rfl, hax, fl_none (by decide) (by decide) (by decide), ?_⟩
          refine ⟨_, _, rfl, hN4, _, rfl, ?_⟩
          have hk := k4 H4 (Same.refl _)
          rw [hgd, vec_at hcx] at hk
          rw [decide_not] at hk
          exact hk
        · intro H4 s4 Q4 k4
          obtain ⟨hj, ej⟩ := List.getElem?_eq_some_iff.mp hy
          rw [List.length_range] at hj
          rw [List.getElem_range] at ej
          subst ej
          have ej0 : (0 : Int) + (j : Int) = j := Int.zero_add _
          rw [ej0]
          exact ⟨_, rfl, k4 _ H4 (Same.refl _) rfl yes_all⟩
        · refine ⟨_, rfl, p, zs, rfl, .inl (SqL.of hp), _, _, rfl, rfl, _, rfl, ?_⟩
          have zl : zs.length = (places (redN G.inv M i).rest i).length := al3.len
          rcases redStep_cases G.inv (redN G.inv M i) i with ⟨h1, h2, _⟩ | ⟨i0, l, pre, own0, post, h1, h2, h3, h4, h5, h6, h7⟩
          · rw [zl, h2]
            refine iteF ?_
            refine p_next ?_
            dsimp only
            refine ⟨s2.trans s3, .ref ra2, f, _, _, _, _, _, rfl, ?_⟩
            rw [redN_succ, h1]
            exact ⟨mo_tabN _ _ _ _ s3 hr', mo_tabN _ _ _ _ s3 hf', s3 _ _ hL'⟩
          · rw [zl, h1, decide_eq_true (by simp)]
            refine iteT ?_
            have hi0 : i0 < (redN G.inv M i).rest.length := by
              rw [h2, List.length_append, List.length_cons]
              omega
            obtain ⟨zv, hz0, rz⟩ := al3.get (show (places (redN G.inv M i).rest i)[0]? = some i0 by rw [h1]; rfl)
            have rz' : zv = .int i0 := rz
            subst rz'
            have hrow : (redN G.inv M i).rest[i0]? = some own0 := by
              rw [h2, List.getElem?_append_right (by omega), h3, Nat.sub_self]
              rfl
            have hown0 : own0 ∈ (redN G.inv M i).rest := List.mem_of_getElem? hrow
            have hlo : own0.length = n := I.wr _ hown0
            obtain ⟨v1, hv1, ⟨b, us, rfl, hb, al2⟩, _⟩ := alR.get hrow
            have hcx : own0[i]? = some (own0[i]'(by omega)) := List.getElem?_eq_getElem _
            have hvx : vec own0 i = own0[i]'(by omega) := vec_at hcx
            obtain ⟨nv, hnv, hN⟩ := al2.get hcx
            have hN3 := hN.mono s3
            obtain ⟨ax, dx, rfl, hax⟩ := id hN3
            have hbx : bd G 120 120 (own0[i]'(by omega)) := hB0.1 _ hown0 _ (List.getElem_mem _)
            have at0 : atI zs 0 = some (.int i0) := atI_nat (j := 0) hz0
            refine ⟨_, rfl, _, rfl, p, zs, _, _, rfl, rfl, SqL.of hp, at0, ra2, rs, _, _, rfl, rfl, SqL.of (s3 _ _ hra2), atI_nat hv1, ?_⟩
            refine ⟨_, rfl, _, rfl, b, us, _, _, rfl, rfl, SqL.of (s3 _ _ hb), atI_nat hnv, ?_⟩
            refine ⟨ax, dx, _, rfl, hax, fl_none (by decide) (by decide) (by decide), ?_⟩
            refine ⟨_, _, 120, rfl, hN3, hbx, by decide, (by rw [← hvx]; exact h4), fun hd H5 s5 hh => ?_⟩
            dsimp only [gName]
            refine p_seq ?_
            refine p_asg ?_
            have bh : bd G 120 120 (G.inv (own0[i]'(by omega))) := bd_inv (by rw [← hvx]; exact h4) hbx
            refine tlc_l (xs := us) (H1 := H5) (ys := own0.map fun x => G.inv (vec own0 i) * x) (R := RNum K G) (N := Yes) (fun R r => ⟨.ref b, rfl, b, rfl, ⟨_, SqL.of (s5 _ _ (s3 _ _ hb))⟩, r⟩) stay_num (SqL.of (s5 _ _ (s3 _ _ hb))) (by rw [al2.len, List.length_map]) (by rw [List.length_map]; omega) (by intro x; rfl) (fun j x y hx hy => ?_) (fun ow H6 ows now s6 how alo => ?_)
            · intro H7 s7 Q7 k7
              obtain ⟨fx, hfx, n1⟩ := al2.got hx
              rw [List.getElem?_map, hfx] at hy
              have hy' := (Option.some.inj hy).symm
              refine ⟨_, rfl, _, rfl, ?_⟩
              refine rOwn_bin (b1 := 120) (b2 := 120) (hh.mono s7) (n1.mono ((s3.trans s5).trans s7)) bh (hB0.1 _ hown0 _ (List.mem_of_getElem? hfx)) (by decide) fun v6 H8 e6 h8 => ?_
              refine k7 v6 H8 e6 ?_ yes_all
              rw [hy', hvx]
              exact h8
            · have s36 := (s3.trans s5).trans s6
              have hlq : rs.length ≤ 1000 := by rw [alR.len]; exact hRl
              have hi0' : i0 ≤ rs.length := by rw [alR.len]; omega
              have hi1' : i0 + 1 ≤ rs.length := by rw [alR.len]; omega
              refine ⟨_, rfl, _, rfl, p, zs, _, _, rfl, rfl, SqL.of (s6 _ _ (s5 _ _ hp)), at0, _, rfl, ra2, rs, rfl, SqL.of (s36 _ _ hra2), fun q1 nq1 => ?_⟩
              have e1 : Same H6 (upd H6 q1 (.lst (cutV rs none (some (i0 : Int))))) := same_upd nq1
              refine ⟨_, rfl, _, rfl, p, zs, _, _, rfl, rfl, SqL.of (e1 _ _ (s6 _ _ (s5 _ _ hp))), at0, _, _, rfl, rfl, _, rfl, ra2, rs, rfl, SqL.of (e1 _ _ (s36 _ _ hra2)), fun q2 nq2 => ?_⟩
              rw [show ((i0 : Int) + 1) = ((i0 + 1 : Nat) : Int) from by omega] at *
              rw [cut_take hi0'] at e1 nq2 ⊢
              rw [cut_drop hi1']
              have e2 : Same (upd H6 q1 (.lst (rs.take i0))) (upd (upd H6 q1 (.lst (rs.take i0))) q2 (.lst (rs.drop (i0 + 1)))) := same_upd nq2
              refine ⟨q1, q2, _, _, rfl, rfl, e2 _ _ upd_same, upd_same, small_line (by rw [List.length_take, List.length_drop]; omega), fun q3 nq3 => ?_⟩
              have e3 : Same (upd (upd H6 q1 (.lst (rs.take i0))) q2 (.lst (rs.drop (i0 + 1)))) (upd (upd (upd H6 q1 (.lst (rs.take i0))) q2 (.lst (rs.drop (i0 + 1)))) q3 (.lst (rs.take i0 ++ rs.drop (i0 + 1)))) := same_upd nq3
              have h3q : (upd (upd (upd H6 q1 (.lst (rs.take i0))) q2 (.lst (rs.drop (i0 + 1)))) q3 (.lst (rs.take i0 ++ rs.drop (i0 + 1)))) q3 = some (.lst (rs.take i0 ++ rs.drop (i0 + 1))) := upd_same
              have e123 := (e1.trans e2).trans e3
              clear e1 e2 e3 nq1 nq2 nq3
              generalize (upd (upd (upd H6 q1 (.lst (rs.take i0))) q2 (.lst (rs.drop (i0 + 1)))) q3 (.lst (rs.take i0 ++ rs.drop (i0 + 1)))) = H7 at *
              have hcut : (redN G.inv M i).rest.take i0 ++ (redN G.inv M i).rest.drop (i0 + 1) = pre ++ post := by
                rw [h2, ← h3, List.take_left, show pre ++ own0 :: post = (pre ++ [own0]) ++ post by simp, show pre.length + 1 = (pre ++ [own0]).length by simp, List.drop_left]
              have alR7 : Al (fun v x => RowN K G L v x H7) rs (redN G.inv M i).rest := alR.imp fun v x h => mo_rowN _ _ _ _ (s36.trans e123) h
              have alL : Al (fun v x => RowN K G L v x H7) (rs.take i0 ++ rs.drop (i0 + 1)) (pre ++ post) := by
                rw [← hcut]
                exact (alR7.take i0).app (alR7.drop (i0 + 1))
              have hmem : ∀ r, r ∈ pre ++ post → r ∈ (redN G.inv M i).rest := fun r h => by
                rw [h2]
                rcases List.mem_append.mp h with h | h
                · exact List.mem_append_left _ h
                · exact List.mem_append_right _ (List.mem_cons_of_mem _ h)
              have hpl : (pre ++ post).length ≤ 1000 := by rw [← alL.len, List.length_append, List.length_take, List.length_drop]; omega
              have hrowO : RowL K G (.ref ow) (own0.map fun x => G.inv (vec own0 i) * x) H7 := mo_rowL _ _ _ _ e123 ⟨ow, ows, rfl, how, alo⟩
              have hbO : ∀ x, x ∈ (own0.map fun x => G.inv (vec own0 i) * x) → bd G 240 240 x := fun x hx => by
                obtain ⟨z, hz, e⟩ := List.mem_map.mp hx
                rw [← e, hvx]
                exact bd_mul bh (hB0.1 _ hown0 _ hz)
              have hlO : (own0.map fun x => G.inv (vec own0 i) * x).length = n := by rw [List.length_map]; exact hlo
              have hL7 : H7 L ≠ none := by
                rw [(s36.trans e123) _ _ hL']
                exact fun z => nomatch z
              dsimp only [gName]
              refine p_seq ?_
              refine p_asg ?_
              refine tlc_l (xs := rs.take i0 ++ rs.drop (i0 + 1)) (H1 := H7) (ys := (pre ++ post).map fun r => lessK r (own0.map fun x => G.inv (vec own0 i) * x) i) (R := RowN K G L) (N := Nt) (fun R r => ⟨.ref q3, rfl, q3, rfl, ⟨_, SqL.of h3q⟩, r⟩) stay_rowN (SqL.of h3q) (by rw [alL.len, List.length_map]) (by rw [List.length_map]; omega) (by intro x; rfl) (fun j x y hx hy => ?_) (fun rb H8 rbs nrb s8 hrb alb => ?_)
              · intro H9 s9 Q9 k9
                obtain ⟨rr, hrr, n1, n2⟩ := alL.got hx
                rw [List.getElem?_map, hrr] at hy
                have hy' := (Option.some.inj hy).symm
                have hm := hmem _ (List.mem_of_getElem? hrr)
                have hlr := I.wr _ hm
                obtain ⟨b1, us1, rfl, hb1, _⟩ := id n1
                refine ⟨_, rfl, _, rfl, _, rfl, _, _, rr, _, i, rfl, mo_rowL _ _ _ _ s9 n1, mo_rowL _ _ _ _ s9 hrowO, by rw [hlr, hlO], by omega, by omega, fun x hx => (hB0.1 _ hm x hx).mono (by decide) (by decide), hbO, fun v H10 e10 hc h10 => ?_⟩
                refine k9 v H10 e10 ⟨by rw [hy']; exact h10, ?_⟩ ?_
                · rcases hc with rfl | ⟨p9, rfl, np9⟩
                  · exact n2
                  · intro z
                    injection z with z
                    rw [z] at np9
                    exact hL7 (by
                      cases eL : H7 L with
                      | none => rfl
                      | some u =>
                        rw [s9 _ _ eL] at np9
                        cases np9)
                · rcases hc with rfl | ⟨p9, rfl, np9⟩
                  · exact nt_old (by rw [hb1]; exact fun z => nomatch z)
                  · exact nt_new np9
              · obtain ⟨fad, fs, rfl, hnf, hfa, alF⟩ := mo_tabN _ _ _ _ ((s36.trans e123).trans s8) hf'
                have hrowO8 := mo_rowL _ _ _ _ s8 hrowO
                have hL8 : H8 L = some (.lst ((redN G.inv M i).fp.map fun a => .int a.2)) := ((s36.trans e123).trans s8) _ _ hL'
                dsimp only [gName]
                refine p_seq ?_
                refine p_asg ?_
                refine p_op ?_
                refine tlc_l (xs := fs) (H1 := H8) (ys := (redN G.inv M i).fp.map fun a => lessK a.1 (own0.map fun x => G.inv (vec own0 i) * x) i) (R := RowN K G L) (N := Nt) (fun R r => ⟨.ref fad, rfl, fad, rfl, ⟨_, SqL.of hfa⟩, r⟩) stay_rowN (SqL.of hfa) (by rw [alF.len, List.length_map, List.length_map]) (by rw [List.length_map]; omega) (by intro x; rfl) (fun j x y hx hy => ?_) (fun fb H9 fbs nfb s9 hfb alfb => ?_)
                · intro H9 s9 Q9 k9
                  obtain ⟨rr, hrr, n1, n2⟩ := alF.got hx
                  rw [List.getElem?_map] at hrr
                  obtain ⟨qa, hqa, eqa⟩ := Option.map_eq_some_iff.mp hrr
                  rw [List.getElem?_map, hqa] at hy
                  have hy' := (Option.some.inj hy).symm
                  have hm := List.mem_of_getElem? hqa
                  have hlr := I.wf _ hm
                  subst eqa
                  obtain ⟨b1, us1, rfl, hb1, _⟩ := id n1
                  refine ⟨_, rfl, _, rfl, _, rfl, _, _, qa.1, _, i, rfl, mo_rowL _ _ _ _ s9 n1, mo_rowL _ _ _ _ s9 hrowO8, by rw [hlr, hlO], by omega, by omega, fun x hx => (hB0.2 _ hm x hx).mono (by decide) (by decide), hbO, fun v H10 e10 hc h10 => ?_⟩
                  refine k9 v H10 e10 ⟨by rw [hy']; exact h10, ?_⟩ ?_
                  · rcases hc with rfl | ⟨p9, rfl, np9⟩
                    · exact n2
                    · intro z
                      injection z with z
                      rw [z, s9 _ _ hL8] at np9
                      cases np9
                  · rcases hc with rfl | ⟨p9, rfl, np9⟩
                    · exact nt_old (by rw [hb1]; exact fun z => nomatch z)
                    · exact nt_new np9
                · refine ⟨_, rfl, (by show 1 ≤ sizeLine; decide), fun ol nol => ?_⟩
                  have eo : Same H9 (upd H9 ol (.lst [.ref ow])) := same_upd nol
                  refine ⟨fb, ol, _, _, rfl, rfl, eo _ _ hfb, upd_same, small_line (by rw [alfb.len, List.length_map]; show _ + 1 ≤ _; omega), fun fc nfc => ?_⟩
                  have ec : Same (upd H9 ol (.lst [.ref ow])) (upd (upd H9 ol (.lst [.ref ow])) fc (.lst (fbs ++ [.ref ow]))) := same_upd nfc
                  have hfc : (upd (upd H9 ol (.lst [.ref ow])) fc (.lst (fbs ++ [.ref ow]))) fc = some (.lst (fbs ++ [.ref ow])) := upd_same
                  have eoc := eo.trans ec
                  have hLf : fc ≠ L := fun z => by
                    rw [z, eo _ _ (s9 _ _ hL8)] at nfc
                    cases nfc
                  clear eo ec nol nfc
                  generalize (upd (upd H9 ol (.lst [.ref ow])) fc (.lst (fbs ++ [.ref ow]))) = Hz at *
                  have hLz : Hz L = some (.lst ((redN G.inv M i).fp.map fun a => .int a.2)) := eoc _ _ (s9 _ _ hL8)
                  have hHz : Same H Hz := (((s2.trans s36).trans (e123.trans s8)).trans s9).trans eoc
                  refine ⟨.ref L, rfl, .inl ⟨rfl, _, SqL.of hLz⟩, _, rfl, L, _, _, rfl, rfl, hLz, small_line' (by rw [List.length_map]; omega), ?_⟩
                  have hnow : V.ref ow ≠ .ref L := fun z => by
                    injection z with z
                    rw [z, s5 _ _ (s3 _ _ hL')] at now
                    cases now
                  refine p_next ?_
                  refine ⟨same_mut HL hHz, .ref rb, .ref fc, _, _, _, _, _, rfl, ?_⟩
                  rw [redN_succ, h7]
                  refine ⟨tabN_mut hLz ⟨rb, rbs, rfl, fun z => ?_, eoc _ _ (s9 _ _ hrb), alb.imp fun v x h => mo_rowN _ _ _ _ (s9.trans eoc) h⟩, tabN_mut hLz ⟨fc, _, rfl, hLf, hfc, ?_⟩, ?_⟩
                  · rw [z] at nrb
                    exact hL7 nrb
                  · rw [List.map_append, List.map_map]
                    exact (alfb.imp fun v x h => mo_rowN _ _ _ _ eoc h).snoc ⟨mo_rowL _ _ _ _ (s9.trans eoc) hrowO8, hnow⟩
                  · rw [List.map_append, List.map_map]
                    exact upd_same
      · obtain ⟨s2, r, f, y5, y6, y7, y8, y9, rfl, hr', hf', hL'⟩ := hP
        refine ⟨_, rfl, _, rfl, (by show 2 ≤ sizeLine; decide), fun t nt => ?_⟩
        have st : Same H' (upd H' t (.tup [f, .ref L])) := same_upd nt
        exact q t f L _ (s2.trans st) upd_same (mo_tabN _ _ _ _ st hf').l (st _ _ hL')
theorem ok_reduce_tuple (T : Tx K mg) (G : Gnd F) : FnOk P w K mg base CX0 8 (He.fAd K ("reduce_rows", none)) (fdOf K (He.fAd K ("reduce_rows", none))) ["rows", "width"] (spReduce K G false) := by
  refine fok (F_reduce_rows T.c) sc_reduce_rows (fun vs H Q E h => ?_) (fun cdv A outer s H vs Q E hr h => ?_)
  · obtain ⟨v, M, n, rfl, _⟩ := h
    rfl
  · obtain ⟨v, M, n, rfl, ⟨a, rs, rfl, ha, al⟩, hM, hn, hw, hB, q⟩ := h
    have ha' : H a = some (.tup rs) := ha
    have mz := methN (K := K) (p := G.p) (a_meth_Q_is_zero T.c) (a_meth_R_is_zero T.c)
    have bz := bindN (K := K) (p := G.p) (B_Q_is_zero T.c) (B_R_is_zero T.c)
    have mi := methN (K := K) (p := G.p) (a_meth_Q_inverse T.c) (a_meth_R_inverse T.c)
    have bi := bindN (K := K) (p := G.p) (B_Q_inverse T.c) (B_R_inverse T.c)
    have nd := sc_reduce_rows.nd
    refine ⟨_, pss_cons (ps_set (i := 2) nd rfl (.inr rfl) (pe_lc (own := [("row", 10)]) (g := gName 10) (tt := tYes) rfl nd (pi_tup (pv 0)) (blkOk_by (N := ["rows", "width", "rest", "found", "pivots", "column", "places", "own", "head", "left", "row", "i", "x"]) (sc := defScope s_reduce_rows) (by decide +kernel))
          (fun _ _ _ _ _ => pg_name (i := 10) nd rfl (.inl rfl)) (fun _ _ _ _ _ => pts_nil) (fun _ _ _ _ _ => pe_callTy (listOf (K := K) rfl) (by rfl) (T.free (a_free_list T.c)) boot_tlist (pa_cons (pv 10) pa_nil))))
      (pss_cons (ps_set (i := 3) nd rfl (.inl rfl) (pe_lst pa_nil))
      (pss_cons (ps_set (i := 4) nd rfl (.inl rfl) (pe_lst pa_nil))
      (pss_cons (ps_for PassesOwn.never rfl (pi_range1 (by rfl) (T.free (a_free_range T.c)) (pa_cons (pv 1) pa_nil)) (pg_name (i := 5) nd rfl (.inr rfl))
        (pss_cons (ps_setLc (i := 6) (own := [("i", 11)]) (g := gName 11) rfl nd rfl rfl (sw_true rfl rfl rfl (by decide +kernel)) (pi_range1 (by rfl) (T.free (a_free_range T.c)) (pa_cons (pe_callB (lenS (K := K) rfl) (by rfl) (T.free (a_free_len T.c)) boot_len (pa_cons (pv 2) pa_nil)) pa_nil)) (blkOk_by (N := ["rows", "width", "rest", "found", "pivots", "column", "places", "own", "head", "left", "row", "i", "x"]) (sc := defScope s_reduce_rows) (by decide +kernel))
            (fun _ _ _ _ _ => pg_name (i := 11) nd rfl (.inl rfl)) (fun _ _ _ _ _ => pts_one (pt_not (pt_val (pe_meth0 (pe_ix (ixL (K := K) rfl) (pe_ix (ixL (K := K) rfl) (pv 2) (pv 11) (fun _ _ => rfl)) (pv 5) (fun _ _ => rfl)) (clsN T G.p) mz (ok_is_zero T G) (hr.mono (by decide)) bz .nil pass0)))) (fun _ _ _ _ _ => pv 11))
        (pss_one (ps_if (pt_cmpR op_gt (pe_callB (lenS (K := K) rfl) (by rfl) (T.free (a_free_len T.c)) boot_len (pa_cons (pv 6) pa_nil)) pe_int (nomark _))
          (pss_cons (ps_set (i := 7) nd rfl (.inr rfl) (pe_ix (ixL (K := K) rfl) (pv 2) (pe_ix (ixL (K := K) rfl) (pv 6) pe_int (fun _ _ => rfl)) (fun _ _ => rfl)))
          (pss_cons (ps_set (i := 8) nd rfl (.inr rfl) (pe_meth0 (pe_ix (ixL (K := K) rfl) (pv 7) (pv 5) (fun _ _ => rfl)) (clsN T G.p) mi (ok_inverse T G) (hr.mono (by decide)) bi .nil pass0))
          (pss_cons (ps_set (i := 7) nd rfl (.inr rfl) (pe_lc (own := [("x", 12)]) (g := gName 12) (tt := tYes) rfl nd (pi_list (pv 7)) (blkOk_by (N := ["rows", "width", "rest", "found", "pivots", "column", "places", "own", "head", "left", "row", "i", "x"]) (sc := defScope s_reduce_rows) (by decide +kernel))
              (fun _ _ _ _ _ => pg_name (i := 12) nd rfl (.inl rfl)) (fun _ _ _ _ _ => pts_nil) (fun _ _ _ _ _ => pe_op (opK_mul (K := K) (mg := mg) rfl rfl T G (hr.mono (by decide))) (pv 8) (pv 12))))
          (pss_cons (ps_set (i := 9) nd rfl (.inl rfl) (pe_op op_cat (pe_slice sl_list (pv 2) po_none (po_some (pe_ix (ixL (K := K) rfl) (pv 6) pe_int (fun _ _ => rfl)))) (pe_slice sl_list (pv 2) (po_some (pe_op op_add (pe_ix (ixL (K := K) rfl) (pv 6) pe_int (fun _ _ => rfl)) pe_int)) po_none)))
          (pss_cons (ps_set (i := 2) nd rfl (.inr rfl) (pe_lc (own := [("row", 10)]) (g := gName 10) (tt := tYes) rfl nd (pi_list (pv 9)) (blkOk_by (N := ["rows", "width", "rest", "found", "pivots", "column", "places", "own", "head", "left", "row", "i", "x"]) (sc := defScope s_reduce_rows) (by decide +kernel))
              (fun _ _ _ _ _ => pg_name (i := 10) nd rfl (.inl rfl)) (fun _ _ _ _ _ => pts_nil) (fun _ _ _ _ _ => pe_call (ok_less T G) hr (by rfl) (T.glo (a_glo_less T.c)) (F_less T.c).kp (B_less T.c) .nil pass0 (pa_cons (pv 10) (pa_cons (pv 7) (pa_cons (pv 5) pa_nil))))))
          (pss_cons (ps_set (i := 3) nd rfl (.inl rfl) (pe_op op_cat (pe_lc (own := [("row", 10)]) (g := gName 10) (tt := tYes) rfl nd (pi_list (pv 3)) (blkOk_by (N := ["rows", "width", "rest", "found", "pivots", "column", "places", "own", "head", "left", "row", "i", "x"]) (sc := defScope s_reduce_rows) (by decide +kernel))
              (fun _ _ _ _ _ => pg_name (i := 10) nd rfl (.inl rfl)) (fun _ _ _ _ _ => pts_nil) (fun _ _ _ _ _ => pe_call (ok_less T G) hr (by rfl) (T.glo (a_glo_less T.c)) (F_less T.c).kp (B_less T.c) .nil pass0 (pa_cons (pv 10) (pa_cons (pv 7) (pa_cons (pv 5) pa_nil))))) (pe_lst (pa_cons (pv 7) pa_nil))))
          (pss_one (ps_expr (pe_bm PySem.F.plainAttrs_list PySem.F.slot_list_append PySem.F.type_list_append mt_append (pv 4) (pa_cons (pv 5) pa_nil)))))))))) pss_nil))))
      (pss_one (ps_ret (pe_tup (pa_cons (pv 3) (pa_cons (pv 4) pa_nil)))))))), ?_⟩
    refine p_seq ?_
    refine p_asg ?_
    refine tlc_t (H1 := H) (ys := M) (R := RowL K G) (N := Nt) (fun R r => ⟨.ref a, rfl, a, rfl, ⟨_, SqT.of ha'⟩, r⟩) stay_rowL (SqT.of ha') al.len (by omega) (by intro x; rfl) (fun j x y hx hy => ?_) (fun ra H1 rs1 nra s1 hra alr => ?_)
    · intro H4 s4 Q4 k4
      obtain ⟨b, us, rfl, hb, al2⟩ := mo_rowK _ _ _ _ s4 (al.at_ j x y hx hy)
      have hb' : H4 b = some (.tup us) := hb
      have hb := hb'
      refine ⟨_, rfl, b, us, rfl, .inr (SqT.of hb), fun l nl => ?_⟩
      have sl : Same H4 (upd H4 l (.lst us)) := same_upd nl
      exact k4 _ _ sl ⟨l, us, rfl, upd_same, al2.imp fun v x h => h.mono sl⟩ (nt_new nl)
    · refine ⟨Nat.zero_le _, fun fa nfa => ?_⟩
      have sf : Same H1 (upd H1 fa (.lst [])) := same_upd nfa
      refine ⟨Nat.zero_le _, fun L nL => ?_⟩
      have sL : Same (upd H1 fa (.lst [])) (upd (upd H1 fa (.lst [])) L (.lst [])) := same_upd nL
      have HL : H L = none := by
        cases e : H L with
        | none => rfl
        | some u =>
          rw [sf _ _ (s1 _ _ e)] at nL
          cases nL
      have t0 : TabN K G L (.ref ra) M (upd (upd H1 fa (.lst [])) L (.lst [])) := mo_tabN _ _ _ _ sL (TabL.n nL ⟨ra, rs1, rfl, sf _ _ hra, alr.imp fun v x h => mo_rowL _ _ _ _ sf h⟩)
      have f0 : TabN K G L (.ref fa) [] (upd (upd H1 fa (.lst [])) L (.lst [])) := mo_tabN _ _ _ _ sL (TabL.n nL ⟨fa, [], rfl, upd_same, Al.nil⟩)
      refine ⟨_, rfl, n, rfl, by omega, by omega, ?_⟩
      refine for_range (lo := 0) (n := n) (fun i σ H' => Same H H' ∧ ∃ r f y5 y6 y7 y8 y9, σ = [some (.ref a), some (.int n), some r, some f, some (.ref L), y5, y6, y7, y8, y9, none, none, none] ∧ TabN K G L r (redN G.inv M i).rest H' ∧ TabN K G L f ((redN G.inv M i).fp.map (·.1)) H' ∧ H' L = some (.lst ((redN G.inv M i).fp.map fun a => .int a.2)))
        ⟨(s1.trans sf).trans sL, .ref ra, .ref fa, none, none, none, none, none, rfl, t0, f0, upd_same⟩ (fun i σ H' hi hP => ?_) fun σ H' hP => ?_
      · obtain ⟨s2, r, f, y5, y6, y7, y8, y9, rfl, hr', hf', hL'⟩ := hP
        have e0 : (0 : Int) + (i : Int) = i := Int.zero_add _
        rw [e0]
        obtain ⟨ra2, rs, rfl, hnr, hra2, alR⟩ := id hr'
        have I := RInv.all G.minv hw i
        have hRl : (redN G.inv M i).rest.length ≤ 1000 := by
          have := I.cnt
          omega
        have hFl : (redN G.inv M i).fp.length ≤ 1000 := by
          have := I.cnt
          omega
        have hB0 := hB i
        refine p_seq ?_
        refine p_asg ?_
        refine tlcf_r (lo := 0) (n := rs.length) (ys := List.range (redN G.inv M i).rest.length) (pf := fun j => decide (¬ vec ((redN G.inv M i).rest.getD j []) i = 0)) (H1 := H') (R := RNat) (N := Yes)
          (fun R r => ⟨_, rfl, ra2, rs, rfl, .inl (SqL.of hra2), _, rfl, by omega, by rw [alR.len]; omega, r⟩) stay_nat (by rw [alR.len, List.length_range]) (by rw [List.length_range]; omega) (by intro x; rfl) (fun j y hy => ?_) (fun j y hy hp => ?_) (fun p H3 zs np s3 hp al3 => ?_)
        · intro H4 s4 Q4 k4
          obtain ⟨hj, ej⟩ := List.getElem?_eq_some_iff.mp hy
          rw [List.length_range] at hj
          rw [List.getElem_range] at ej
          subst ej
          have ej0 : (0 : Int) + (j : Int) = j := Int.zero_add _
          rw [ej0]
          have hrow : (redN G.inv M i).rest[j]? = some (redN G.inv M i).rest[j] := List.getElem?_eq_getElem hj
          obtain ⟨v1, hv1, ⟨b, us, rfl, hb, al2⟩, _⟩ := alR.get hrow
          have hl1 := I.wr _ (List.getElem_mem hj)
          have hcx : (redN G.inv M i).rest[j][i]? = some ((redN G.inv M i).rest[j][i]'(by omega)) := List.getElem?_eq_getElem _
          obtain ⟨nv, hnv, hN⟩ := al2.get hcx
          have hgd : (redN G.inv M i).rest.getD j [] = (redN G.inv M i).rest[j] := getD_at hrow
          have hN4 := hN.mono s4
          obtain ⟨ax, dx, rfl, hax⟩ := id hN4
          refine ⟨_, rfl, _, rfl, ra2, rs, _, _, rfl, rfl, SqL.of (s4 _ _ hra2), atI_nat hv1, ?_⟩
          refine ⟨_, rfl, b, us, _, _, rfl, rfl, SqL.of (s4 _ _ hb), atI_nat hnv, ?_⟩
          refine ⟨ax, dx, _, rfl, hax, fl_none (by decide) (by decide) (by decide), ?_⟩
          refine ⟨_, _, rfl, hN4, _, rfl, ?_⟩
          have hk := k4 H4 (Same.refl _)
          rw [hgd, vec_at hcx] at hk
          rw [decide_not] at hk
          exact hk
        · intro H4 s4 Q4 k4
          obtain ⟨hj, ej⟩ := List.getElem?_eq_some_iff.mp hy
          rw [List.length_range] at hj
          rw [List.getElem_range] at ej
          subst ej
          have ej0 : (0 : Int) + (j : Int) = j := Int.zero_add _
          rw [ej0]
          exact ⟨_, rfl, k4 _ H4 (Same.refl _) rfl yes_all⟩
        · refine ⟨_, rfl, p, zs, rfl, .inl (SqL.of hp), _, _, rfl, rfl, _, rfl, ?_⟩
          have zl : zs.length = (places (redN G.inv M i).rest i).length := al3.len
          rcases redStep_cases G.inv (redN G.inv M i) i with ⟨h1, h2, _⟩ | ⟨i0, l, pre, own0, post, h1, h2, h3, h4, h5, h6, h7⟩
          · rw [zl, h2]
            refine iteF ?_
            refine p_next ?_
            dsimp only
            refine ⟨s2.trans s3, .ref ra2, f, _, _, _, _, _, rfl, ?_⟩
            rw [redN_succ, h1]
            exact ⟨mo_tabN _ _ _ _ s3 hr', mo_tabN _ _ _ _ s3 hf', s3 _ _ hL'⟩
          · rw [zl, h1, decide_eq_true (by simp)]
            refine iteT ?_
            have hi0 : i0 < (redN G.inv M i).rest.length := by
              rw [h2, List.length_append, List.length_cons]
              omega
            obtain ⟨zv, hz0, rz⟩ := al3.get (show (places (redN G.inv M i).rest i)[0]? = some i0 by rw [h1]; rfl)
            have rz' : zv = .int i0 := rz
            subst rz'
            have hrow : (redN G.inv M i).rest[i0]? = some own0 := by
              rw [h2, List.getElem?_append_right (by omega), h3, Nat.sub_self]
              rfl
            have hown0 : own0 ∈ (redN G.inv M i).rest := List.mem_of_getElem? hrow
            have hlo : own0.length = n := I.wr _ hown0
            obtain ⟨v1, hv1, ⟨b, us, rfl, hb, al2⟩, _⟩ := alR.get hrow
            have hcx : own0[i]? = some (own0[i]'(by omega)) := List.getElem?_eq_getElem _
            have hvx : vec own0 i = own0[i]'(by omega) := vec_at hcx
            obtain ⟨nv, hnv, hN⟩ := al2.get hcx
            have hN3 := hN.mono s3
            obtain ⟨ax, dx, rfl, hax⟩ := id hN3
            have hbx : bd G 120 120 (own0[i]'(by omega)) := hB0.1 _ hown0 _ (List.getElem_mem _)
            have at0 : atI zs 0 = some (.int i0) := atI_nat (j := 0) hz0
            refine ⟨_, rfl, _, rfl, p, zs, _, _, rfl, rfl, SqL.of hp, at0, ra2, rs, _, _, rfl, rfl, SqL.of (s3 _ _ hra2), atI_nat hv1, ?_⟩
            refine ⟨_, rfl, _, rfl, b, us, _, _, rfl, rfl, SqL.of (s3 _ _ hb), atI_nat hnv, ?_⟩
            refine ⟨ax, dx, _, rfl, hax, fl_none (by decide) (by decide) (by decide), ?_⟩
            refine ⟨_, _, 120, rfl, hN3, hbx, by decide, (by rw [← hvx]; exact h4), fun hd H5 s5 hh => ?_⟩
            dsimp only [gName]
            refine p_seq ?_
            refine p_asg ?_
            have bh : bd G 120 120 (G.inv (own0[i]'(by omega))) := bd_inv (by rw [← hvx]; exact h4) hbx
            refine tlc_l (xs := us) (H1 := H5) (ys := own0.map fun x => G.inv (vec own0 i) * x) (R := RNum K G) (N := Yes) (fun R r => ⟨.ref b, rfl, b, rfl, ⟨_, SqL.of (s5 _ _ (s3 _ _ hb))⟩, r⟩) stay_num (SqL.of (s5 _ _ (s3 _ _ hb))) (by rw [al2.len, List.length_map]) (by rw [List.length_map]; omega) (by intro x; rfl) (fun j x y hx hy => ?_) (fun ow H6 ows now s6 how alo => ?_)
            · intro H7 s7 Q7 k7
              obtain ⟨fx, hfx, n1⟩ := al2.got hx
              rw [List.getElem?_map, hfx] at hy
              have hy' := (Option.some.inj hy).symm
              refine ⟨_, rfl, _, rfl, ?_⟩
              refine rOwn_bin (b1 := 120) (b2 := 120) (hh.mono s7) (n1.mono ((s3.trans s5).trans s7)) bh (hB0.1 _ hown0 _ (List.mem_of_getElem? hfx)) (by decide) fun v6 H8 e6 h8 => ?_
              refine k7 v6 H8 e6 ?_ yes_all
              rw [hy', hvx]
              exact h8
            · have s36 := (s3.trans s5).trans s6
              have hlq : rs.length ≤ 1000 := by rw [alR.len]; exact hRl
              have hi0' : i0 ≤ rs.length := by rw [alR.len]; omega
              have hi1' : i0 + 1 ≤ rs.length := by rw [alR.len]; omega
              refine ⟨_, rfl, _, rfl, p, zs, _, _, rfl, rfl, SqL.of (s6 _ _ (s5 _ _ hp)), at0, _, rfl, ra2, rs, rfl, SqL.of (s36 _ _ hra2), fun q1 nq1 => ?_⟩
              have e1 : Same H6 (upd H6 q1 (.lst (cutV rs none (some (i0 : Int))))) := same_upd nq1
              refine ⟨_, rfl, _, rfl, p, zs, _, _, rfl, rfl, SqL.of (e1 _ _ (s6 _ _ (s5 _ _ hp))), at0, _, _, rfl, rfl, _, rfl, ra2, rs, rfl, SqL.of (e1 _ _ (s36 _ _ hra2)), fun q2 nq2 => ?_⟩
              rw [show ((i0 : Int) + 1) = ((i0 + 1 : Nat) : Int) from by omega] at *
              rw [cut_take hi0'] at e1 nq2 ⊢
              rw [cut_drop hi1']
              have e2 : Same (upd H6 q1 (.lst (rs.take i0))) (upd (upd H6 q1 (.lst (rs.take i0))) q2 (.lst (rs.drop (i0 + 1)))) := same_upd nq2
              refine ⟨q1, q2, _, _, rfl, rfl, e2 _ _ upd_same, upd_same, small_line (by rw [List.length_take, List.length_drop]; omega), fun q3 nq3 => ?_⟩
              have e3 : Same (upd (upd H6 q1 (.lst (rs.take i0))) q2 (.lst (rs.drop (i0 + 1)))) (upd (upd (upd H6 q1 (.lst (rs.take i0))) q2 (.lst (rs.drop (i0 + 1)))) q3 (.lst (rs.take i0 ++ rs.drop (i0 + 1)))) := same_upd nq3
              have h3q : (upd (upd (upd H6 q1 (.lst (rs.take i0))) q2 (.lst (rs.drop (i0 + 1)))) q3 (.lst (rs.take i0 ++ rs.drop (i0 + 1)))) q3 = some (.lst (rs.take i0 ++ rs.drop (i0 + 1))) := upd_same
              have e123 := (e1.trans e2).trans e3
              clear e1 e2 e3 nq1 nq2 nq3
              generalize (upd (upd (upd H6 q1 (.lst (rs.take i0))) q2 (.lst (rs.drop (i0 + 1)))) q3 (.lst (rs.take i0 ++ rs.drop (i0 + 1)))) = H7 at *
              have hcut : (redN G.inv M i).rest.take i0 ++ (redN G.inv M i).rest.drop (i0 + 1) = pre ++ post := by
                rw [h2, ← h3, List.take_left, show pre ++ own0 :: post = (pre ++ [own0]) ++ post by simp, show pre.length + 1 = (pre ++ [own0]).length by simp, List.drop_left]
              have alR7 : Al (fun v x => RowN K G L v x H7) rs (redN G.inv M i).rest := alR.imp fun v x h => mo_rowN _ _ _ _ (s36.trans e123) h
              have alL : Al (fun v x => RowN K G L v x H7) (rs.take i0 ++ rs.drop (i0 + 1)) (pre ++ post) := by
                rw [← hcut]
                exact (alR7.take i0).app (alR7.drop (i0 + 1))
              have hmem : ∀ r, r ∈ pre ++ post → r ∈ (redN G.inv M i).rest := fun r h => by
                rw [h2]
                rcases List.mem_append.mp h with h | h
                · exact List.mem_append_left _ h
                · exact List.mem_append_right _ (List.mem_cons_of_mem _ h)
              have hpl : (pre ++ post).length ≤ 1000 := by rw [← alL.len, List.length_append, List.length_take, List.length_drop]; omega
              have hrowO : RowL K G (.ref ow) (own0.map fun x => G.inv (vec own0 i) * x) H7 := mo_rowL _ _ _ _ e123 ⟨ow, ows, rfl, how, alo⟩
              have hbO : ∀ x, x ∈ (own0.map fun x => G.inv (vec own0 i) * x) → bd G 240 240 x := fun x hx => by
                obtain ⟨z, hz, e⟩ := List.mem_map.mp hx
                rw [← e, hvx]
                exact bd_mul bh (hB0.1 _ hown0 _ hz)
              have hlO : (own0.map fun x => G.inv (vec own0 i) * x).length = n := by rw [List.length_map]; exact hlo
              have hL7 : H7 L ≠ none := by
                rw [(s36.trans e123) _ _ hL']
                exact fun z => nomatch z
              dsimp only [gName]
              refine p_seq ?_
              refine p_asg ?_
              refine tlc_l (xs := rs.take i0 ++ rs.drop (i0 + 1)) (H1 := H7) (ys := (pre ++ post).map fun r => lessK r (own0.map fun x => G.inv (vec own0 i) * x) i) (R := RowN K G L) (N := Nt) (fun R r => ⟨.ref q3, rfl, q3, rfl, ⟨_, SqL.of h3q⟩, r⟩) stay_rowN (SqL.of h3q) (by rw [alL.len, List.length_map]) (by rw [List.length_map]; omega) (by intro x; rfl) (fun j x y hx hy => ?_) (fun rb H8 rbs nrb s8 hrb alb => ?_)
              · intro H9 s9 Q9 k9
                obtain ⟨rr, hrr, n1, n2⟩ := alL.got hx
                rw [List.getElem?_map, hrr] at hy
                have hy' := (Option.some.inj hy).symm
                have hm := hmem _ (List.mem_of_getElem? hrr)
                have hlr := I.wr _ hm
                obtain ⟨b1, us1, rfl, hb1, _⟩ := id n1
                refine ⟨_, rfl, _, rfl, _, rfl, _, _, rr, _, i, rfl, mo_rowL _ _ _ _ s9 n1, mo_rowL _ _ _ _ s9 hrowO, by rw [hlr, hlO], by omega, by omega, fun x hx => (hB0.1 _ hm x hx).mono (by decide) (by decide), hbO, fun v H10 e10 hc h10 => ?_⟩
                refine k9 v H10 e10 ⟨by rw [hy']; exact h10, ?_⟩ ?_
                · rcases hc with rfl | ⟨p9, rfl, np9⟩
                  · exact n2
                  · intro z
                    injection z with z
                    rw [z] at np9
                    exact hL7 (by
                      cases eL : H7 L with
                      | none => rfl
                      | some u =>
                        rw [s9 _ _ eL] at np9
                        cases np9)
                · rcases hc with rfl | ⟨p9, rfl, np9⟩
                  · exact nt_old (by rw [hb1]; exact fun z => nomatch z)
                  · exact nt_new np9
              · obtain ⟨fad, fs, rfl, hnf, hfa, alF⟩ := mo_tabN _ _ _ _ ((s36.trans e123).trans s8) hf'
                have hrowO8 := mo_rowL _ _ _ _ s8 hrowO
                have hL8 : H8 L = some (.lst ((redN G.inv M i).fp.map fun a => .int a.2)) := ((s36.trans e123).trans s8) _ _ hL'
                dsimp only [gName]
                refine p_seq ?_
                refine p_asg ?_
                refine p_op ?_
                refine tlc_l (xs := fs) (H1 := H8) (ys := (redN G.inv M i).fp.map fun a => lessK a.1 (own0.map fun x => G.inv (vec own0 i) * x) i) (R := RowN K G L) (N := Nt) (fun R r => ⟨.ref fad, rfl, fad, rfl, ⟨_, SqL.of hfa⟩, r⟩) stay_rowN (SqL.of hfa) (by rw [alF.len, List.length_map, List.length_map]) (by rw [List.length_map]; omega) (by intro x; rfl) (fun j x y hx hy => ?_) (fun fb H9 fbs nfb s9 hfb alfb => ?_)
                · intro H9 s9 Q9 k9
                  obtain ⟨rr, hrr, n1, n2⟩ := alF.got hx
                  rw [List.getElem?_map] at hrr
                  obtain ⟨qa, hqa, eqa⟩ := Option.map_eq_some_iff.mp hrr
                  rw [List.getElem?_map, hqa] at hy
                  have hy' := (Option.some.inj hy).symm
                  have hm := List.mem_of_getElem? hqa
                  have hlr := I.wf _ hm
                  subst eqa
                  obtain ⟨b1, us1, rfl, hb1, _⟩ := id n1
                  refine ⟨_, rfl, _, rfl, _, rfl, _, _, qa.1, _, i, rfl, mo_rowL _ _ _ _ s9 n1, mo_rowL _ _ _ _ s9 hrowO8, by rw [hlr, hlO], by omega, by omega, fun x hx => (hB0.2 _ hm x hx).mono (by decide) (by decide), hbO, fun v H10 e10 hc h10 => ?_⟩
                  refine k9 v H10 e10 ⟨by rw [hy']; exact h10, ?_⟩ ?_
                  · rcases hc with rfl | ⟨p9, rfl, np9⟩
                    · exact n2
                    · intro z
                      injection z with z
                      rw [z, s9 _ _ hL8] at np9
                      cases np9
                  · rcases hc with rfl | ⟨p9, rfl, np9⟩
                    · exact nt_old (by rw [hb1]; exact fun z => nomatch z)
                    · exact nt_new np9
                · refine ⟨_, rfl, (by show 1 ≤ sizeLine; decide), fun ol nol => ?_⟩
                  have eo : Same H9 (upd H9 ol (.lst [.ref ow])) := same_upd nol
                  refine ⟨fb, ol, _, _, rfl, rfl, eo _ _ hfb, upd_same, small_line (by rw [alfb.len, List.length_map]; show _ + 1 ≤ _; omega), fun fc nfc => ?_⟩
                  have ec : Same (upd H9 ol (.lst [.ref ow])) (upd (upd H9 ol (.lst [.ref ow])) fc (.lst (fbs ++ [.ref ow]))) := same_upd nfc
                  have hfc : (upd (upd H9 ol (.lst [.ref ow])) fc (.lst (fbs ++ [.ref ow]))) fc = some (.lst (fbs ++ [.ref ow])) := upd_same
                  have eoc := eo.trans ec
                  have hLf : fc ≠ L := fun z => by
                    rw [z, eo _ _ (s9 _ _ hL8)] at nfc
                    cases nfc
                  clear eo ec nol nfc
                  generalize (upd (upd H9 ol (.lst [.ref ow])) fc (.lst (fbs ++ [.ref ow]))) = Hz at *
                  have hLz : Hz L = some (.lst ((redN G.inv M i).fp.map fun a => .int a.2)) := eoc _ _ (s9 _ _ hL8)
                  have hHz : Same H Hz := (((s2.trans s36).trans (e123.trans s8)).trans s9).trans eoc
                  refine ⟨.ref L, rfl, .inl ⟨rfl, _, SqL.of hLz⟩, _, rfl, L, _, _, rfl, rfl, hLz, small_line' (by rw [List.length_map]; omega), ?_⟩
                  have hnow : V.ref ow ≠ .ref L := fun z => by
                    injection z with z
                    rw [z, s5 _ _ (s3 _ _ hL')] at now
                    cases now
                  refine p_next ?_
                  refine ⟨same_mut HL hHz, .ref rb, .ref fc, _, _, _, _, _, rfl, ?_⟩
                  rw [redN_succ, h7]
                  refine ⟨tabN_mut hLz ⟨rb, rbs, rfl, fun z => ?_, eoc _ _ (s9 _ _ hrb), alb.imp fun v x h => mo_rowN _ _ _ _ (s9.trans eoc) h⟩, tabN_mut hLz ⟨fc, _, rfl, hLf, hfc, ?_⟩, ?_⟩
                  · rw [z] at nrb
                    exact hL7 nrb
                  · rw [List.map_append, List.map_map]
                    exact (alfb.imp fun v x h => mo_rowN _ _ _ _ eoc h).snoc ⟨mo_rowL _ _ _ _ (s9.trans eoc) hrowO8, hnow⟩
                  · rw [List.map_append, List.map_map]
                    exact upd_same
      · obtain ⟨s2, r, f, y5, y6, y7, y8, y9, rfl, hr', hf', hL'⟩ := hP
        refine ⟨_, rfl, _, rfl, (by show 2 ≤ sizeLine; decide), fun t nt => ?_⟩
        have st : Same H' (upd H' t (.tup [f, .ref L])) := same_upd nt
        exact q t f L _ (s2.trans st) upd_same (mo_tabN _ _ _ _ st hf').l (st _ _ hL')
end
end K51

set_option Elab.async false
set_option linter.all false
set_option maxRecDepth 100000
set_option maxHeartbeats 4000000
set_option autoImplicit false
namespace K51
open PySem PySem.Spec PyProof.Rows L2
section
variable {X : Cx} {K : PySem.W.Frag}
theorem slL (hK : X.K = K) : SlR X (rSlL K) := by
  subst hK
  exact sl_list
end
theorem Stay.map {β γ : Type} {H1 : Hp} {N : V → Addr → Prop} {R : V → β → Hp → Prop} (S : Stay H1 N R) (f : γ → β) : Stay H1 N (fun v z H => R v (f z) H) := ⟨fun v y H H' e h => S.mo v (f y) H H' e h, fun v y H D zs zs' h1 h2 h3 h4 => S.st v (f y) H D zs zs' h1 h2 h3 h4⟩
section
variable {F : Type} [Lean.Grind.CommRing F] [DecidableEq F] {K : PySem.W.Frag} {G : Gnd F}
theorem ic_dec {i j : Nat} : G.ic (if decide (V.int (i : Int) = V.int (j : Int)) = true then 1 else 0) = if i = j then 1 else 0 := by
  by_cases h : i = j
  · subst h
    rw [if_pos (by simp), if_pos rfl, G.ic_one]
  · rw [if_neg (by simp; omega), if_neg h, ic_zero]
theorem dec_small {b : Bool} : (if b = true then (1 : Int) else 0).natAbs ≤ 2 ^ 100 := by
  cases b <;> decide
theorem take_get {α : Type} {l : List α} {i : Nat} {x : α} (h : l[i]? = some x) : l.take (i + 1) = l.take i ++ [x] := by
  rw [List.take_add_one, h]
  rfl
/-- a list of tuples -/
def TabM (K : PySem.W.Frag) (G : Gnd F) : V → List (List F) → Hp → Prop := fun v M H => ∃ a vs, v = .ref a ∧ H a = some (.lst vs) ∧ Al (fun v x => RowT K G v x H) vs M
def bd1 (G : Gnd F) (M : List (List F)) : Prop := ∀ r, r ∈ M → ∀ x, x ∈ r → bd G 1 0 x
theorem wide_bd {M : List (List F)} (h : bd1 G M) : bd1 G (wideK M) := fun r hr x hx => by
  obtain ⟨i, hi, rfl⟩ := List.mem_map.mp hr
  have hi' := List.mem_range.mp hi
  rw [getD_at (List.getElem?_eq_getElem hi')] at hx
  rcases List.mem_append.mp hx with hx | hx
  · exact h _ (List.getElem_mem hi') x hx
  · obtain ⟨j, _, rfl⟩ := List.mem_map.mp hx
    split
    · exact bd_one.mono (by decide) (by decide)
    · exact bd_zero.mono (by decide) (by decide)
end
section
variable {P : Program} {w : World} {K : PySem.W.Frag} {mg : Str → Option Value} {base : Heap} {F : Type} [Lean.Grind.CommRing F] [DecidableEq F]
def spKernel (K : PySem.W.Frag) (G : Gnd F) : L2.Sp := fun vs H Q _ => ∃ g v M, ∃ wd : Nat, vs = [g, v, .int wd] ∧ GAt K H g G.p ∧ TabM K G v M H ∧ M.length ≤ 4 ∧ wd ≤ 64 ∧ (∀ r, r ∈ M → r.length = wd) ∧ bd1 G M ∧
  ∀ v H', Same H H' → TabL K G v (kernelK G.inv M wd) H' → Q v H'
theorem ok_kernel (T : Tx K mg) (G : Gnd F) : FnOk P w K mg base CX0 9 (He.fAd K ("kernel_rows", none)) (fdOf K (He.fAd K ("kernel_rows", none))) ["ground", "rows", "width"] (spKernel K G) := by
  refine fok (F_kernel_rows T.c) sc_kernel_rows (fun vs H Q E h => ?_) (fun cdv A outer s H vs Q E hr h => ?_)
  · obtain ⟨g, v, M, wd, rfl, _⟩ := h
    rfl
  · obtain ⟨g, v, M, wd, rfl, hg, ⟨a, rs, rfl, ha, al⟩, hM, hw, hrow, hb, q⟩ := h
    have nd := sc_kernel_rows.nd
    obtain ⟨ga, gx, rfl, hga⟩ := id hg
    obtain ⟨ds, hds, hbn⟩ := B1_G_number T.c
    have clG : Cls K (He.ga K "Ground") := He.cls_ok (a_cls_Ground T.c)
    refine ⟨_, pss_cons (ps_set (i := 3) nd rfl (.inl rfl) (pe_callB (lenS (K := K) rfl) (by rfl) (T.free (a_free_len T.c)) boot_len (pa_cons (pv 1) pa_nil)))
      (pss_cons (ps_set (i := 4) nd rfl (.inl rfl) (pe_lst pa_nil))
      (pss_cons (ps_for PassesOwn.never rfl (pi_range1 (by rfl) (T.free (a_free_range T.c)) (pa_cons (pv 3) pa_nil)) (pg_name (i := 5) nd rfl (.inr rfl))
        (pss_one (ps_expr (pe_bm PySem.F.plainAttrs_list PySem.F.slot_list_append PySem.F.type_list_append mt_append (pv 4) (pa_cons
          (pe_op op_cat (pe_callTy (listOf (K := K) rfl) (by rfl) (T.free (a_free_list T.c)) boot_tlist (pa_cons (pe_ix (ixL (K := K) rfl) (pv 1) (pv 5) (fun _ _ => rfl)) pa_nil))
            (pe_lc (own := [("j", 8)]) (g := gName 8) (tt := tYes) rfl nd (pi_range1 (by rfl) (T.free (a_free_range T.c)) (pa_cons (pv 3) pa_nil)) (blkOk_by (N := ["ground", "rows", "width", "height", "wide", "i", "found", "pivots", "j", "k"]) (sc := defScope s_kernel_rows) (by decide +kernel))
              (fun _ _ _ _ _ => pg_name (i := 8) nd rfl (.inl rfl)) (fun _ _ _ _ _ => pts_nil)
              (fun _ _ _ _ _ => pe_meth (pv 0) clG (He.meth_ok (a_meth_G_number T.c)) (ok_number T G) hr hbn hds pass0 (pa_cons (pe_callTy call_int1 (by rfl) (T.free (a_free_int T.c)) boot_tint (pa_cons (pe_cmpR op_eq (pv 5) (pv 8) (nomark _)) pa_nil)) pa_nil)))) pa_nil)))))
      (pss_cons (ps_asg (pe_call (ok_reduce_list T G) hr (by rfl) (T.glo (a_glo_reduce_rows T.c)) (F_reduce_rows T.c).kp (B_reduce_rows T.c) .nil pass0 (pa_cons (pv 4) (pa_cons (pe_op op_add (pv 2) (pv 3)) pa_nil)))
          (pg_tup rfl (pgs_cons (pg_name (i := 6) nd rfl (.inr rfl)) (pgs_cons (pg_name (i := 7) nd rfl (.inr rfl)) pgs_nil))))
      (pss_one (ps_ret (pe_lc (own := [("k", 9)]) (g := gName 9) rfl nd (pi_range1 (by rfl) (T.free (a_free_range T.c)) (pa_cons (pe_callB (lenS (K := K) rfl) (by rfl) (T.free (a_free_len T.c)) boot_len (pa_cons (pv 6) pa_nil)) pa_nil)) (blkOk_by (N := ["ground", "rows", "width", "height", "wide", "i", "found", "pivots", "j", "k"]) (sc := defScope s_kernel_rows) (by decide +kernel))
          (fun _ _ _ _ _ => pg_name (i := 9) nd rfl (.inl rfl)) (fun _ _ _ _ _ => pts_one (pt_cmpR op_ge (pe_ix (ixL (K := K) rfl) (pv 7) (pv 9) (fun _ _ => rfl)) (pv 2) (nomark _)))
          (fun _ _ _ _ _ => pe_slice (slL (K := K) rfl) (pe_ix (ixL (K := K) rfl) (pv 6) (pv 9) (fun _ _ => rfl)) (po_some (pv 2)) po_none))))))), ?_⟩
    refine ⟨_, rfl, a, rs, rfl, .inl (SqL.of ha), ?_⟩
    refine ⟨Nat.zero_le _, fun W nW => ?_⟩
    have sW : Same H (upd H W (.lst [])) := same_upd nW
    refine ⟨_, rfl, rs.length, rfl, by omega, by rw [al.len]; omega, ?_⟩
    refine for_range (lo := 0) (n := rs.length) (fun i σ H' => Same H H' ∧ ∃ y5, σ = [some (.ref ga), some (.ref a), some (.int wd), some (.int rs.length), some (.ref W), y5, none, none, none, none] ∧ ∃ zs, H' W = some (.lst zs) ∧ Al (fun v x => RowN K G W v x H') zs ((wideK M).take i))
      ⟨sW, none, rfl, [], upd_same, Al.nil⟩ (fun i σ H' hi hP => ?_) fun σ H' hP => ?_
    · obtain ⟨s1, y5, rfl, zs, hW, alz⟩ := hP
      have e0 : (0 : Int) + (i : Int) = i := Int.zero_add _
      rw [e0]
      have hiM : i < M.length := by rw [← al.len]; exact hi
      have hMi : M[i]? = some M[i] := List.getElem?_eq_getElem hiM
      obtain ⟨rv, hrv, b, us, rfl, hb', al2⟩ := al.get hMi
      dsimp only [gName]
      refine ⟨.ref W, rfl, .inl ⟨rfl, _, SqL.of hW⟩, ?_⟩
      refine p_cons ?_
      refine p_op ?_
      refine ⟨_, rfl, _, rfl, a, rs, _, _, rfl, rfl, SqL.of (s1 _ _ ha), atI_nat hrv, b, us, rfl, .inr (SqT.of (s1 _ _ hb')), fun l nl => ?_⟩
      have sl : Same H' (upd H' l (.lst us)) := same_upd nl
      refine tlc_r (lo := 0) (n := rs.length) (H1 := upd H' l (.lst us)) (ys := eRow M.length i) (R := RNum K G) (N := Yes) (fun R r => ⟨_, rfl, _, rfl, by omega, by rw [al.len]; omega, r⟩) stay_num (by rw [eRow_len, al.len]) (by rw [eRow_len]; omega) (by intro x; rfl) (fun j y hy => ?_) (fun e H3 ws ne s3 he ale => ?_)
      · intro H4 s4 Q4 k4
        obtain ⟨hj, ej⟩ := List.getElem?_eq_some_iff.mp hy
        have hj' : j < M.length := by rw [eRow_len] at hj; exact hj
        have ey : (if i = j then 1 else 0) = y := by
          unfold eRow at hy
          rw [List.getElem?_map, List.getElem?_range hj'] at hy
          exact Option.some.inj hy
        have ej0 : (0 : Int) + (j : Int) = j := Int.zero_add _
        rw [ej0]
        have hg4 := hg.mono ((s1.trans sl).trans s4)
        refine ⟨_, rfl, ga, gx, _, rfl, ((s1.trans sl).trans s4) _ _ hga, rfl, ?_⟩
        refine ⟨_, rfl, _, rfl, rfl, .inr ⟨_, rfl, ?_⟩⟩
        refine ⟨_, _, rfl, hg4, dec_small, fun v H5 e5 h5 => k4 v H5 e5 ?_ yes_all⟩
        rw [ic_dec, ey] at h5
        exact h5
      · refine ⟨l, e, us, ws, rfl, rfl, s3 _ _ upd_same, he, small_line (by rw [ale.len, eRow_len, al2.len, hrow _ (List.getElem_mem hiM)]; omega), fun p np => ?_⟩
        have sp : Same H3 (upd H3 p (.lst (us ++ ws))) := same_upd np
        have hpW : p ≠ W := fun z => by
          rw [z, s3 _ _ (sl _ _ hW)] at np
          cases np
        have hp : (upd H3 p (.lst (us ++ ws))) p = some (.lst (us ++ ws)) := upd_same
        have s5 := (sl.trans s3).trans sp
        have al5 : Al (fun v x => NumG K G (upd H3 p (.lst (us ++ ws))) v x) (us ++ ws) (M[i] ++ eRow M.length i) := (al2.imp fun v x h => NumG.mono h (s1.trans s5)).app (ale.imp fun v x h => NumG.mono h sp)
        generalize (upd H3 p (.lst (us ++ ws))) = H5 at *
        refine ⟨W, zs, .ref p, rfl, rfl, s5 _ _ hW, small_line' (by rw [alz.len, List.length_take]; omega), ?_⟩
        have hW5 := s5 _ _ hW
        have hwk : (wideK M)[i]? = some (M[i] ++ eRow M.length i) := by
          unfold wideK
          rw [List.getElem?_map, List.getElem?_range hiM]
          show some (M.getD i [] ++ _) = _
          rw [getD_at hMi]
        refine p_next ?_
        refine ⟨same_mut nW (s1.trans s5), some (.int i), rfl, zs ++ [.ref p], upd_same, ?_⟩
        rw [take_get hwk]
        refine (alz.imp fun v x h => ?_).snoc ⟨rowL_mut hW5 (fun z => hpW (V.ref.inj z)) ⟨p, _, rfl, hp, al5⟩, fun z => hpW (V.ref.inj z)⟩
        exact ⟨rowL_mut hW5 h.2 (mo_rowL _ _ _ _ s5 h.1), h.2⟩
    · obtain ⟨s1, y5, rfl, zs, hW, alz⟩ := hP
      have hwl : (wideK M).length = M.length := by
        unfold wideK
        rw [List.length_map, List.length_range]
      rw [List.take_of_length_le (by rw [hwl, al.len]; exact Nat.le_refl _)] at alz
      have hwr := wideK_len hrow
      have hbt := redN_bd4 (by rw [hwl]; exact hM) hwr (wide_bd hb)
      refine ⟨_, rfl, _, rfl, _, rfl, _, _, rfl, rfl, ?_⟩
      have ew : ((wd : Int) + (rs.length : Int)) = ((wd + M.length : Nat) : Int) := by
        rw [al.len]
        omega
      refine ⟨_, wideK M, wd + M.length, (by
        show [V.ref W, V.int ((wd : Int) + (rs.length : Int))] = [V.ref W, V.int ((wd + M.length : Nat) : Int)]
        rw [ew]), ⟨W, zs, rfl, hW, alz.imp fun v x h => h.1⟩, by rw [hwl]; omega, by omega, hwr, hbt, fun t f p H3 s3 ht hf hp => ?_⟩
      refine ⟨t, [f, .ref p], rfl, .inl (.inl ht), rfl, _, _, rfl, _, _, rfl, rfl, ?_⟩
      obtain ⟨fa, fs, rfl, hfa, alf⟩ := id hf
      have hfl : fs.length = (redN G.inv (wideK M) (wd + M.length)).fp.length := by
        rw [alf.len, List.length_map]
      have hcnt : (redN G.inv (wideK M) (wd + M.length)).fp.length ≤ 4 := by
        have := fp_cnt G.minv hwr
        omega
      dsimp only
      refine p_ret ?_
      refine tlcf_r (lo := 0) (n := fs.length) (ys := (redN G.inv (wideK M) (wd + M.length)).fp) (pf := fun a => decide (wd ≤ a.2)) (H1 := H3) (R := fun v (a : List F × Nat) H => RowL K G v (a.1.drop wd) H) (N := Nt)
        (fun R r => ⟨_, rfl, fa, fs, rfl, .inl (SqL.of hfa), _, rfl, by omega, by rw [hfl]; omega, r⟩) (stay_rowL.map _) hfl (by omega) (by intro x; rfl) (fun j y hy => ?_) (fun j y hy hp2 => ?_) (fun D H5 ws nD s5 hD alD => ?_)
      · intro H4 s4 Q4 k4
        have ej0 : (0 : Int) + (j : Int) = j := Int.zero_add _
        rw [ej0]
        refine ⟨_, rfl, _, rfl, p, _, _, _, rfl, rfl, SqL.of (s4 _ _ hp), atI_nat (by rw [List.getElem?_map, hy]; rfl), _, rfl, _, _, rfl, rfl, _, rfl, ?_⟩
        have e : decide ((wd : Int) ≤ (y.2 : Int)) = decide (wd ≤ y.2) := by
          rw [Bool.eq_iff_iff]
          simp
        rw [e]
        exact k4 H4 (Same.refl _)
      · intro H4 s4 Q4 k4
        have ej0 : (0 : Int) + (j : Int) = j := Int.zero_add _
        rw [ej0]
        obtain ⟨rv, hrv, b, us, rfl, hb', al2⟩ := alf.get (show ((redN G.inv (wideK M) (wd + M.length)).fp.map (·.1))[j]? = some y.1 by rw [List.getElem?_map, hy]; rfl)
        refine ⟨_, rfl, _, rfl, fa, fs, _, _, rfl, rfl, SqL.of (s4 _ _ hfa), atI_nat hrv, _, rfl, _, rfl, b, us, rfl, SqL.of (s4 _ _ hb'), fun p2 np2 => ?_⟩
        have hyl : y.1.length = wd + (wideK M).length := by
          rw [hwl]
          exact fp_len G.minv hwr _ (List.mem_of_getElem? hy)
        rw [cut_drop (by rw [al2.len, hyl]; omega)]
        have sp2 : Same H4 (upd H4 p2 (.lst (us.drop wd))) := same_upd np2
        exact k4 _ _ sp2 ⟨p2, _, rfl, upd_same, (al2.imp fun v x h => NumG.mono h (s4.trans sp2)).drop wd⟩ (nt_new np2)
      · exact q _ _ ((s1.trans s3).trans s5) ⟨D, ws, rfl, hD, Al.map alD⟩
end
end K51

set_option Elab.async false
set_option linter.all false
set_option maxRecDepth 100000
set_option maxHeartbeats 4000000
set_option autoImplicit false
namespace K51
open PySem PySem.Spec PyProof.Rows L2
theorem atI_m1 {α : Type} {xs : List α} {v : α} (h : xs[xs.length - 1]? = some v) : atI xs (-1) = some v := by
  obtain ⟨hl, _⟩ := List.getElem?_eq_some_iff.mp h
  have e : xs = xs.take (xs.length - 1) ++ [v] := by
    rw [← take_get h, Nat.sub_add_cancel (by omega), List.take_length]
  rw [e]
  exact atI_last _ _
theorem cut_m1 {xs : List V} : cutV xs none (some (-1)) = xs.take (xs.length - 1) := by
  have e : HT.sIx xs.length xs.length (some (-1)) = xs.length - 1 := by
    show (if (-1 : Int) < 0 then ((-1 : Int) + (xs.length : Int)).toNat else min (-1 : Int).toNat xs.length) = xs.length - 1
    rw [if_pos (by decide)]
    omega
  unfold cutV
  rw [e]
  rfl
section
variable {P : Program} {w : World} {K : PySem.W.Frag} {mg : Str → Option Value} {base : Heap} {F : Type} [Lean.Grind.CommRing F] [DecidableEq F]
/-- reduced -/
def spReduced (K : PySem.W.Frag) (G : Gnd F) : L2.Sp := fun vs H Q _ => ∃ v M, ∃ wd : Nat, vs = [v] ∧ MatAt K G H v M wd ∧ M.length ≤ 4 ∧ wd ≤ 64 ∧ (∀ r, r ∈ M → r.length = wd) ∧ bd1 G M ∧
  ∀ t m p H', Same H H' → H' t = some (.tup [m, .ref p]) → MatAt K G H' m ((redN G.inv M wd).fp.map (·.1)) wd → H' p = some (.tup ((redN G.inv M wd).fp.map fun a => .int a.2)) → Q (.ref t) H'
theorem ok_reduced (T : Tx K mg) (G : Gnd F) : FnOk P w K mg base CX0 13 (He.fAd K ("reduced", none)) (fdOf K (He.fAd K ("reduced", none))) ["m"] (spReduced K G) := by
  refine fok (F_reduced T.c) sc_reduced (fun vs H Q E h => ?_) (fun cdv A outer s H vs Q E hr h => ?_)
  · obtain ⟨v, M, wd, rfl, _⟩ := h
    rfl
  · obtain ⟨v, M, wd, rfl, ⟨a, dx, g, r, rfl, ha, hg, hT⟩, hM, hw, hrow, hb, q⟩ := h
    have nd := sc_reduced.nd
    have cl : Cls K (He.ga K "Matrix") := He.cls_ok (a_cls_Matrix T.c)
    have n1 : NoAttr K (He.ga K "Matrix") "ground" := He.noat_ok (a_noat_Matrix_ground T.c)
    have n2 : NoAttr K (He.ga K "Matrix") "rows" := He.noat_ok (a_noat_Matrix_rows T.c)
    have n3 : NoAttr K (He.ga K "Matrix") "width" := He.noat_ok (a_noat_Matrix_width T.c)
    refine ⟨_, pss_cons (ps_asg (pe_call (ok_reduce_tuple T G) (hr.mono (by decide)) (by rfl) (T.glo (a_glo_reduce_rows T.c)) (F_reduce_rows T.c).kp (B_reduce_rows T.c) .nil pass0 (pa_cons (pe_fld (pv 0) rfl) (pa_cons (pe_fld (pv 0) rfl) pa_nil)))
          (pg_tup rfl (pgs_cons (pg_name (i := 1) nd rfl (.inl rfl)) (pgs_cons (pg_name (i := 2) nd rfl (.inl rfl)) pgs_nil))))
      (pss_one (ps_ret (pe_tup (pa_cons (pe_make (He.mkr_ok (a_mkr_Matrix T.c)) (ok_M_init T G true) hr (by rfl) (T.glo (a_glo_Matrix T.c)) (B_M_init T.c) .nil pass0 (pa_cons (pe_fld (pv 0) rfl) (pa_cons (pv 1) (pa_cons (pe_fld (pv 0) rfl) pa_nil))))
        (pa_cons (pe_callTy (tupOf (K := K) rfl) (by rfl) (T.free (a_free_tuple T.c)) boot_ttuple (pa_cons (pv 2) pa_nil)) pa_nil))))), ?_⟩
    refine ⟨_, rfl, a, _, dx, _, _, rfl, ha, cl, n2, rfl, _, rfl, a, _, dx, _, _, rfl, ha, cl, n3, rfl, ?_⟩
    refine ⟨_, M, wd, rfl, hT, by omega, by omega, hrow, redN_bd4 hM hrow hb, fun t f p H3 s3 ht hf hp => ?_⟩
    refine ⟨t, [f, .ref p], rfl, .inl (.inl ht), rfl, _, _, rfl, _, _, rfl, rfl, ?_⟩
    refine ⟨_, rfl, a, _, dx, _, _, rfl, s3 _ _ ha, cl, n1, rfl, _, rfl, _, rfl, a, _, dx, _, _, rfl, s3 _ _ ha, cl, n3, rfl, ?_⟩
    have hcnt := fp_cnt G.minv hrow
    dsimp only [tNil]
    refine mk_M (Q := fun v H2 => tCons (tCB (rTupOf K) (tCons (tVar 2) tNil)) tNil _ H2 fun xs H3 => (v :: xs).length ≤ sizeLine ∧ ∀ p, H3 p = none → Q (.ref p) (upd H3 p (.tup (v :: xs)))) (k := true) (hg.mono s3) hf.tk (by rw [List.length_map]; omega) hw (fun r hr => ?_) fun v H4 s4 hm => ?_
    · obtain ⟨z, hz, e⟩ := List.mem_map.mp hr
      rw [← e]
      exact fp_len G.minv hrow _ hz
    · refine ⟨_, rfl, p, _, rfl, .inl ⟨SqL.of (s4 _ _ hp), fun l nl => ?_⟩⟩
      have sl : Same H4 (upd H4 l (.tup ((redN G.inv M wd).fp.map fun a => .int a.2))) := same_upd nl
      refine ⟨(by show 2 ≤ sizeLine; decide), fun t2 nt2 => ?_⟩
      have st : Same (upd H4 l (.tup ((redN G.inv M wd).fp.map fun a => .int a.2))) (upd (upd H4 l (.tup ((redN G.inv M wd).fp.map fun a => .int a.2))) t2 (.tup [v, .ref l])) := same_upd nt2
      exact q t2 v l _ (((s3.trans s4).trans sl).trans st) upd_same (hm.mono (sl.trans st)) (st _ _ upd_same)
/-- unit_row -/
def spUnitRow (K : PySem.W.Frag) (G : Gnd F) : L2.Sp := fun vs H Q _ => ∃ g, ∃ n k : Nat, vs = [g, .int n, .int k] ∧ GAt K H g G.p ∧ n ≤ 1000 ∧ ∀ v H', Same H H' → RowT K G v (unitK n k) H' → Q v H'
theorem ok_unit_row (T : Tx K mg) (G : Gnd F) : FnOk P w K mg base CX0 9 (He.fAd K ("unit_row", none)) (fdOf K (He.fAd K ("unit_row", none))) ["ground", "n", "k"] (spUnitRow K G) := by
  refine fok (F_unit_row T.c) sc_unit_row (fun vs H Q E h => ?_) (fun cdv A outer s H vs Q E hr h => ?_)
  · obtain ⟨g, n, k, rfl, _⟩ := h
    rfl
  · obtain ⟨g, n, k, rfl, hg, hn, q⟩ := h
    have nd := sc_unit_row.nd
    obtain ⟨ga, gx, rfl, hga⟩ := id hg
    obtain ⟨ds, hds, hbn⟩ := B1_G_number T.c
    have clG : Cls K (He.ga K "Ground") := He.cls_ok (a_cls_Ground T.c)
    refine ⟨_, pss_one (ps_ret (pe_callTy (tupOf (K := K) rfl) (by rfl) (T.free (a_free_tuple T.c)) boot_ttuple (pa_cons
      (pe_lc (own := [("i", 3)]) (g := gName 3) (tt := tYes) rfl nd (pi_range1 (by rfl) (T.free (a_free_range T.c)) (pa_cons (pv 1) pa_nil)) (blkOk_by (N := ["ground", "n", "k", "i"]) (sc := defScope s_unit_row) (by decide +kernel))
        (fun _ _ _ _ _ => pg_name (i := 3) nd rfl (.inl rfl)) (fun _ _ _ _ _ => pts_nil)
        (fun _ _ _ _ _ => pe_meth (pv 0) clG (He.meth_ok (a_meth_G_number T.c)) (ok_number T G) hr hbn hds pass0 (pa_cons (pe_callTy call_int1 (by rfl) (T.free (a_free_int T.c)) boot_tint (pa_cons (pe_cmpR op_eq (pv 3) (pv 2) (nomark _)) pa_nil)) pa_nil))) pa_nil))), ?_⟩
    refine p_ret ?_
    refine p_cb ?_
    refine p_cons ?_
    refine tlc_r (lo := 0) (n := n) (H1 := H) (ys := (unitK n k : List F)) (R := RNum K G) (N := Yes) (fun R r => ⟨_, rfl, _, rfl, by omega, by omega, r⟩) stay_num (unitK_len n k).symm (by rw [unitK_len]; omega) (by intro x; rfl) (fun j y hy => ?_) (fun e H3 ws ne s3 he ale => ?_)
    · intro H4 s4 Q4 k4
      obtain ⟨hj, _⟩ := List.getElem?_eq_some_iff.mp hy
      have hj' : j < n := by rw [unitK_len] at hj; exact hj
      have ey : (if j = k then 1 else 0) = y := by
        unfold unitK at hy
        rw [List.getElem?_map, List.getElem?_range hj'] at hy
        exact Option.some.inj hy
      have ej0 : (0 : Int) + (j : Int) = j := Int.zero_add _
      rw [ej0]
      refine ⟨_, rfl, ga, gx, _, rfl, s4 _ _ hga, rfl, ?_⟩
      refine ⟨_, rfl, _, rfl, rfl, .inr ⟨_, rfl, ?_⟩⟩
      refine ⟨_, _, rfl, hg.mono s4, dec_small, fun v H5 e5 h5 => k4 v H5 e5 ?_ yes_all⟩
      rw [ic_dec, ey] at h5
      exact h5
    · refine ⟨e, ws, rfl, .inl ⟨SqL.of he, fun l nl => ?_⟩⟩
      have sl : Same H3 (upd H3 l (.tup ws)) := same_upd nl
      exact q _ _ (s3.trans sl) ⟨l, ws, rfl, upd_same, ale.imp fun v x h => NumG.mono h sl⟩
/-- solve, where there is a solution -/
def spSolve (K : PySem.W.Frag) (G : Gnd F) : L2.Sp := fun vs H Q _ => ∃ v u M e y, ∃ wd : Nat, vs = [v, u] ∧ MatAt K G H v M wd ∧ RowT K G u e H ∧ M.length ≤ 3 ∧ wd ≤ 64 ∧ (∀ r, r ∈ M → r.length = wd) ∧ e.length = wd ∧ bd1 G M ∧ (∀ x, x ∈ e → bd G 1 0 x) ∧ solveK G.inv M wd e = some y ∧
  ∀ v H', Same H H' → RowT K G v y H' → Q v H'
theorem kernel_bd {G : Gnd F} {M : List (List F)} {wd : Nat} (hl : M.length ≤ 4) (hrow : ∀ r, r ∈ M → r.length = wd) (hb : bd1 G M) : ∀ r, r ∈ kernelK G.inv M wd → ∀ x, x ∈ r → bd G 120 120 x := fun r hr x hx => by
  have hwl : (wideK M).length = M.length := by
    unfold wideK
    rw [List.length_map, List.length_range]
  have hbt := redN_bd4 (by rw [hwl]; exact hl) (wideK_len hrow) (wide_bd hb) (wd + M.length)
  obtain ⟨a, ha, rfl⟩ := List.mem_map.mp hr
  exact hbt.2 a (List.mem_filter.mp ha).1 x (List.mem_of_mem_drop hx)
theorem ok_solve (T : Tx K mg) (G : Gnd F) : FnOk P w K mg base CX0 10 (He.fAd K ("solve", none)) (fdOf K (He.fAd K ("solve", none))) ["m", "w"] (spSolve K G) := by
  refine fok (F_solve T.c) sc_solve (fun vs H Q E h => ?_) (fun cdv A outer s H vs Q E hr h => ?_)
  · obtain ⟨v, u, M, e, y, wd, rfl, _⟩ := h
    rfl
  · obtain ⟨v, u, M, e, y, wd, rfl, ⟨a, dx, g, r, rfl, ha, hg, hT⟩, hU, hM, hw, hrow, hel, hb, hbe, hs, q⟩ := h
    obtain ⟨ra, rs, rfl, hra, alr⟩ := id hT
    obtain ⟨ua, us, rfl, hua, alu⟩ := id hU
    have nd := sc_solve.nd
    have cl : Cls K (He.ga K "Matrix") := He.cls_ok (a_cls_Matrix T.c)
    have n1 : NoAttr K (He.ga K "Matrix") "ground" := He.noat_ok (a_noat_Matrix_ground T.c)
    have n2 : NoAttr K (He.ga K "Matrix") "rows" := He.noat_ok (a_noat_Matrix_rows T.c)
    have n3 : NoAttr K (He.ga K "Matrix") "width" := He.noat_ok (a_noat_Matrix_width T.c)
    have mz := methN (K := K) (p := G.p) (a_meth_Q_is_zero T.c) (a_meth_R_is_zero T.c)
    have bz := bindN (K := K) (p := G.p) (B_Q_is_zero T.c) (B_R_is_zero T.c)
    have mo := methN (K := K) (p := G.p) (a_meth_Q_over T.c) (a_meth_R_over T.c)
    have bo := bindN (K := K) (p := G.p) (B_Q_over T.c) (B_R_over T.c)
    refine ⟨_, pss_cons (ps_if (pt_cmpR op_ne (pe_callB (lenS (K := K) rfl) (by rfl) (T.free (a_free_len T.c)) boot_len (pa_cons (pv 1) pa_nil)) (pe_fld (pv 0) rfl) (nomark _)) (pss_one ps_never) pss_nil)
      (pss_cons (ps_set (i := 2) nd rfl (.inl rfl) (pe_op op_cat (pe_callTy (listOf (K := K) rfl) (by rfl) (T.free (a_free_list T.c)) boot_tlist (pa_cons (pe_fld (pv 0) rfl) pa_nil)) (pe_lst (pa_cons (pe_callTy (tupOf (K := K) rfl) (by rfl) (T.free (a_free_tuple T.c)) boot_ttuple (pa_cons
          (pe_lc (own := [("x", 4)]) (g := gName 4) (tt := tYes) rfl nd (pi_tup (pv 1)) (blkOk_by (N := ["m", "w", "rows", "row", "x"]) (sc := defScope s_solve) (by decide +kernel)) (fun _ _ _ _ _ => pg_name (i := 4) nd rfl (.inl rfl)) (fun _ _ _ _ _ => pts_nil)
            (fun _ _ _ _ _ => pe_un (unK_neg (K := K) (mg := mg) rfl rfl T G (hr.mono (by decide))) (pv 4))) pa_nil)) pa_nil))))
      (pss_cons (ps_for PassesOwn.never rfl (pi_list (pe_call (ok_kernel T G) hr (by rfl) (T.glo (a_glo_kernel_rows T.c)) (F_kernel_rows T.c).kp (B_kernel_rows T.c) .nil pass0 (pa_cons (pe_fld (pv 0) rfl) (pa_cons (pv 2) (pa_cons (pe_fld (pv 0) rfl) pa_nil))))) (pg_name (i := 3) nd rfl (.inr rfl))
        (pss_one (ps_if (pt_not (pt_val (pe_meth0 (pe_ix (ixL (K := K) rfl) (pv 3) (pe_un un_neg pe_int) (fun _ _ => rfl)) (clsN T G.p) mz (ok_is_zero T G) (hr.mono (by decide)) bz .nil pass0)))
          (pss_one (ps_ret (pe_callTy (tupOf (K := K) rfl) (by rfl) (T.free (a_free_tuple T.c)) boot_ttuple (pa_cons
            (pe_lc (own := [("x", 4)]) (g := gName 4) (tt := tYes) rfl nd (pi_list (pe_slice (slL (K := K) rfl) (pv 3) po_none (po_some (pe_un un_neg pe_int)))) (blkOk_by (N := ["m", "w", "rows", "row", "x"]) (sc := defScope s_solve) (by decide +kernel)) (fun _ _ _ _ _ => pg_name (i := 4) nd rfl (.inl rfl)) (fun _ _ _ _ _ => pts_nil)
              (fun _ _ _ _ _ => pe_meth (pv 4) (clsN T G.p) mo (ok_over T G) (hr.mono (by decide)) bo .nil pass0 (pa_cons (pe_ix (ixL (K := K) rfl) (pv 3) (pe_un un_neg pe_int) (fun _ _ => rfl)) pa_nil))) pa_nil)))) pss_nil)))
      (pss_one (ps_ret pe_non)))), ?_⟩
    refine ⟨_, rfl, ua, us, rfl, .inr (SqT.of hua), _, rfl, a, _, dx, _, _, rfl, ha, cl, n3, rfl, rfl, _, rfl, ?_⟩
    refine ite2 (fun z => absurd z (by rw [alu.len, hel]; simp)) (fun _ => ?_)
    refine p_next ?_
    dsimp only
    refine p_seq ?_
    refine p_asg ?_
    refine p_op ?_
    refine ⟨_, rfl, a, _, dx, _, _, rfl, ha, cl, n2, rfl, ra, rs, rfl, .inr (SqT.of hra), fun l1 nl1 => ?_⟩
    have sl1 : Same H (upd H l1 (.lst rs)) := same_upd nl1
    refine p_cons ?_
    refine p_cb ?_
    refine p_cons ?_
    refine tlc_t (xs := us) (H1 := upd H l1 (.lst rs)) (ys := e.map fun x => -x) (R := RNum K G) (N := Yes) (fun R r => ⟨.ref ua, rfl, ua, rfl, ⟨_, SqT.of (sl1 _ _ hua)⟩, r⟩) stay_num (SqT.of (sl1 _ _ hua)) (by rw [alu.len, List.length_map]) (by rw [List.length_map]; omega) (by intro x; rfl) (fun j x y hx hy => ?_) (fun d H3 ws nd3 s3 hd ald => ?_)
    · intro H4 s4 Q4 k4
      obtain ⟨fx, hfx, hn⟩ := alu.got hx
      rw [List.getElem?_map, hfx] at hy
      have hy' := (Option.some.inj hy).symm
      have hn4 := hn.mono (sl1.trans s4)
      obtain ⟨ax, dy, rfl, hax⟩ := id hn4
      refine ⟨_, rfl, ax, dy, _, rfl, hax, _, fx, 1, rfl, hn4, (hbe _ (List.mem_of_getElem? hfx)).mono (by decide) (by decide), by decide, trivial, fun v5 H5 e5 h5 => k4 v5 H5 e5 ?_ yes_all⟩
      rw [hy']
      exact h5
    · refine ⟨d, ws, rfl, .inl ⟨SqL.of hd, fun t1 nt1 => ?_⟩⟩
      have st1 : Same H3 (upd H3 t1 (.tup ws)) := same_upd nt1
      refine ⟨(by show 1 ≤ sizeLine; decide), fun l2 nl2 => ?_⟩
      have sl2 : Same (upd H3 t1 (.tup ws)) (upd (upd H3 t1 (.tup ws)) l2 (.lst [.ref t1])) := same_upd nl2
      have h13 := (s3.trans st1).trans sl2
      refine ⟨l1, l2, _, _, rfl, rfl, h13 _ _ upd_same, upd_same, small_line (by rw [alr.len]; show _ + 1 ≤ _; omega), fun l3 nl3 => ?_⟩
      have sl3 : Same (upd (upd H3 t1 (.tup ws)) l2 (.lst [.ref t1])) (upd (upd (upd H3 t1 (.tup ws)) l2 (.lst [.ref t1])) l3 (.lst (rs ++ [.ref t1]))) := same_upd nl3
      have hl3 : (upd (upd (upd H3 t1 (.tup ws)) l2 (.lst [.ref t1])) l3 (.lst (rs ++ [.ref t1]))) l3 = some (.lst (rs ++ [.ref t1])) := upd_same
      have ht1 : RowT K G (.ref t1) (e.map fun x => -x) (upd (upd (upd H3 t1 (.tup ws)) l2 (.lst [.ref t1])) l3 (.lst (rs ++ [.ref t1]))) := ⟨t1, ws, rfl, (sl2.trans sl3) _ _ upd_same, ald.imp fun v x h => NumG.mono h ((st1.trans sl2).trans sl3)⟩
      have s5 := (sl1.trans h13).trans sl3
      generalize (upd (upd (upd H3 t1 (.tup ws)) l2 (.lst [.ref t1])) l3 (.lst (rs ++ [.ref t1]))) = H5 at *
      have tab : TabM K G (.ref l3) (M ++ [e.map fun x => -x]) H5 := ⟨l3, _, rfl, hl3, (alr.imp fun v x h => mo_rowT _ _ _ _ s5 h).snoc ht1⟩
      have hml : (M ++ [e.map fun x => -x]).length ≤ 4 := by rw [List.length_append]; show _ + 1 ≤ _; omega
      have hmr := app_len hrow hel
      have hmb : bd1 G (M ++ [e.map fun x => -x]) := fun r hr x hx => by
        rcases List.mem_append.mp hr with hr | hr
        · exact hb r hr x hx
        · rw [List.mem_singleton.mp hr] at hx
          obtain ⟨z, hz, ez⟩ := List.mem_map.mp hx
          rw [← ez]
          exact bd_neg (hbe z hz)
      dsimp only [gName]
      refine ⟨_, rfl, a, _, dx, _, _, rfl, s5 _ _ ha, cl, n1, rfl, _, rfl, _, rfl, a, _, dx, _, _, rfl, s5 _ _ ha, cl, n3, rfl, ?_⟩
      refine ⟨_, _, _, wd, rfl, hg.mono s5, tab, hml, hw, hmr, hmb, fun kv H6 s6 hK => ?_⟩
      obtain ⟨ka, ks, rfl, hka, alk⟩ := id hK
      have hkb := kernel_bd hml hmr hmb
      have hkl : ∀ r, r ∈ kernelK G.inv (M ++ [e.map fun x => -x]) wd → r.length = M.length + 1 := fun r hr => (kernel_fact G.minv hrow hel hr).1
      refine ⟨ka, rfl, ⟨_, SqL.of hka⟩, ?_⟩
      refine for_list (xs := ks) (fun i σ H' => Same H6 H' ∧ ∃ y3, σ = [some (.ref a), some (.ref ua), some (.ref l3), y3, none] ∧ ((kernelK G.inv (M ++ [e.map fun x => -x]) wd).drop i).find? (fun r => decide (¬ vec r M.length = 0)) = (kernelK G.inv (M ++ [e.map fun x => -x]) wd).find? (fun r => decide (¬ vec r M.length = 0)))
        ⟨Same.refl _, none, rfl, rfl⟩ (fun i σ H' _ hP => SqL.of (hP.1 _ _ hka)) (fun i x σ H' hx hP => ?_) fun σ H' hP => ?_
      · obtain ⟨s7, y3, rfl, hf⟩ := hP
        obtain ⟨row, hrw, b, ws2, rfl, hb2, al2⟩ := alk.got hx
        obtain ⟨hi, ei⟩ := List.getElem?_eq_some_iff.mp hrw
        have hmem := List.mem_of_getElem? hrw
        have hrl := hkl _ hmem
        have hbw := hkb _ hmem
        have hlast : row[M.length]? = some (row[M.length]'(by omega)) := List.getElem?_eq_getElem _
        have hvl : vec row M.length = row[M.length]'(by omega) := vec_at hlast
        obtain ⟨nv, hnv, hN⟩ := al2.get hlast
        have atl : atI ws2 (-1) = some nv := atI_m1 (by rw [al2.len, hrl]; exact hnv)
        have hN7 := hN.mono s7
        have hb7 := s7 _ _ hb2
        obtain ⟨ax, dy, rfl, hax⟩ := id hN7
        have hdrop : (kernelK G.inv (M ++ [e.map fun x => -x]) wd).drop i = row :: (kernelK G.inv (M ++ [e.map fun x => -x]) wd).drop (i + 1) := by
          rw [← ei]
          exact List.drop_eq_getElem_cons hi
        rw [hdrop, List.find?_cons] at hf
        dsimp only [gName]
        refine ⟨_, rfl, _, rfl, b, ws2, _, _, rfl, rfl, SqL.of hb7, atl, ?_⟩
        refine ⟨ax, dy, _, rfl, hax, fl_none (by decide) (by decide) (by decide), _, _, rfl, hN7, _, rfl, ?_⟩
        by_cases hz : row[M.length]'(by omega) = 0
        · rw [decide_eq_true hz]
          refine iteF ?_
          refine p_next ?_
          refine ⟨s7, some (.ref b), rfl, ?_⟩
          rw [hvl, decide_eq_false (fun h => h hz)] at hf
          exact hf
        · rw [decide_eq_false hz]
          refine iteT ?_
          rw [hvl, decide_eq_true (show ¬ row[M.length]'(by omega) = 0 from hz)] at hf
          have hy : y = (row.take M.length).map fun x => x * G.inv (vec row M.length) := by
            unfold solveK at hs
            rw [← hf] at hs
            exact (Option.some.inj hs).symm
          refine p_ret ?_
          refine p_cb ?_
          refine p_cons ?_
          refine ⟨_, rfl, _, rfl, _, rfl, b, ws2, rfl, SqL.of hb7, fun c nc => ?_⟩
          have sc : Same H' (upd H' c (.lst (cutV ws2 none (some (-1))))) := same_upd nc
          have hc : (upd H' c (.lst (cutV ws2 none (some (-1))))) c = some (.lst (cutV ws2 none (some (-1)))) := upd_same
          refine ⟨c, rfl, ⟨_, SqL.of hc⟩, ?_⟩
          have hcm : cutV ws2 none (some (-1)) = ws2.take M.length := by
            rw [cut_m1, al2.len, hrl]
            rfl
          have alc : Al (fun v x => NumG K G H' v x) (cutV ws2 none (some (-1))) (row.take M.length) := by
            rw [hcm]
            exact (al2.imp fun v x h => NumG.mono h s7).take _
          generalize (upd H' c (.lst (cutV ws2 none (some (-1))))) = H8 at *
          refine lc_l (xs := cutV ws2 none (some (-1))) (H1 := H8) (ys := (row.take M.length).map fun x => x * G.inv (vec row M.length)) (R := RNum K G) (N := Yes) stay_num (SqL.of hc) (by rw [alc.len, List.length_map]) (by rw [List.length_map, List.length_take]; omega) (by intro x; rfl) (fun j x y hx hy => ?_) (fun D H9 ws9 nD s9 hD alD => ?_)
          · intro H10 s10 Q10 k10
            obtain ⟨fx, hfx, hn⟩ := alc.got hx
            rw [List.getElem?_map, hfx] at hy
            have hy' := (Option.some.inj hy).symm
            have hn10 := hn.mono (sc.trans s10)
            obtain ⟨ex, ey, rfl, hex⟩ := id hn10
            refine ⟨_, rfl, ex, ey, _, rfl, hex, fl_none (by decide) (by decide) (by decide), ?_⟩
            refine ⟨_, rfl, _, rfl, b, ws2, _, _, rfl, rfl, SqL.of ((sc.trans s10) _ _ hb7), atl, ?_⟩
            refine ⟨_, _, fx, row[M.length]'(by omega), 120, 120, rfl, hn10, hN7.mono (sc.trans s10), hbw _ (List.mem_of_mem_take (List.mem_of_getElem? hfx)), hbw _ (List.getElem_mem _), by decide, hz, fun v5 H5 e5 h5 => k10 v5 H5 e5 ?_ yes_all⟩
            rw [hy', hvl]
            exact h5
          · refine ⟨D, ws9, rfl, .inl ⟨SqL.of hD, fun t2 nt2 => ?_⟩⟩
            have st2 : Same H9 (upd H9 t2 (.tup ws9)) := same_upd nt2
            refine q _ _ (((((s5.trans s6).trans s7).trans sc).trans s9).trans st2) ⟨t2, ws9, rfl, upd_same, ?_⟩
            rw [hy]
            exact alD.imp fun v x h => NumG.mono h st2
      · obtain ⟨s7, y3, rfl, hf⟩ := hP
        rw [List.drop_of_length_le (by rw [alk.len]; exact Nat.le_refl _)] at hf
        unfold solveK at hs
        rw [← hf] at hs
        cases hs
end
end K51

set_option Elab.async false
set_option linter.all false
set_option maxRecDepth 100000
set_option maxHeartbeats 4000000
set_option autoImplicit false
namespace K51
open PySem PySem.Spec PyProof.Rows L2
section
variable {X : Cx} {K : PySem.W.Frag} {tg l : Expr} {tl : TE}
theorem piL (hK : X.K = K) (hl : PE X l tl) : PI X tg l (iList K tl) := by
  subst hK
  exact pi_list hl
theorem fldK {e : Expr} {f : Str} {pos : Pos} {ta : TE} (hK : X.K = K) (he : PE X e ta) (hb : attributeBase e f X.env (eval e X.env) = eval e X.env) : PE X (.Attribute e f pos) (tFld K ta f) := by
  subst hK
  exact pe_fld he hb
theorem piT (hK : X.K = K) (hl : PE X l tl) : PI X tg l (iTup K tl) := by
  subst hK
  exact pi_tup hl
end
section
variable {F : Type} [Lean.Grind.CommRing F] [DecidableEq F]
/-- the paper of a matrix -/
def paperL (G : Gnd F) (M : List (List F)) (w : Nat) : List (List F) := (List.range (redN G.inv M w).fp.length).map fun k => (solveK G.inv (tallK M (redN G.inv M w).fp) (redN G.inv M w).fp.length (unitK (redN G.inv M w).fp.length k)).getD []
def RowD (M : List (List F)) : D F := .tup (M.map fun r => .tup (r.map .num))
def paperD (G : Gnd F) (M : List (List F)) (w : Nat) : D F := .tup [.str true, .int (redN G.inv M w).fp.length, RowD (paperL G M w), RowD (rightK w (redN G.inv M w).fp), RowD (tallK M (redN G.inv M w).fp), RowD ((redN G.inv M w).fp.map (·.1))]
end
section
variable {P : Program} {w : World} {K : PySem.W.Frag} {mg : Str → Option Value} {base : Heap} {F : Type} [Lean.Grind.CommRing F] [DecidableEq F]
theorem RowT.d {G : Gnd F} {v : V} {r : List F} {H : Hp} (h : RowT K G v r H) : RepD K G H v (.tup (r.map .num)) := by
  obtain ⟨a, vs, rfl, ha, al⟩ := h
  exact .tupA ha (Al.map (al.imp fun v x h => .num h))
theorem TabT.d {G : Gnd F} {v : V} {M : List (List F)} {H : Hp} (h : TabT K G v M H) : RepD K G H v (RowD M) := by
  obtain ⟨a, vs, rfl, ha, al⟩ := h
  exact .tupA ha (Al.map (al.imp fun v x h => h.d))
theorem mk_M2 {G : Gnd F} {k : Bool} {g v : V} {M : List (List F)} {wd : Nat} {H : Hp} {Q : Addr → Hp → Prop} {E : XK} (hg : GAt K H g G.p) (hv : TkTab K G k v M H) (hM : M.length ≤ 8) (hw : wd ≤ 64) (hrow : ∀ r, r ∈ M → r.length = wd)
    (q : ∀ x H', Same H H' → MatAt K G H' (.ref x) M wd → Q x H') :
    ∀ x dx, H x = none → H dx = none → dx ≠ x → spMinit K G k (.ref x :: ([g, v, .int wd] ++ [])) (upd (upd H dx (.own x)) x (.ins (He.ga K "Matrix") dx [])) (fun v H2 => v = .non ∧ Q x H2) E := fun x dx h1 h2 h3 =>
  mk_M (Q := fun v H2 => ∃ y, v = .ref y ∧ Q y H2) (E := E) hg hv hM hw hrow (fun v H' e hm => by
    obtain ⟨y, _, _, _, e1, _⟩ := id hm
    subst e1
    exact ⟨y, rfl, q y H' e hm⟩) x dx h1 h2 h3 |> fun h => by
      obtain ⟨a1, b1, c1, d1, e1, f1, g1, h4, i1, j1, k1, l1, m1, n1⟩ := h
      refine ⟨a1, b1, c1, d1, e1, f1, g1, h4, i1, j1, k1, l1, m1, fun r H' s t => ?_⟩
      obtain ⟨z1, y, z2, z3⟩ := n1 r H' s t
      refine ⟨z1, ?_⟩
      rw [V.ref.inj z2]
      exact z3
def spPaper (K : PySem.W.Frag) (G : Gnd F) : L2.Sp := fun vs H Q _ => ∃ v M, ∃ wd : Nat, vs = [v] ∧ MatAt K G H v M wd ∧ M.length ≤ 3 ∧ wd ≤ 64 ∧ (∀ r, r ∈ M → r.length = wd) ∧ bd1 G M ∧
  ∀ v H', Same H H' → RepD K G H' v (paperD G M wd) → Q v H'
theorem ok_paper (T : Tx K mg) (G : Gnd F) : FnOk P w K mg base CX0 14 (He.fAd K ("rank_paper", none)) (fdOf K (He.fAd K ("rank_paper", none))) ["m"] (spPaper K G) := by
  refine fok (F_rank_paper T.c) sc_rank_paper (fun vs H Q E h => ?_) (fun cdv A outer s H vs Q E hr h => ?_)
  · obtain ⟨v, M, wd, rfl, _⟩ := h
    rfl
  · obtain ⟨v, M, wd, rfl, hm, hM, hw, hrow, hb, q⟩ := h
    obtain ⟨a, dx, g, r0, rfl, ha, hg, hT⟩ := id hm
    have nd := sc_rank_paper.nd
    obtain ⟨ds, hds, hbn⟩ := B1_G_number T.c
    have clG : Cls K (He.ga K "Ground") := He.cls_ok (a_cls_Ground T.c)
    have cl : Cls K (He.ga K "Matrix") := He.cls_ok (a_cls_Matrix T.c)
    have n1 : NoAttr K (He.ga K "Matrix") "ground" := He.noat_ok (a_noat_Matrix_ground T.c)
    have n2 : NoAttr K (He.ga K "Matrix") "rows" := He.noat_ok (a_noat_Matrix_rows T.c)
    have n3 : NoAttr K (He.ga K "Matrix") "width" := He.noat_ok (a_noat_Matrix_width T.c)
    refine ⟨_, pss_cons (ps_asg (pe_call (ok_reduced T G) hr (by rfl) (T.glo (a_glo_reduced T.c)) (F_reduced T.c).kp (B_reduced T.c) .nil pass0 (pa_cons (pv 0) pa_nil))
          (pg_tup rfl (pgs_cons (pg_name (i := 1) nd rfl (.inl rfl)) (pgs_cons (pg_name (i := 2) nd rfl (.inr rfl)) pgs_nil))))
      (pss_cons (ps_set (i := 3) nd rfl (.inr rfl) (pe_callB (lenS (K := K) rfl) (by rfl) (T.free (a_free_len T.c)) boot_len (pa_cons (pv 2) pa_nil)))
      (pss_cons (ps_set (i := 4) nd rfl (.inr rfl) (pe_callTy (tupOf (K := K) rfl) (by rfl) (T.free (a_free_tuple T.c)) boot_ttuple (pa_cons
        (pe_lc (own := [("row", 7)]) (g := gName 7) (tt := tYes) rfl nd (pi_tup (pe_fld (pv 0) rfl)) (blkOk_by (N := ["m", "wide", "pivots", "r", "tall", "right", "left", "row", "at", "k"]) (sc := defScope s_rank_paper) (by decide +kernel)) (fun _ _ _ _ _ => pg_name (i := 7) nd rfl (.inr rfl)) (fun _ _ _ _ _ => pts_nil)
          (fun _ _ _ _ _ => pe_callTy (tupOf (K := K) rfl) (by rfl) (T.free (a_free_tuple T.c)) boot_ttuple (pa_cons
            (pe_lc (own := [("at", 8)]) (g := gName 8) (tt := tYes) rfl nd (piT (K := K) rfl (pv 2)) (blkOk_by (N := ["m", "wide", "pivots", "r", "tall", "right", "left", "row", "at", "k"]) (by rfl)) (fun _ _ _ _ _ => pg_name (i := 8) nd rfl (.inl rfl)) (fun _ _ _ _ _ => pts_nil)
              (fun _ _ _ _ _ => pe_ix (ixT (K := K) rfl) (pv 7) (pv 8) (fun _ _ => rfl))) pa_nil))) pa_nil)))
      (pss_cons (ps_set (i := 5) nd rfl (.inl rfl) (pe_callTy (tupOf (K := K) rfl) (by rfl) (T.free (a_free_tuple T.c)) boot_ttuple (pa_cons
        (pe_lc (own := [("at", 8)]) (g := gName 8) (tt := tYes) rfl nd (pi_range1 (by rfl) (T.free (a_free_range T.c)) (pa_cons (pe_fld (pv 0) rfl) pa_nil)) (blkOk_by (N := ["m", "wide", "pivots", "r", "tall", "right", "left", "row", "at", "k"]) (sc := defScope s_rank_paper) (by decide +kernel)) (fun _ _ _ _ _ => pg_name (i := 8) nd rfl (.inr rfl)) (fun _ _ _ _ _ => pts_nil)
          (fun _ _ _ _ _ => pe_callTy (tupOf (K := K) rfl) (by rfl) (T.free (a_free_tuple T.c)) boot_ttuple (pa_cons
            (pe_lc (own := [("k", 9)]) (g := gName 9) (tt := tYes) rfl nd (pi_range1 (by rfl) (T.free (a_free_range T.c)) (pa_cons (pv 3) pa_nil)) (blkOk_by (N := ["m", "wide", "pivots", "r", "tall", "right", "left", "row", "at", "k"]) (by rfl)) (fun _ _ _ _ _ => pg_name (i := 9) nd rfl (.inl rfl)) (fun _ _ _ _ _ => pts_nil)
              (fun _ _ _ _ _ => pe_meth (fldK (K := K) rfl (pv 0) rfl) clG (He.meth_ok (a_meth_G_number T.c)) (ok_number T G) (hr.mono (by decide)) hbn hds pass0 (pa_cons (pe_callTy call_int1 (by rfl) (T.free (a_free_int T.c)) boot_tint (pa_cons (pe_cmpR op_eq (pv 8) (pe_ix (ixT (K := K) rfl) (pv 2) (pv 9) (fun _ _ => rfl)) (nomark _)) pa_nil)) pa_nil))) pa_nil))) pa_nil)))
      (pss_cons (ps_setLc (i := 6) (own := [("k", 9)]) (g := gName 9) (tt := tYes) rfl nd rfl rfl (sw_true rfl rfl rfl (by decide +kernel)) (pi_range1 (by rfl) (T.free (a_free_range T.c)) (pa_cons (pv 3) pa_nil)) (blkOk_by (N := ["m", "wide", "pivots", "r", "tall", "right", "left", "row", "at", "k"]) (sc := defScope s_rank_paper) (by decide +kernel)) (fun _ _ _ _ _ => pg_name (i := 9) nd rfl (.inl rfl)) (fun _ _ _ _ _ => pts_nil)
          (fun _ _ _ _ _ => pe_call (ok_solve T G) (hr.mono (by decide)) (by rfl) (T.glo (a_glo_solve T.c)) (F_solve T.c).kp (B_solve T.c) .nil pass0 (pa_cons
            (pe_make (He.mkr_ok (a_mkr_Matrix T.c)) (ok_M_init T G false) (hr.mono (by decide)) (by rfl) (T.glo (a_glo_Matrix T.c)) (B_M_init T.c) .nil pass0 (pa_cons (fldK (K := K) rfl (pv 0) rfl) (pa_cons (pv 4) (pa_cons (pv 3) pa_nil))))
            (pa_cons (pe_call (ok_unit_row T G) (hr.mono (by decide)) (by rfl) (T.glo (a_glo_unit_row T.c)) (F_unit_row T.c).kp (B_unit_row T.c) .nil pass0 (pa_cons (fldK (K := K) rfl (pv 0) rfl) (pa_cons (pv 3) (pa_cons (pv 9) pa_nil)))) pa_nil))))
      (pss_one (ps_ret (pe_tup (pa_cons pe_str (pa_cons (pv 3) (pa_cons (pe_callTy (tupOf (K := K) rfl) (by rfl) (T.free (a_free_tuple T.c)) boot_ttuple (pa_cons (pv 6) pa_nil)) (pa_cons (pv 5) (pa_cons (pv 4) (pa_cons (pe_fld (pv 1) rfl) pa_nil))))))))))))), ?_⟩
    have hcnt := fp_cnt G.minv hrow
    have tlen : (tallK M (redN G.inv M wd).fp).length = M.length := List.length_map ..
    have trow : ∀ r, r ∈ tallK M (redN G.inv M wd).fp → r.length = (redN G.inv M wd).fp.length := fun r hr => by
      obtain ⟨r2, _, rfl⟩ := List.mem_map.mp hr
      exact List.length_map ..
    have hflt := fp_lt G.minv hrow
    have hlx := fun k (hk : k < (redN G.inv M wd).fp.length) => left_ex G.minv hrow G.one_ne hk
    obtain ⟨ra, rs, rfl, hra, alr⟩ := id hT
    refine ⟨_, rfl, _, M, wd, rfl, hm, by omega, hw, hrow, hb, fun t m p H1 s1 ht hm1 hp => ?_⟩
    refine ⟨t, [m, .ref p], rfl, .inl (.inl ht), rfl, _, _, rfl, _, _, rfl, rfl, ?_⟩
    refine ⟨_, rfl, p, _, rfl, .inr (SqT.of hp), ?_⟩
    dsimp only [gName]
    rw [List.length_map]
    have hppl : ((redN G.inv M wd).fp.map fun a => V.int (a.2 : Int)).length = (redN G.inv M wd).fp.length := List.length_map ..
    refine p_seq ?_
    refine p_asg ?_
    refine p_cb ?_
    refine p_cons ?_
    refine tlc_t (xs := rs) (H1 := H1) (ys := tallK M (redN G.inv M wd).fp) (R := RowT K G) (N := Yes) (fun R r => ⟨_, rfl, a, _, dx, _, _, rfl, s1 _ _ ha, cl, n2, rfl, ra, rfl, ⟨_, SqT.of (s1 _ _ hra)⟩, r⟩) stay_rowT (SqT.of (s1 _ _ hra)) (by rw [alr.len]; exact tlen.symm) (by rw [tlen]; omega) (by intro x; rfl) (fun j x y hx hy => ?_) (fun tl H2 tls ntl s2 htl alt => ?_)
    · intro H4 s4 Q4 k4
      obtain ⟨row, hrw, b, us, rfl, hbu, al2⟩ := alr.got hx
      have hy' : (redN G.inv M wd).fp.map (fun a => vec row a.2) = y := by
        unfold tallK at hy
        rw [List.getElem?_map, hrw] at hy
        exact Option.some.inj hy
      have hrl := hrow _ (List.mem_of_getElem? hrw)
      refine p_cb ?_
      refine p_cons ?_
      refine tlc_t (xs := (redN G.inv M wd).fp.map fun a => V.int (a.2 : Int)) (H1 := H4) (ys := y) (R := RNum K G) (N := Yes) (fun R r => ⟨_, rfl, p, rfl, ⟨_, SqT.of (s4 _ _ hp)⟩, r⟩) stay_num (SqT.of (s4 _ _ hp)) (by rw [← hy', List.length_map, List.length_map]) (by rw [← hy', List.length_map]; omega) (by intro x; rfl) (fun j2 x2 y2 hx2 hy2 => ?_) (fun d H5 ws nd5 s5 hd ald => ?_)
      · intro H6 s6 Q6 k6
        rw [← hy', List.getElem?_map] at hy2
        rw [List.getElem?_map] at hx2
        cases hq : (redN G.inv M wd).fp[j2]? with
        | none =>
          rw [hq] at hy2
          cases hy2
        | some qa =>
          rw [hq] at hy2 hx2
          have e1 := Option.some.inj hy2
          have e2 := Option.some.inj hx2
          have hlt := hflt _ (List.mem_of_getElem? hq)
          have hcx : row[qa.2]? = some (row[qa.2]'(by omega)) := List.getElem?_eq_getElem _
          obtain ⟨nv, hnv, hN⟩ := al2.get hcx
          subst e2
          refine ⟨_, rfl, _, rfl, b, us, _, _, rfl, rfl, SqT.of (((s1.trans s4).trans s6) _ _ hbu), atI_nat hnv, k6 _ H6 (Same.refl _) ?_ yes_all⟩
          rw [← e1]
          have e3 := vec_at hcx
          show NumG K G H6 nv (vec row qa.2)
          rw [e3]
          exact hN.mono ((s1.trans s4).trans s6)
      · refine ⟨d, ws, rfl, .inl ⟨SqL.of hd, fun l nl => ?_⟩⟩
        have sl : Same H5 (upd H5 l (.tup ws)) := same_upd nl
        exact k4 _ _ (s5.trans sl) ⟨l, ws, rfl, upd_same, ald.imp fun v x h => NumG.mono h sl⟩ yes_all
    · refine ⟨tl, tls, rfl, .inl ⟨SqL.of htl, fun ta nta => ?_⟩⟩
      have sta : Same H2 (upd H2 ta (.tup tls)) := same_upd nta
      have htall : TabT K G (.ref ta) (tallK M (redN G.inv M wd).fp) (upd H2 ta (.tup tls)) := ⟨ta, tls, rfl, upd_same, alt.imp fun v x h => mo_rowT _ _ _ _ sta h⟩
      have s13 := (s1.trans s2).trans sta
      have s23 := s2.trans sta
      generalize (upd H2 ta (.tup tls)) = H3 at *
      dsimp only [gName]
      refine p_seq ?_
      refine p_asg ?_
      refine p_cb ?_
      refine p_cons ?_
      refine tlc_r (lo := 0) (n := wd) (H1 := H3) (ys := (rightK wd (redN G.inv M wd).fp : List (List F))) (R := RowT K G) (N := Yes) (fun R r => ⟨_, rfl, a, _, dx, _, _, rfl, s13 _ _ ha, cl, n3, rfl, _, rfl, by omega, by omega, r⟩) stay_rowT (by unfold rightK; rw [List.length_map, List.length_range]) (by unfold rightK; rw [List.length_map, List.length_range]; omega) (by intro x; rfl) (fun j y hy => ?_) (fun rl H4 rls nrl s4 hrl alrt => ?_)
      · intro H5 s5 Q5 k5
        have e0 : (0 : Int) + (j : Int) = j := Int.zero_add _
        rw [e0]
        have hjw : j < wd := by
          obtain ⟨hj, _⟩ := List.getElem?_eq_some_iff.mp hy
          unfold rightK at hj
          rw [List.length_map, List.length_range] at hj
          exact hj
        have hy' : (List.range (redN G.inv M wd).fp.length).map (fun k => if j = ((redN G.inv M wd).fp.getD k ([], 0)).2 then (1 : F) else 0) = y := by
          unfold rightK at hy
          rw [List.getElem?_map, List.getElem?_range hjw] at hy
          exact Option.some.inj hy
        refine p_cb ?_
        refine p_cons ?_
        refine tlc_r (lo := 0) (n := (redN G.inv M wd).fp.length) (H1 := H5) (ys := y) (R := RNum K G) (N := Yes) (fun R r => ⟨_, rfl, _, rfl, by omega, by omega, r⟩) stay_num (by rw [← hy', List.length_map, List.length_range]) (by rw [← hy', List.length_map, List.length_range]; omega) (by intro x; rfl) (fun j2 y2 hy2 => ?_) (fun d H6 ws nd6 s6 hd ald => ?_)
        · intro H7 s7 Q7 k7
          have e02 : (0 : Int) + (j2 : Int) = j2 := Int.zero_add _
          rw [e02]
          have hj2 : j2 < (redN G.inv M wd).fp.length := by
            obtain ⟨hj, _⟩ := List.getElem?_eq_some_iff.mp hy2
            rw [← hy', List.length_map, List.length_range] at hj
            exact hj
          rw [← hy', List.getElem?_map, List.getElem?_range hj2] at hy2
          have hy3 := Option.some.inj hy2
          have hq : (redN G.inv M wd).fp[j2]? = some (redN G.inv M wd).fp[j2] := List.getElem?_eq_getElem hj2
          dsimp only at hy3
          rw [getD_at hq] at hy3
          have s17 := (s13.trans s5).trans s7
          obtain ⟨ga, gx, rfl, hga⟩ := id (hg.mono s17)
          refine ⟨_, rfl, a, _, dx, _, _, rfl, s17 _ _ ha, cl, n1, rfl, ga, gx, _, rfl, hga, rfl, ?_⟩
          refine ⟨_, rfl, _, rfl, _, rfl, p, _, _, _, rfl, rfl, SqT.of (((s23.trans s5).trans s7) _ _ hp), atI_nat (by rw [List.getElem?_map, hq]; rfl), rfl, .inr ⟨_, rfl, ?_⟩⟩
          refine ⟨_, _, rfl, hg.mono s17, dec_small, fun v H8 e8 h8 => k7 v H8 e8 ?_ yes_all⟩
          rw [ic_dec, hy3] at h8
          exact h8
        · refine ⟨d, ws, rfl, .inl ⟨SqL.of hd, fun l nl => ?_⟩⟩
          have sl : Same H6 (upd H6 l (.tup ws)) := same_upd nl
          exact k5 _ _ (s6.trans sl) ⟨l, ws, rfl, upd_same, ald.imp fun v x h => NumG.mono h sl⟩ yes_all
      · refine ⟨rl, rls, rfl, .inl ⟨SqL.of hrl, fun ri nri => ?_⟩⟩
        have sri : Same H4 (upd H4 ri (.tup rls)) := same_upd nri
        have hright : TabT K G (.ref ri) (rightK wd (redN G.inv M wd).fp : List (List F)) (upd H4 ri (.tup rls)) := ⟨ri, rls, rfl, upd_same, alrt.imp fun v x h => mo_rowT _ _ _ _ sri h⟩
        have s14 := (s13.trans s4).trans sri
        have htall := mo_tabT _ _ _ _ (s4.trans sri) htall
        have hm4 := hm1.mono ((s23.trans s4).trans sri)
        generalize (upd H4 ri (.tup rls)) = H5 at *
        dsimp only [gName]
        refine p_seq ?_
        refine p_asg ?_
        have hpl : (paperL G M wd).length = (redN G.inv M wd).fp.length := by
          unfold paperL
          rw [List.length_map, List.length_range]
        refine tlc_r (lo := 0) (n := (redN G.inv M wd).fp.length) (H1 := H5) (ys := paperL G M wd) (R := RowT K G) (N := Yes) (fun R r => ⟨_, rfl, _, rfl, by omega, by omega, r⟩) stay_rowT hpl.symm (by omega) (by intro x; rfl) (fun j y hy => ?_) (fun ll H6 lls nll s6 hll all => ?_)
        · intro H7 s7 Q7 k7
          have e0 : (0 : Int) + (j : Int) = j := Int.zero_add _
          rw [e0]
          have hjl : j < (redN G.inv M wd).fp.length := by
            obtain ⟨hj, _⟩ := List.getElem?_eq_some_iff.mp hy
            rw [hpl] at hj
            exact hj
          obtain ⟨z, hz⟩ := hlx j hjl
          have hzy : z = y := by
            unfold paperL at hy
            rw [List.getElem?_map, List.getElem?_range hjl] at hy
            have := Option.some.inj hy
            rw [← this]
            show z = (solveK _ _ _ _).getD []
            rw [hz]
            rfl
          have s17 := s14.trans s7
          refine p_call ?_
          refine p_cons ?_
          refine ⟨_, rfl, a, _, dx, _, _, rfl, s17 _ _ ha, cl, n1, rfl, _, rfl, _, rfl, ?_⟩
          dsimp only [tNil]
          refine mk_M2 (hg.mono s17) (mo_tabT _ _ _ _ s7 htall).tk (by rw [tlen]; omega) (by omega) trow fun x8 H8 s8 hm8 => ?_
          refine ⟨_, rfl, a, _, dx, _, _, rfl, (s17.trans s8) _ _ ha, cl, n1, rfl, _, rfl, _, rfl, ?_⟩
          refine ⟨_, _, _, rfl, hg.mono (s17.trans s8), by omega, fun u9 H9 s9 hu9 => ?_⟩
          refine ⟨_, _, _, _, z, _, rfl, hm8.mono s9, hu9, by rw [tlen]; omega, by omega, trow, unitK_len _ _, ?_, ?_, hz, fun v H10 s10 hv => k7 v H10 ((s8.trans s9).trans s10) (by rw [← hzy]; exact hv) yes_all⟩
          · intro r hr x hx
            obtain ⟨r2, hr2, rfl⟩ := List.mem_map.mp hr
            obtain ⟨a2, _, rfl⟩ := List.mem_map.mp hx
            exact vec_bd (hb r2 hr2) _
          · intro x hx
            obtain ⟨i2, _, rfl⟩ := List.mem_map.mp hx
            split
            · exact bd_one.mono (by decide) (by decide)
            · exact bd_zero.mono (by decide) (by decide)
        · obtain ⟨wa, wx, wg, wr, rfl, hwa, hwg, hwr⟩ := hm4
          refine ⟨_, rfl, _, rfl, ll, lls, rfl, .inl ⟨SqL.of hll, fun lt nlt => ?_⟩⟩
          have slt : Same H6 (upd H6 lt (.tup lls)) := same_upd nlt
          have hleft : TabT K G (.ref lt) (paperL G M wd) (upd H6 lt (.tup lls)) := ⟨lt, lls, rfl, upd_same, all.imp fun v x h => mo_rowT _ _ _ _ slt h⟩
          have s56 := s6.trans slt
          have s16 := s14.trans s56
          generalize (upd H6 lt (.tup lls)) = H7 at *
          refine ⟨_, rfl, _, rfl, _, rfl, wa, _, wx, _, _, rfl, s56 _ _ hwa, cl, n2, rfl, (by show 6 ≤ sizeLine; decide), fun t2 nt2 => ?_⟩
          refine q _ _ (s16.trans (same_upd nt2)) ?_
          have e6 : Same H7 (upd H7 t2 (.tup [.str (Str.ofString "rank"), .int (redN G.inv M wd).fp.length, .ref lt, .ref ri, .ref ta, wr])) := same_upd nt2
          have rk : RepD K G (upd H7 t2 (.tup [.str (Str.ofString "rank"), .int (redN G.inv M wd).fp.length, .ref lt, .ref ri, .ref ta, wr])) (.str (Str.ofString "rank")) (.str true) := by
            have := RepD.str (K := K) (G := G) (H := (upd H7 t2 (.tup [.str (Str.ofString "rank"), .int (redN G.inv M wd).fp.length, .ref lt, .ref ri, .ref ta, wr]))) (Str.ofString "rank")
            rw [decide_eq_true rfl] at this
            exact this
          exact .tupA upd_same (.cons rk (.cons (.int _) (.cons ((mo_tabT _ _ _ _ e6 hleft).d) (.cons ((mo_tabT _ _ _ _ (s56.trans e6) hright).d) (.cons ((mo_tabT _ _ _ _ (s56.trans e6) htall).d) (.cons ((mo_tabT _ _ _ _ (s56.trans e6) hwr).d) .nil))))))
end
end K51

set_option Elab.async false
set_option linter.all false
set_option maxRecDepth 100000
set_option maxHeartbeats 4000000
set_option autoImplicit false
namespace K51
open PySem PySem.Spec PyProof.Rows L2
open Builtin
section
variable {prog : Program} {w : World} {A : Around} {E : Value → Shared → Prop} {s : Shared} {K : PySem.W.Frag} {x C f h0 : Addr} {ox : Obj} {od : Option Obj} {h₀ : Heap} {m : Str → Option Value} {b : Value}
theorem entry_ne_own (X : K.In s.heap) (I : PySem.W.InstAt s.heap x ox C od) (hs : PySem.W.findIn K (.ref C) "__eq__" = some (some (.ref f))) (hf : PySem.W.isFn K (.ref f) = true) (hu : A.units < cLine) {Q : Fin → Shared → Prop}
    (hcall : wpAny (model prog w) A (call (.ref f) [.ref x, b]) (fun v s' => v = .bool false ∧ Q (.done (.ret (.bool true))) s') E s) :
    wpAny (model prog w) A (Builtin.«object.__ne__» ⟨[.ref x, b], []⟩) Q E s := by
  unfold Builtin.«object.__ne__»
  repeat (first
    | with_reducible refine wpAny_cRoomFor hu ?_
    | (refine wpAny_bind (m := callSpecialIfBound? (.ref x) (Str.ofString "__eq__") [b])
        (PySem.W.ifBound_K X I hs hf (wpAny_mono hcall (fun r s' hr => by
          obtain ⟨rfl, hq⟩ := hr
          repeat (first | exact hq | exact wpAny_pure hq | exact wpAny_truthy_bool hq | (refine wpAny_bind (m := truthy (.bool _)) (wpAny_truthy_bool ?_)) | wp_step)) fun _ _ e => e)))
    | wp_step)
theorem call_ne_own (X : K.In s.heap) (I : PySem.W.InstAt s.heap x ox C od) (hm : PySem.W.mroIn K C (.type "object") = some true) (hs : PySem.W.findIn K (.ref C) "__eq__" = some (some (.ref f))) (hf : PySem.W.isFn K (.ref f) = true) (hu : A.in1.units < cLine) {Q : Value → Shared → Prop}
    (hcall : wpAny (model prog w) A.in1 (call (.ref f) [.ref x, b]) (fun v s' => v = .bool false ∧ Q (.bool true) s') E s) :
    wpAny (model prog w) A (call (.builtin "object.__ne__") [.ref x, b]) Q E s :=
  wpAny_call (codeAny_call_builtin F.cmp_object.ne.plain F.cmpEntry_ne (PySem.W.check_slot F.cmpKind_ne F.cmpSplit_ne (I.type.andThen (PySem.W.looks_mroIn X hm)) (F.cmpArgs_ne _ _) (entry_ne_own X I hs hf hu (wpAny_mono hcall (fun v s' hv => hv) fun _ _ e => e))))
theorem ifBound_ne {M : Model} {args : List Value} {Q : Option Value → Shared → Prop} (X : K.In s.heap) (I : PySem.W.InstAt s.heap x ox C od) (hs : PySem.W.findIn K (.ref C) "__ne__" = some (some (.builtin "object.__ne__")))
    (h : wpAny M A (call (.builtin "object.__ne__") (.ref x :: args)) (fun v => Q (some v)) E s) : wpAny M A (callSpecialIfBound? (.ref x) "__ne__" args) Q E s := by
  simp only [callSpecialIfBound?, bindSpecialIfBound?]
  refine wpAny_holding (wpAny_bind (wpAny_bind (wpAny_bind (I.type.here ((PySem.W.looks_findIn X hs).here ?_)))))
  refine wpAny_bind (wpAny_askSetting (wpAny_ite ?_))
  have fin : wpAny M A (call (.builtin "object.__ne__") ([.ref x] ++ args) >>= fun v => pure (some v)) Q E s := wpAny_bind (wpAny_mono h (fun v s' h' => wpAny_pure h') fun _ _ h' => h')
  split
  · exact wpAny_bind (wpAny_of_eq (F.cmp_object.ne.bind _) (wpAny_pure (by exact fin)))
  · exact wpAny_tryCatch (wpAny_bind (wpAny_of_eq (F.cmp_object.ne.bind _) (wpAny_pure (by exact fin))))
/-- an instance of an own class with __eq__ and without __ne__, against a text -/
theorem ne_own_str {a : Str} {t : Tok} (hu : A.units < cLine) (hu1 : A.in1.units < cLine) (X : K.In s.heap) (I : PySem.W.InstAt s.heap x ox C od) (hn : PySem.W.findIn K (.ref C) "__ne__" = some (some (.builtin "object.__ne__")))
    (hm : PySem.W.mroIn K C (.type "object") = some true) (hs : PySem.W.findIn K (.ref C) "__eq__" = some (some (.ref f))) (hf : PySem.W.isFn K (.ref f) = true) (hnf : PySem.W.notFirst K C (.type "str") = true) {Q : Value → Shared → Prop}
    (hcall : wpAny (model prog w) A.in1 (call (.ref f) [.ref x, .str a t]) (fun v s' => v = .bool false ∧ Q (.bool true) s') E s) :
    wpAny (model prog w) A (richCompare .NotEq (.ref x) (.str a t)) Q E s := by
  have one : wpAny (model prog w) A (tryCompare (.ref x) "__ne__" (.str a t)) (fun r s' => ∃ v, r = some v ∧ Q v s') E s := by
    unfold tryCompare
    refine wpAny_bind (ifBound_ne X I hn (call_ne_own X I hm hs hf hu1 (wpAny_mono hcall (fun v s' hv => ?_) fun _ _ e => e)))
    exact ⟨hv.1, wpAny_pure ⟨_, rfl, hv.2⟩⟩
  have hb : PySem.W.Looks (model prog w) s.heap (typeOf (.str a t)) (.type "str") := PySem.W.Looks.of_pure rfl
  unfold richCompare
  simp only [oneThing_ref]
  refine wpAny_holding (wpAny_bind (wpAny_cRoomFor hu ?_))
  refine wpAny_bind (I.type.here (wpAny_bind (hb.here ?_)))
  split
  · rename_i q
    have e : PySem.W.subIn K (.type "str") (.ref C) = some false := by
      rcases Bool.or_eq_true_iff.mp hnf with e | e
      · rw [beq_iff_eq.mp e] at q; simp at q
      · exact beq_iff_eq.mp e
    refine wpAny_bind ((PySem.W.looks_subIn X e).here ?_)
    simp only [Bool.false_eq_true, if_false]
    refine wpAny_bind (wpAny_mono one (fun r s' z => ?_) fun _ _ e => e)
    obtain ⟨v, rfl, hq⟩ := z
    exact wpAny_pure hq
  · refine wpAny_bind (wpAny_pure ?_)
    simp only [Bool.false_eq_true, if_false]
    refine wpAny_bind (wpAny_mono one (fun r s' z => ?_) fun _ _ e => e)
    obtain ⟨v, rfl, hq⟩ := z
    exact wpAny_pure hq
end
end K51
namespace K51
open PySem PySem.Spec PyProof.Rows L2
def isRk {F : Type} : D F → Bool
  | .str b => b
  | _ => false
section
variable {X : Cx} {F : Type} [Lean.Grind.CommRing F] [DecidableEq F]
def rNeRank (K : PySem.W.Frag) (G : Gnd F) : R2 := fun x y H Q => ∃ d, RepD K G H x d ∧ y = .str ("rank" : Str) ∧ Q (.bl (!isRk d)) H
theorem ne_own_rank (T : Tx X.K X.mg) (p : Nat) (hr : Room 2 X.A) {pins : List (Addr × Obj)} {σ : L2.St} {H : Hp} {s : Shared} {a dx : Addr} {fs : List (Str × V)} {t : Tok} {Q : VK} (I : Inv X pins σ H s) (ha : H a = some (.ins (cN X.K p) dx fs)) (q : Q (.bl true) H) :
    wpAny (model X.prog X.w) X.A (richCompare .NotEq (.ref a) (.str ("rank" : Str) t)) (EP X pins σ Q) X.xe s := by
  obtain ⟨ox, od, J⟩ := inst_at I ha
  have sb : Sub X 2 X.A := ⟨hr, rfl⟩
  have m := methN (K := X.K) (p := p) (a_meth_Q_eq T.c) (a_meth_R_eq T.c)
  have hfacts : PySem.W.findIn X.K (.ref (cN X.K p)) "__ne__" = some (some (.builtin "object.__ne__")) ∧ PySem.W.mroIn X.K (cN X.K p) (.type "object") = some true ∧ PySem.W.notFirst X.K (cN X.K p) (.type "str") = true ∧ PySem.W.kitOne X.K (.type "str") (.ref (cN X.K p)) = some false := by
    by_cases hp : p = 0
    · rw [cN_q hp]
      exact ⟨He.eqO_ok (x_ne_Ratio T.x), of_decide_eq_true (x_mro_Ratio T.x), x_nf_Ratio T.x, of_decide_eq_true (x_is_str_Ratio T.x)⟩
    · rw [cN_r hp]
      exact ⟨He.eqO_ok (x_ne_Residue T.x), of_decide_eq_true (x_mro_Residue T.x), x_nf_Residue T.x, of_decide_eq_true (x_is_str_Residue T.x)⟩
  obtain ⟨f1, f2, f3, f4⟩ := hfacts
  refine ne_own_str sb.room.units0 sb.in1.room.units0 I.kIn J f1 f2 m.at_ m.fn f3 ?_
  have F := ok_eq (P := X.prog) (w := X.w) (base := X.base) T p
  have hsp : spEqA X.K p [.ref a, .str ("rank" : Str)] H (fun v H' => v = .bl false ∧ H' = H) E0 := .inr ⟨_, _, _, rfl, .base (.str _), f4, rfl, rfl⟩
  have e0 : Env0 X.prog X.w X.K X.mg X.base X.A.in1 X.stack s H := by
    have e := I.env0
    exact ⟨by rw [sb.in1.fr]; exact e.frames, e.mod, e.bs, e.bsz, e.funs, e.frf, e.hok, e.bare⟩
  have hl := F.len _ _ _ _ hsp
  have r2 : Vals [V.ref a, V.str ("rank" : Str)] [Value.ref a, Value.str ("rank" : Str) t] := .cons rfl (.cons ⟨_, rfl⟩ .nil)
  have hb := bindN (K := X.K) (p := p) (B_Q_eq T.c) (B_R_eq T.c)
  refine wpAny_call (codeAny_mono (F.run X.A.in1 X.stack s H ⟨[.ref a, .str ("rank" : Str) t], []⟩ [.ref a, .str ("rank" : Str) t] _ _ E0 sb.in1.room e0 (by
    have := hb s [.ref a, .str ("rank" : Str) t] I.kIn (by simpa using hl)
    simpa using this) r2 hsp) fun r' s' hq => ?_)
  cases r' with
  | error e => exact hq.elim
  | ok fl =>
    cases fl with
    | ret w =>
      obtain ⟨z, H', I', rz, ez, ex⟩ := I.after hq
      subst ez
      cases rz
      subst ex
      exact ⟨rfl, .bl true, H', I', rfl, q⟩
    | next => exact False.elim hq
    | brk => exact False.elim hq
    | cont => exact False.elim hq
theorem op_neRank (T : Tx X.K X.mg) (G : Gnd F) (hr : Room 2 X.A) : OpR X (compareOp .NotEq) (rNeRank X.K G) := by
  intro pins s σ H x y v u Q I rx ry h
  obtain ⟨d, hd, rfl, q⟩ := h
  obtain ⟨t, rfl⟩ := ry
  show wpAny (model X.prog X.w) X.A (richCompare .NotEq v (.str ("rank" : Str) t)) (EP X pins σ Q) X.xe s
  have sb : Sub X 2 X.A := ⟨hr, rfl⟩
  cases hd with
  | non =>
    cases rx
    exact SeqAt.RcNeAt.none_str _ _ _ _ _ _ ⟨.bl true, H, I, rfl, q⟩
  | bl b =>
    cases rx
    exact SeqAt.RcNeAt.bool_str b _ _ _ _ _ _ ⟨.bl true, H, I, rfl, q⟩
  | int i =>
    obtain ⟨t', rfl⟩ := rx
    exact SeqAt.RcNeAt.int_str i _ _ _ _ _ _ _ ⟨.bl true, H, I, rfl, q⟩
  | str z =>
    obtain ⟨t', rfl⟩ := rx
    refine SeqAt.RcNeAt.str_str z _ _ _ _ _ _ _ ⟨.bl (!decide (z = ("rank" : Str))), H, I, ?_, q⟩
    show Value.bool _ = Value.bool _
    congr 2
  | tup h _ _ =>
    cases rx
    obtain ⟨its, r, e1, z⟩ := I.tuple (SqT.of h)
    exact SeqAt.RcNeAt.tuple_str _ _ e1 sb.room.units0 _ _ _ _ ⟨.bl true, H, I, rfl, q⟩
  | lst h =>
    cases rx
    obtain ⟨its, r, pl, z⟩ := I.list (SqL.of h)
    exact SeqAt.RcNeAt.list_str _ _ pl.isList sb.room.units0 _ _ _ _ ⟨.bl true, H, I, rfl, q⟩
  | num h =>
    obtain ⟨a, dx, rfl, ha⟩ := h
    cases rx
    exact ne_own_rank T G.p hr I ha q
  | othQ hp h =>
    cases rx
    exact ne_own_rank T 0 hr I h q
  | othR qq h hq hn =>
    cases rx
    exact ne_own_rank T 1 hr I h q
end
end K51

set_option Elab.async false
set_option linter.all false
set_option maxRecDepth 100000
set_option maxHeartbeats 4000000
set_option autoImplicit false
namespace K51
open PySem PySem.Spec PyProof.Rows L2
section
variable {F : Type} [Lean.Grind.CommRing F] [DecidableEq F] {K : PySem.W.Frag} {G : Gnd F}
/-- rows of integers -/
def IRow : V → List Int → Hp → Prop := fun v xs H => ∃ a, v = .ref a ∧ H a = some (.lst (xs.map V.int))
theorem mo_irow : MoR IRow := fun v y H H' e ⟨a, h1, h2⟩ => ⟨a, h1, e _ _ h2⟩
theorem stay_irow {H1 : Hp} : Stay H1 Nt IRow := ⟨mo_irow, fun v y H D zs zs' _ hD n ⟨a, h1, h2⟩ => ⟨a, h1, by
  rw [upd_ne (fun z => n (by rw [h1, z]))]
  exact h2⟩⟩
def ITab : V → List (List Int) → Hp → Prop := fun v M H => ∃ a vs, v = .ref a ∧ H a = some (.lst vs) ∧ Al (fun v x => IRow v x H) vs M
theorem mo_itab : MoR ITab := fun v y H H' e ⟨a, vs, h1, h2, h3⟩ => ⟨a, vs, h1, e _ _ h2, h3.imp fun v x h => mo_irow v x H H' e h⟩
theorem ITab.tk {v : V} {M : List (List Int)} {H : Hp} (h : ITab v M H) (hs : ∀ r, r ∈ M → ∀ x, x ∈ r → x.natAbs ≤ 2 ^ 100) : TkTab K G true v (M.map fun r => r.map G.ic) H := by
  obtain ⟨a, vs, rfl, ha, al⟩ := h
  refine ⟨a, vs, rfl, ha, ?_⟩
  refine Al.map ⟨al.len, fun i v r h1 h2 => ?_⟩
  obtain ⟨b, rfl, hb⟩ := al.at_ i v r h1 h2
  refine ⟨b, _, rfl, hb, ?_⟩
  refine Al.map ⟨by rw [List.length_map], fun j v x h3 h4 => ?_⟩
  rw [List.getElem?_map, h4] at h3
  exact .inl ⟨x, (Option.some.inj h3).symm, hs r (List.mem_of_getElem? h2) x (List.mem_of_getElem? h4), rfl⟩
end
section
variable {P : Program} {w : World} {K : PySem.W.Frag} {mg : Str → Option Value} {base : Heap} {F : Type} [Lean.Grind.CommRing F] [DecidableEq F]
def onesI (n : Nat) : List (List Int) := (List.range n).map fun i => (List.range n).map fun j => if i = j then 1 else 0
theorem onesI_K (G : Gnd F) (n : Nat) : (onesI n).map (fun r => r.map G.ic) = onesK n := by
  unfold onesI onesK eRow
  rw [List.map_map]
  refine List.map_congr_left fun i _ => ?_
  show ((List.range n).map _).map _ = _
  rw [List.map_map]
  refine List.map_congr_left fun j _ => ?_
  show G.ic (if i = j then 1 else 0) = _
  by_cases h : i = j
  · rw [if_pos h, if_pos h, G.ic_one]
  · rw [if_neg h, if_neg h, ic_zero]
theorem onesI_small {n : Nat} : ∀ r, r ∈ onesI n → ∀ x, x ∈ r → x.natAbs ≤ 2 ^ 100 := fun r hr x hx => by
  obtain ⟨i, _, rfl⟩ := List.mem_map.mp hr
  obtain ⟨j, _, rfl⟩ := List.mem_map.mp hx
  split <;> decide
/-- int(i == j) as an item -/
theorem dec_ij {i j : Nat} : (if decide (V.int (i : Int) = V.int (j : Int)) = true then (1 : Int) else 0) = if i = j then 1 else 0 := by
  by_cases h : i = j
  · subst h
    rw [if_pos (by simp), if_pos rfl]
  · rw [if_neg (by simp; omega), if_neg h]
def spUnit (K : PySem.W.Frag) (G : Gnd F) : L2.Sp := fun vs H Q _ => ∃ g, ∃ n : Nat, vs = [g, .int n] ∧ GAt K H g G.p ∧ n ≤ 8 ∧ ∀ v H', Same H H' → MatAt K G H' v (onesK n) n → Q v H'
theorem ok_unit (T : Tx K mg) (G : Gnd F) : FnOk P w K mg base CX0 13 (He.fAd K ("unit", none)) (fdOf K (He.fAd K ("unit", none))) ["ground", "n"] (spUnit K G) := by
  refine fok (F_unit T.c) sc_unit (fun vs H Q E h => ?_) (fun cdv A outer s H vs Q E hr h => ?_)
  · obtain ⟨g, n, rfl, _⟩ := h
    rfl
  · obtain ⟨g, n, rfl, hg, hn, q⟩ := h
    have nd := sc_unit.nd
    refine ⟨_, pss_one (ps_ret (pe_make (He.mkr_ok (a_mkr_Matrix T.c)) (ok_M_init T G true) hr (by rfl) (T.glo (a_glo_Matrix T.c)) (B_M_init T.c) .nil pass0 (pa_cons (pv 0) (pa_cons
      (pe_lc (own := [("i", 2)]) (g := gName 2) (tt := tYes) rfl nd (pi_range1 (by rfl) (T.free (a_free_range T.c)) (pa_cons (pv 1) pa_nil)) (blkOk_by (N := ["ground", "n", "i", "j"]) (sc := defScope s_unit) (by decide +kernel)) (fun _ _ _ _ _ => pg_name (i := 2) nd rfl (.inr rfl)) (fun _ _ _ _ _ => pts_nil)
        (fun _ _ _ _ _ => pe_lc (own := [("j", 3)]) (g := gName 3) (tt := tYes) rfl nd (pi_range1 (by rfl) (T.free (a_free_range T.c)) (pa_cons (pv 1) pa_nil)) (blkOk_by (N := ["ground", "n", "i", "j"]) (by rfl)) (fun _ _ _ _ _ => pg_name (i := 3) nd rfl (.inl rfl)) (fun _ _ _ _ _ => pts_nil)
          (fun _ _ _ _ _ => pe_callTy call_int1 (by rfl) (T.free (a_free_int T.c)) boot_tint (pa_cons (pe_cmpR op_eq (pv 2) (pv 3) (nomark _)) pa_nil)))) (pa_cons (pv 1) pa_nil))))), ?_⟩
    refine p_ret ?_
    refine ⟨_, rfl, ?_⟩
    refine tlc_r (lo := 0) (n := n) (H1 := H) (ys := onesI n) (R := IRow) (N := Nt) (fun R r => ⟨_, rfl, _, rfl, by omega, by omega, r⟩) stay_irow (by unfold onesI; rw [List.length_map, List.length_range]) (by unfold onesI; rw [List.length_map, List.length_range]; omega) (by intro x; rfl) (fun j y hy => ?_) (fun e H3 ws ne s3 he ale => ?_)
    · intro H4 s4 Q4 k4
      have e0 : (0 : Int) + (j : Int) = j := Int.zero_add _
      rw [e0]
      have hj : j < n := by
        obtain ⟨hj, _⟩ := List.getElem?_eq_some_iff.mp hy
        unfold onesI at hj
        rw [List.length_map, List.length_range] at hj
        exact hj
      have hy' : ((List.range n).map fun k => if j = k then (1 : Int) else 0) = y := by
        unfold onesI at hy
        rw [List.getElem?_map, List.getElem?_range hj] at hy
        exact Option.some.inj hy
      refine tlc_r (lo := 0) (n := n) (H1 := H4) (ys := y) (R := RInt) (N := Yes) (fun R r => ⟨_, rfl, _, rfl, by omega, by omega, r⟩) stay_int (by rw [← hy', List.length_map, List.length_range]) (by rw [← hy', List.length_map, List.length_range]; omega) (by intro x; rfl) (fun k z hz => ?_) (fun d H5 us nd5 s5 hd ald => ?_)
      · intro H6 s6 Q6 k6
        have e02 : (0 : Int) + (k : Int) = k := Int.zero_add _
        rw [e02]
        have hk : k < n := by
          obtain ⟨hj, _⟩ := List.getElem?_eq_some_iff.mp hz
          rw [← hy', List.length_map, List.length_range] at hj
          exact hj
        rw [← hy', List.getElem?_map, List.getElem?_range hk] at hz
        refine ⟨_, rfl, _, rfl, rfl, .inr ⟨_, rfl, k6 _ H6 (Same.refl _) ?_ yes_all⟩⟩
        rw [dec_ij]
        have := Option.some.inj hz
        rw [← this]
        rfl
      · exact k4 _ _ s5 ⟨d, rfl, by rw [hd, al_int ald]⟩ (nt_new nd5)
    · refine ⟨_, rfl, ?_⟩
      dsimp only [tNil]
      have ht : TkTab K G true (.ref e) (onesK n) H3 := by
        rw [← onesI_K G n]
        exact ITab.tk ⟨e, ws, rfl, he, ale⟩ onesI_small
      refine mk_M (hg.mono s3) ht (by rw [onesK_len]; exact hn) (by omega) (onesK_row n) fun v H4 s4 hm => q v H4 (s3.trans s4) hm
/-- is_row, is_table -/
def spIsRow (K : PySem.W.Frag) (G : Gnd F) : L2.Sp := fun vs H Q _ => ∃ g v d, ∃ n : Nat, vs = [g, v, .int n] ∧ GAt K H g G.p ∧ RepD K G H v d ∧ Lim G 300 20 d ∧ ∀ H', Same H H' → Q (.bl (rowD n d).isSome) H'
theorem allSome_isSome {α : Type} : ∀ {l : List (Option α)}, (allSome l).isSome = l.all fun x => x.isSome
  | [] => rfl
  | none :: l => rfl
  | some x :: l => by
    have ih := allSome_isSome (l := l)
    unfold allSome
    rw [List.all_cons, ← ih]
    cases allSome l <;> rfl
theorem isTup_ne {d : D F} {n : Nat} (h : isTup d = false) : rowD n d = none ∧ ∀ k, tabD n k d = none := by
  cases d with
  | tup l => cases h
  | _ => exact ⟨rfl, fun _ => rfl⟩
theorem isTup_eq {d : D F} (h : isTup d = true) : ∃ l, d = .tup l := by
  cases d with
  | tup l => exact ⟨l, rfl⟩
  | _ => cases h
theorem ok_is_row (T : Tx K mg) (G : Gnd F) : FnOk P w K mg base CX0 2 (He.fAd K ("is_row", none)) (fdOf K (He.fAd K ("is_row", none))) ["ground", "value", "n"] (spIsRow K G) := by
  refine fok (F_is_row T.c) sc_is_row (fun vs H Q E h => ?_) (fun cdv A outer s H vs Q E hr h => ?_)
  · obtain ⟨g, v, d, n, rfl, _⟩ := h
    rfl
  · obtain ⟨g, v, d, n, rfl, hg, hd, hL, q⟩ := h
    have nd := sc_is_row.nd
    obtain ⟨ga, gx, rfl, hga⟩ := id hg
    have clG : Cls K (He.ga K "Ground") := He.cls_ok (a_cls_Ground T.c)
    refine ⟨_, pss_cons (ps_if (PW.pt (pw_or (pt_not (pt_val (pe_callB call_isi (by rfl) (T.free (a_free_isinstance T.c)) boot_isi (pa_cons (pv 1) (pa_cons (pe_bltn (v := .ty "tuple") (by rfl) (T.free (a_free_tuple T.c)) boot_ttuple rfl) pa_nil)))))
        (pw_or1 (pt_cmpR op_ne (pe_callB (lenS (K := K) rfl) (by rfl) (T.free (a_free_len T.c)) boot_len (pa_cons (pv 1) pa_nil)) (pv 2) (nomark _))))) (pss_one (ps_ret pe_bl)) pss_nil)
      (pss_one (ps_ret (pe_callB (cr_all rfl) (by rfl) (T.free (a_free_all T.c)) boot_all (pa_cons
        (pe_lc (own := [("item", 3)]) (g := gName 3) (tt := tYes) rfl nd (pi_tup (pv 1)) (blkOk_by (N := ["ground", "value", "n", "item"]) (sc := defScope s_is_row) (by decide +kernel)) (fun _ _ _ _ _ => pg_name (i := 3) nd rfl (.inl rfl)) (fun _ _ _ _ _ => pts_nil)
          (fun _ _ _ _ _ => pe_meth (pv 0) clG (He.meth_ok (a_meth_G_is_member T.c)) (ok_is_member T G) hr (B_G_is_member T.c) .nil pass0 (pa_cons (pv 3) pa_nil))) pa_nil)))), ?_⟩
    obtain ⟨t, ht, hk, _⟩ := tyD T hd
    refine ⟨_, rfl, v, _, t, _, _, rfl, .ty "tuple", ht, hk, _, rfl, ?_⟩
    cases hT : isTup d with
    | false =>
      refine iteT ?_
      have := q H (Same.refl _)
      rw [(isTup_ne hT).1] at this
      exact this
    | true =>
      refine iteF ?_
      obtain ⟨l, rfl⟩ := isTup_eq hT
      obtain ⟨b, us, rfl, hb, al⟩ := RepD.al (a := ga) hd
      refine ⟨_, rfl, b, us, rfl, .inr (SqT.of hb), _, rfl, rfl, _, rfl, ?_⟩
      have hll := hL.len
      by_cases hn : l.length = n
      · refine ite2 (fun z => absurd z (by rw [al.len, hn]; simp)) (fun _ => ?_)
        refine p_next ?_
        dsimp only
        refine p_ret ?_
        refine p_cb ?_
        refine p_cons ?_
        refine tlc_t (xs := us) (H1 := H) (ys := l.map fun d => (memD d).isSome) (R := RBool) (N := Yes) (fun R r => ⟨.ref b, rfl, b, rfl, ⟨_, SqT.of hb⟩, r⟩) stay_bool (SqT.of hb) (by rw [al.len, List.length_map]) (by rw [List.length_map]; omega) (by intro x; rfl) (fun j x y hx hy => ?_) (fun e H3 ws ne s3 he ale => ?_)
        · intro H4 s4 Q4 k4
          obtain ⟨dd, hdd, hr2⟩ := al.got hx
          rw [List.getElem?_map, hdd] at hy
          have hy' := Option.some.inj hy
          refine ⟨_, rfl, ga, gx, _, rfl, s4 _ _ hga, rfl, _, rfl, _, _, dd, rfl, hg.mono s4, hr2.mono s4, k4 _ H4 (Same.refl _) ?_ yes_all⟩
          rw [← hy']
          rfl
        · refine ⟨e, l.map fun d => (memD d).isSome, rfl, by rw [← al_bool ale]; exact SqL.of he, ?_⟩
          have := q H3 s3
          rw [rowD_eq, if_pos hn, allSome_isSome] at this
          rw [List.all_map] at this ⊢
          exact this
      · refine ite2 (fun _ => ?_) (fun z => absurd z (by rw [al.len]; simp; omega))
        have := q H (Same.refl _)
        rw [rowD_eq, if_neg hn] at this
        exact this
def spIsTab (K : PySem.W.Frag) (G : Gnd F) : L2.Sp := fun vs H Q _ => ∃ g v d, ∃ h n : Nat, vs = [g, v, .int h, .int n] ∧ GAt K H g G.p ∧ RepD K G H v d ∧ Lim G 300 20 d ∧ ∀ H', Same H H' → Q (.bl (tabD h n d).isSome) H'
theorem ok_is_table (T : Tx K mg) (G : Gnd F) : FnOk P w K mg base CX0 3 (He.fAd K ("is_table", none)) (fdOf K (He.fAd K ("is_table", none))) ["ground", "value", "height", "width"] (spIsTab K G) := by
  refine fok (F_is_table T.c) sc_is_table (fun vs H Q E h => ?_) (fun cdv A outer s H vs Q E hr h => ?_)
  · obtain ⟨g, v, d, h, n, rfl, _⟩ := h
    rfl
  · obtain ⟨g, v, d, h, n, rfl, hg, hd, hL, q⟩ := h
    have nd := sc_is_table.nd
    refine ⟨_, pss_cons (ps_if (PW.pt (pw_or (pt_not (pt_val (pe_callB call_isi (by rfl) (T.free (a_free_isinstance T.c)) boot_isi (pa_cons (pv 1) (pa_cons (pe_bltn (v := .ty "tuple") (by rfl) (T.free (a_free_tuple T.c)) boot_ttuple rfl) pa_nil)))))
        (pw_or1 (pt_cmpR op_ne (pe_callB (lenS (K := K) rfl) (by rfl) (T.free (a_free_len T.c)) boot_len (pa_cons (pv 1) pa_nil)) (pv 2) (nomark _))))) (pss_one (ps_ret pe_bl)) pss_nil)
      (pss_one (ps_ret (pe_callB (cr_all rfl) (by rfl) (T.free (a_free_all T.c)) boot_all (pa_cons
        (pe_lc (own := [("row", 4)]) (g := gName 4) (tt := tYes) rfl nd (pi_tup (pv 1)) (blkOk_by (N := ["ground", "value", "height", "width", "row"]) (sc := defScope s_is_table) (by decide +kernel)) (fun _ _ _ _ _ => pg_name (i := 4) nd rfl (.inl rfl)) (fun _ _ _ _ _ => pts_nil)
          (fun _ _ _ _ _ => pe_call (ok_is_row T G) hr (by rfl) (T.glo (a_glo_is_row T.c)) (F_is_row T.c).kp (B_is_row T.c) .nil pass0 (pa_cons (pv 0) (pa_cons (pv 4) (pa_cons (pv 3) pa_nil))))) pa_nil)))), ?_⟩
    obtain ⟨t, ht, hk, _⟩ := tyD T hd
    refine ⟨_, rfl, v, _, t, _, _, rfl, .ty "tuple", ht, hk, _, rfl, ?_⟩
    cases hT : isTup d with
    | false =>
      refine iteT ?_
      have := q H (Same.refl _)
      rw [(isTup_ne hT).2] at this
      exact this
    | true =>
      refine iteF ?_
      obtain ⟨l, rfl⟩ := isTup_eq hT
      obtain ⟨b, us, rfl, hb, al⟩ := RepD.al (a := 0) hd
      refine ⟨_, rfl, b, us, rfl, .inr (SqT.of hb), _, rfl, rfl, _, rfl, ?_⟩
      have hll := hL.len
      by_cases hn : l.length = h
      · refine ite2 (fun z => absurd z (by rw [al.len, hn]; simp)) (fun _ => ?_)
        refine p_next ?_
        dsimp only
        refine p_ret ?_
        refine p_cb ?_
        refine p_cons ?_
        refine tlc_t (xs := us) (H1 := H) (ys := l.map fun d => (rowD n d).isSome) (R := RBool) (N := Yes) (fun R r => ⟨.ref b, rfl, b, rfl, ⟨_, SqT.of hb⟩, r⟩) stay_bool (SqT.of hb) (by rw [al.len, List.length_map]) (by rw [List.length_map]; omega) (by intro x; rfl) (fun j x y hx hy => ?_) (fun e H3 ws ne s3 he ale => ?_)
        · intro H4 s4 Q4 k4
          obtain ⟨dd, hdd, hr2⟩ := al.got hx
          rw [List.getElem?_map, hdd] at hy
          have hy' := Option.some.inj hy
          refine ⟨_, rfl, _, rfl, _, rfl, _, _, dd, n, rfl, hg.mono s4, hr2.mono s4, hL.mem (List.mem_of_getElem? hdd), fun H5 s5 => k4 _ H5 s5 ?_ yes_all⟩
          rw [← hy']
          rfl
        · refine ⟨e, l.map fun d => (rowD n d).isSome, rfl, by rw [← al_bool ale]; exact SqL.of he, ?_⟩
          have := q H3 s3
          rw [tabD_eq, if_pos hn, allSome_isSome] at this
          rw [List.all_map] at this ⊢
          exact this
      · refine ite2 (fun _ => ?_) (fun z => absurd z (by rw [al.len]; simp; omega))
        have := q H (Same.refl _)
        rw [tabD_eq, if_neg hn] at this
        exact this
end
end K51

set_option Elab.async false
set_option linter.all false
set_option maxRecDepth 100000
set_option maxHeartbeats 4000000
set_option autoImplicit false
namespace K51
open PySem PySem.Spec PyProof.Rows L2
section
variable {F : Type} [Lean.Grind.CommRing F] [DecidableEq F] {K : PySem.W.Frag} {G : Gnd F}
theorem eq_all {α : Type} [DecidableEq α] {xs ys : List α} (hl : xs.length = ys.length) : decide (xs = ys) = (List.range xs.length).all fun i => decide (xs[i]? = ys[i]?) := by
  rw [Bool.eq_iff_iff, decide_eq_true_iff, List.all_eq_true]
  constructor
  · intro e i _
    rw [e, decide_eq_true rfl]
  · intro h
    refine List.ext_getElem? fun i => ?_
    by_cases hi : i < xs.length
    · exact of_decide_eq_true (h i (List.mem_range.mpr hi))
    · rw [List.getElem?_eq_none (by omega), List.getElem?_eq_none (by omega)]
theorem fl_eq {x y : F} : decide (flN G.p (G.nm x) (G.dn x) = flN G.p (G.nm y) (G.dn y)) = decide (x = y) := by
  rw [Bool.eq_iff_iff, decide_eq_true_iff, decide_eq_true_iff]
  constructor
  · intro h
    by_cases hp : G.p = 0
    · rw [hp] at h
      injection h with h1 h2
      injection h2 with h2 _
      injection h1 with _ h1
      injection h2 with _ h2
      exact G.inj x y (V.int.inj h1) (V.int.inj h2)
    · rw [flN_r hp, flN_r hp] at h
      injection h with _ h2
      injection h2 with h2 _
      injection h2 with _ h2
      exact G.inj x y (V.int.inj h2) (by rw [(G.r0 hp x).1, (G.r0 hp y).1])
  · intro e
    rw [e]
theorem num_cmp {v1 v2 : V} {x y : F} {H : Hp} (h1 : NumG K G H v1 x) (h2 : NumG K G H v2 y) : DNum K G.p v1 v2 H (decide (x = y)) := ⟨_, _, _, _, h1, h2, fl_eq.symm⟩
theorem rowT_cmp {v1 v2 : V} {xs ys : List F} {H : Hp} (h1 : RowT K G v1 xs H) (h2 : RowT K G v2 ys H) (hl : xs.length = ys.length) : DTupB K (DNum K G.p) v1 v2 H (decide (xs = ys)) := by
  obtain ⟨a, us, rfl, ha, al⟩ := h1
  obtain ⟨b, ws, rfl, hb, al2⟩ := h2
  refine ⟨a, b, us, ws, fun i => decide (xs[i]? = ys[i]?), rfl, rfl, SqT.of ha, SqT.of hb, by rw [al.len, al2.len, hl], fun i u v hu hv => ?_, by rw [al.len]; exact eq_all hl⟩
  obtain ⟨x, hx, n1⟩ := al.got hu
  obtain ⟨y, hy, n2⟩ := al2.got hv
  show DNum K G.p u v H (decide (xs[i]? = ys[i]?))
  rw [hx, hy]
  have : decide (some x = some y) = decide (x = y) := by
    rw [Bool.eq_iff_iff]
    simp
  rw [this]
  exact num_cmp n1 n2
theorem tabT_cmp {v1 v2 : V} {A B : List (List F)} {H : Hp} {w : Nat} (h1 : TabT K G v1 A H) (h2 : TabT K G v2 B H) (hl : A.length = B.length) (ha : ∀ r, r ∈ A → r.length = w) (hb : ∀ r, r ∈ B → r.length = w) : DTupB K (DTupB K (DNum K G.p)) v1 v2 H (decide (A = B)) := by
  obtain ⟨a, us, rfl, hA, al⟩ := h1
  obtain ⟨b, ws, rfl, hB, al2⟩ := h2
  refine ⟨a, b, us, ws, fun i => decide (A[i]? = B[i]?), rfl, rfl, SqT.of hA, SqT.of hB, by rw [al.len, al2.len, hl], fun i u v hu hv => ?_, by rw [al.len]; exact eq_all hl⟩
  obtain ⟨x, hx, n1⟩ := al.got hu
  obtain ⟨y, hy, n2⟩ := al2.got hv
  show DTupB K (DNum K G.p) u v H (decide (A[i]? = B[i]?))
  rw [hx, hy]
  have : decide (some x = some y) = decide (x = y) := by
    rw [Bool.eq_iff_iff]
    simp
  rw [this]
  exact rowT_cmp n1 n2 (by rw [ha _ (List.mem_of_getElem? hx), hb _ (List.mem_of_getElem? hy)])
theorem range_map_get {α : Type} {n : Nat} {f : Nat → α} {j : Nat} {y : α} (h : ((List.range n).map f)[j]? = some y) : j < n ∧ f j = y := by
  obtain ⟨hj, _⟩ := List.getElem?_eq_some_iff.mp h
  rw [List.length_map, List.length_range] at hj
  rw [List.getElem?_map, List.getElem?_range hj] at h
  exact ⟨hj, Option.some.inj h⟩
def partR (A : List F) (B : List (List F)) (w k : Nat) : List F := (List.range w).map fun j => sumN k fun i => vec A i * vec (B.getD i []) j
theorem partR_len {A : List F} {B : List (List F)} {w k : Nat} : (partR A B w k).length = w := by
  unfold partR
  rw [List.length_map, List.length_range]
end
section
variable {P : Program} {w : World} {K : PySem.W.Frag} {mg : Str → Option Value} {base : Heap} {F : Type} [Lean.Grind.CommRing F] [DecidableEq F]
def spTimes (K : PySem.W.Frag) (G : Gnd F) : L2.Sp := fun vs H Q _ => ∃ g va vb A B, ∃ wd b b' : Nat, vs = [g, va, vb, .int wd] ∧ GAt K H g G.p ∧ TabT K G va A H ∧ TabT K G vb B H ∧ A.length ≤ 100 ∧ B.length ≤ 100 ∧ wd ≤ 100 ∧ (∀ r, r ∈ A → r.length = B.length) ∧ (∀ r, r ∈ B → r.length = wd) ∧
  (∀ r, r ∈ A → ∀ x, x ∈ r → bd G b b x) ∧ (∀ r, r ∈ B → ∀ x, x ∈ r → bd G b' b' x) ∧ (b + b' + 1) * B.length ≤ 8990 ∧ ∀ v H', Same H H' → TabT K G v (mulK A B wd) H' → Q v H'
theorem ok_times (T : Tx K mg) (G : Gnd F) : FnOk P w K mg base CX0 10 (He.fAd K ("times", none)) (fdOf K (He.fAd K ("times", none))) ["ground", "one", "two", "width"] (spTimes K G) := by
  refine fok (F_times T.c) sc_times (fun vs H Q E h => ?_) (fun cdv A outer s H vs Q E hr h => ?_)
  · obtain ⟨g, va, vb, A, B, wd, b, b', rfl, _⟩ := h
    rfl
  · obtain ⟨g, va, vb, MA, MB, wd, b, b', rfl, hg, ⟨aa, as, rfl, haa, ala⟩, ⟨ba, bs, rfl, hba, alb⟩, hA, hB, hw, hra, hrb, hba1, hbb1, hbnd, q⟩ := h
    have nd := sc_times.nd
    obtain ⟨ga, gx, rfl, hga⟩ := id hg
    have clG : Cls K (He.ga K "Ground") := He.cls_ok (a_cls_Ground T.c)
    refine ⟨_, pss_cons (ps_set (i := 4) nd rfl (.inl rfl) (pe_lst pa_nil))
      (pss_cons (ps_for PassesOwn.never rfl (pi_tup (pv 1)) (pg_name (i := 5) nd rfl (.inr rfl))
        (pss_cons (ps_set (i := 6) nd rfl (.inr rfl) (pe_lc (own := [("_", 8)]) (g := gName 8) (tt := tYes) rfl nd (pi_range1 (by rfl) (T.free (a_free_range T.c)) (pa_cons (pv 3) pa_nil)) (blkOk_by (N := ["ground", "one", "two", "width", "found", "row", "total", "k", "_", "j"]) (sc := defScope s_times) (by decide +kernel)) (fun _ _ _ _ _ => pg_name (i := 8) nd rfl (.inl rfl)) (fun _ _ _ _ _ => pts_nil)
            (fun _ _ _ _ _ => pe_meth0 (pv 0) clG (He.meth_ok (a_meth_G_zero T.c)) (ok_zero T G) hr (B_G_zero T.c) .nil pass0)))
        (pss_cons (ps_for PassesOwn.never rfl (pi_range1 (by rfl) (T.free (a_free_range T.c)) (pa_cons (pe_callB (lenS (K := K) rfl) (by rfl) (T.free (a_free_len T.c)) boot_len (pa_cons (pv 5) pa_nil)) pa_nil)) (pg_name (i := 7) nd rfl (.inr rfl))
          (pss_one (ps_set (i := 6) nd rfl (.inr rfl) (pe_lc (own := [("j", 9)]) (g := gName 9) (tt := tYes) rfl nd (pi_range1 (by rfl) (T.free (a_free_range T.c)) (pa_cons (pv 3) pa_nil)) (blkOk_by (N := ["ground", "one", "two", "width", "found", "row", "total", "k", "_", "j"]) (sc := defScope s_times) (by decide +kernel)) (fun _ _ _ _ _ => pg_name (i := 9) nd rfl (.inl rfl)) (fun _ _ _ _ _ => pts_nil)
            (fun _ _ _ _ _ => pe_op (opK_add (K := K) (mg := mg) rfl rfl T G (hr.mono (by decide))) (pe_ix (ixL (K := K) rfl) (pv 6) (pv 9) (fun _ _ => rfl))
              (pe_op (opK_mul (K := K) (mg := mg) rfl rfl T G (hr.mono (by decide))) (pe_ix (ixT (K := K) rfl) (pv 5) (pv 7) (fun _ _ => rfl)) (pe_ix (ixT (K := K) rfl) (pe_ix (ixT (K := K) rfl) (pv 2) (pv 7) (fun _ _ => rfl)) (pv 9) (fun _ _ => rfl))))))))
        (pss_one (ps_expr (pe_bm PySem.F.plainAttrs_list PySem.F.slot_list_append PySem.F.type_list_append mt_append (pv 4) (pa_cons (pe_callTy (tupOf (K := K) rfl) (by rfl) (T.free (a_free_tuple T.c)) boot_ttuple (pa_cons (pv 6) pa_nil)) pa_nil)))))))
      (pss_one (ps_ret (pe_callTy (tupOf (K := K) rfl) (by rfl) (T.free (a_free_tuple T.c)) boot_ttuple (pa_cons (pv 4) pa_nil))))), ?_⟩
    refine ⟨Nat.zero_le _, fun W nW => ?_⟩
    have sW : Same H (upd H W (.lst [])) := same_upd nW
    refine ⟨_, rfl, aa, rfl, ⟨_, SqT.of (sW _ _ haa)⟩, ?_⟩
    refine for_tup (xs := as) (fun i σ H' => Same H H' ∧ ∃ y5 y6 y7, σ = [some (.ref ga), some (.ref aa), some (.ref ba), some (.int wd), some (.ref W), y5, y6, y7, none, none] ∧ ∃ zs, H' W = some (.lst zs) ∧ Al (fun v x => RowT K G v x H') zs ((mulK MA MB wd).take i))
      ⟨sW, none, none, none, rfl, [], upd_same, Al.nil⟩ (fun i σ H' _ hP => SqT.of (hP.1 _ _ haa)) (fun i x σ H' hx hP => ?_) fun σ H' hP => ?_
    · obtain ⟨s1, y5, y6, y7, rfl, zs, hW, alz⟩ := hP
      obtain ⟨row, hrow, ra, us, rfl, hra0, alr⟩ := ala.got hx
      have hmem := List.mem_of_getElem? hrow
      have hrl := hra row hmem
      have hbr := hba1 row hmem
      dsimp only [gName]
      refine p_seq ?_
      refine p_asg ?_
      refine tlc_r (lo := 0) (n := wd) (H1 := H') (ys := partR row MB wd 0) (R := RNum K G) (N := Yes) (fun R r => ⟨_, rfl, _, rfl, by omega, by omega, r⟩) stay_num partR_len.symm (by rw [partR_len]; omega) (by intro x; rfl) (fun j y hy => ?_) (fun t0 H3 ts0 nt0 s3 ht0 alt0 => ?_)
      · intro H4 s4 Q4 k4
        obtain ⟨_, hy'⟩ := range_map_get hy
        refine ⟨_, rfl, ga, gx, _, rfl, (s1.trans s4) _ _ hga, rfl, _, rfl, hg.mono (s1.trans s4), fun v H5 e5 h5 => k4 v H5 e5 ?_ yes_all⟩
        rw [← hy']
        exact h5
      · dsimp only [gName]
        refine p_seq ?_
        refine ⟨_, rfl, ra, us, rfl, .inr (SqT.of ((s1.trans s3) _ _ hra0)), _, rfl, by omega, by rw [alr.len, hrl]; omega, ?_⟩
        refine for_range (lo := 0) (n := us.length) (fun k σ H'' => Same H3 H'' ∧ ∃ tv y7, σ = [some (.ref ga), some (.ref aa), some (.ref ba), some (.int wd), some (.ref W), some (.ref ra), some tv, y7, none, none] ∧ RowL K G tv (partR row MB wd k) H'')
          ⟨Same.refl _, .ref t0, y7, rfl, t0, ts0, rfl, ht0, alt0⟩ (fun k σ H'' hk hP => ?_) fun σ H'' hP => ?_
        · obtain ⟨s4, tv, y7', rfl, ta, ts, rfl, hta, alt⟩ := hP
          have e0 : (0 : Int) + (k : Int) = k := Int.zero_add _
          rw [e0]
          have hkB : k < MB.length := by rw [← hrl, ← alr.len]; exact hk
          have hkr : k < row.length := by rw [hrl]; exact hkB
          have hrk : row[k]? = some row[k] := List.getElem?_eq_getElem hkr
          obtain ⟨rv, hrv, hrn⟩ := alr.get hrk
          have hBk : MB[k]? = some MB[k] := List.getElem?_eq_getElem hkB
          obtain ⟨bv, hbv, bb, bus, rfl, hbb0, albr⟩ := alb.get hBk
          have hBkl := hrb _ (List.getElem_mem hkB)
          have s14 := (s1.trans s3).trans s4
          dsimp only [gName]
          refine p_asg ?_
          refine tlc_r (lo := 0) (n := wd) (H1 := H'') (ys := partR row MB wd (k + 1)) (R := RNum K G) (N := Yes) (fun R r => ⟨_, rfl, _, rfl, by omega, by omega, r⟩) stay_num partR_len.symm (by rw [partR_len]; omega) (by intro x; rfl) (fun j y hy => ?_) (fun t1 H5 ts1 nt1 s5 ht1 alt1 => ?_)
          · intro H6 s6 Q6 k6
            have e02 : (0 : Int) + (j : Int) = j := Int.zero_add _
            rw [e02]
            obtain ⟨hj, hy'⟩ := range_map_get hy
            have htj : (partR row MB wd k)[j]? = some (sumN k fun i => vec row i * vec (MB.getD i []) j) := by
              unfold partR
              rw [List.getElem?_map, List.getElem?_range hj]
              rfl
            obtain ⟨tn, htn, hT⟩ := alt.get htj
            have hBj : MB[k][j]? = some (MB[k][j]'(by omega)) := List.getElem?_eq_getElem _
            obtain ⟨bn, hbn, hBN⟩ := albr.get hBj
            have b1 : bd G b b row[k] := hbr _ (List.getElem_mem hkr)
            have b2 : bd G b' b' (MB[k][j]'(by omega)) := hbb1 _ (List.getElem_mem hkB) _ (List.getElem_mem _)
            have bs1 : bd G ((b + b' + 1) * k) ((b + b' + 1) * k) (sumN k fun i => vec row i * vec (MB.getD i []) j) := bd_sum (fun i _ => vec_bd hbr i) (fun i hi => by
              rw [getD_at (List.getElem?_eq_getElem (show i < MB.length by omega))]
              exact vec_bd (hbb1 _ (List.getElem_mem _)) j)
            have hk1 : (b + b' + 1) * k + (b + b' + 1) ≤ 8990 := by
              have h2 : (b + b' + 1) * (k + 1) ≤ (b + b' + 1) * MB.length := Nat.mul_le_mul_left _ hkB
              rw [Nat.mul_add, Nat.mul_one] at h2
              omega
            refine ⟨_, rfl, _, rfl, ta, ts, _, _, rfl, rfl, SqL.of (s6 _ _ hta), atI_nat htn, ?_⟩
            refine ⟨_, rfl, _, rfl, ra, us, _, _, rfl, rfl, SqT.of ((s14.trans s6) _ _ hra0), atI_nat hrv, ?_⟩
            refine ⟨_, rfl, _, rfl, ba, bs, _, _, rfl, rfl, SqT.of ((s14.trans s6) _ _ hba), atI_nat hbv, ?_⟩
            refine ⟨_, rfl, bb, bus, _, _, rfl, rfl, SqT.of ((s14.trans s6) _ _ hbb0), atI_nat hbn, ?_⟩
            refine rOwn_bin (hrn.mono (s14.trans s6)) (hBN.mono (s14.trans s6)) b1 b2 (by omega) fun v7 H7 e7 h7 => ?_
            refine rOwn_bin (b1 := (b + b' + 1) * k) (b2 := b + b') ((hT.mono s6).mono e7) h7 bs1 (bd_mul b1 b2) (by omega) fun v8 H8 e8 h8 => ?_
            refine k6 v8 H8 (e7.trans e8) ?_ yes_all
            rw [← hy', sumN_succ]
            have q1 := vec_at hrk
            have q2 := vec_at hBj
            show NumG K G H8 v8 (_ + vec row k * vec (MB.getD k []) j)
            rw [getD_at hBk, q1, q2]
            exact h8
          · exact ⟨s4.trans s5, .ref t1, some (.int k), rfl, t1, ts1, rfl, ht1, alt1⟩
        · obtain ⟨s4, tv, y7', rfl, ta, ts, rfl, hta, alt⟩ := hP
          have hW4 := (s3.trans s4) _ _ hW
          refine ⟨.ref W, rfl, .inl ⟨rfl, _, SqL.of hW4⟩, ?_⟩
          refine ⟨_, rfl, ta, ts, rfl, .inl ⟨SqL.of hta, fun l nl => ?_⟩⟩
          have sl : Same H'' (upd H'' l (.tup ts)) := same_upd nl
          have hl : RowT K G (.ref l) (partR row MB wd us.length) (upd H'' l (.tup ts)) := ⟨l, ts, rfl, upd_same, alt.imp fun v x h => NumG.mono h sl⟩
          have s5 := (s3.trans s4).trans sl
          generalize (upd H'' l (.tup ts)) = H5 at *
          have hW5 := s5 _ _ hW
          refine ⟨W, zs, .ref l, rfl, rfl, hW5, small_line' (by
            have := alz.len
            rw [List.length_take, mulK_len] at this
            omega), ?_⟩
          refine ⟨same_mut nW (s1.trans s5), some (.ref ra), some (.ref ta), _, rfl, zs ++ [.ref l], upd_same, ?_⟩
          have hmk : (mulK MA MB wd)[i]? = some (partR row MB wd us.length) := by
            unfold mulK
            rw [List.getElem?_map, hrow]
            show some _ = some _
            rw [alr.len]
            rfl
          rw [take_get hmk]
          exact (alz.imp fun v x h => rowT_mut hW5 (mo_rowT _ _ _ _ s5 h)).snoc (rowT_mut hW5 hl)
    · obtain ⟨s1, y5, y6, y7, rfl, zs, hW, alz⟩ := hP
      rw [List.take_of_length_le (by rw [mulK_len, ala.len]; exact Nat.le_refl _)] at alz
      refine ⟨_, rfl, W, zs, rfl, .inl ⟨SqL.of hW, fun l nl => ?_⟩⟩
      have sl : Same H' (upd H' l (.tup zs)) := same_upd nl
      exact q _ _ (s1.trans sl) ⟨l, zs, rfl, upd_same, alz.imp fun v x h => mo_rowT _ _ _ _ sl h⟩
/-- is_unit -/
def spIsUnit (K : PySem.W.Frag) (G : Gnd F) : L2.Sp := fun vs H Q _ => ∃ g v A, ∃ n : Nat, vs = [g, v] ∧ GAt K H g G.p ∧ TabT K G v A H ∧ A.length = n ∧ n ≤ 8 ∧ (∀ r, r ∈ A → r.length = n) ∧ ∀ H', Same H H' → Q (.bl (decide (A = onesK n))) H'
theorem ok_is_unit (T : Tx K mg) (G : Gnd F) : FnOk P w K mg base CX0 14 (He.fAd K ("is_unit", none)) (fdOf K (He.fAd K ("is_unit", none))) ["ground", "table"] (spIsUnit K G) := by
  refine fok (F_is_unit T.c) sc_is_unit (fun vs H Q E h => ?_) (fun cdv A outer s H vs Q E hr h => ?_)
  · obtain ⟨g, v, A, n, rfl, _⟩ := h
    rfl
  · obtain ⟨g, v, MA, n, rfl, hg, hT, hl, hn, hrow, q⟩ := h
    obtain ⟨a, us, rfl, ha, al⟩ := id hT
    have nd := sc_is_unit.nd
    refine ⟨_, pss_one (ps_ret (pe_cmpR (op_eqT (monB_tup monB_num) (eqB_tup (monB_num) (rflB_num) (eqN T G.p)) (hr.mono (by decide))) (pv 1) (pe_fld (pe_call (ok_unit T G) hr (by rfl) (T.glo (a_glo_unit T.c)) (F_unit T.c).kp (B_unit T.c) .nil pass0 (pa_cons (pv 0) (pa_cons (pe_callB (lenS (K := K) rfl) (by rfl) (T.free (a_free_len T.c)) boot_len (pa_cons (pv 1) pa_nil)) pa_nil))) rfl) (nomark _))), ?_⟩
    refine ⟨_, rfl, _, rfl, _, rfl, a, us, rfl, .inr (SqT.of ha), ?_⟩
    refine ⟨_, us.length, rfl, hg, by rw [al.len, hl]; exact hn, fun v H3 s3 hm => ?_⟩
    obtain ⟨ma, mx, mgv, mr, rfl, hma, hmg, hmr⟩ := hm
    rw [al.len, hl] at hmr
    refine ⟨ma, _, mx, _, _, rfl, hma, He.cls_ok (a_cls_Matrix T.c), He.noat_ok (a_noat_Matrix_rows T.c), rfl, ?_⟩
    refine ⟨_, tabT_cmp (mo_tabT _ _ _ _ s3 hT) hmr (by rw [hl, onesK_len]) hrow (onesK_row n), fun H4 s4 => ?_⟩
    exact q H4 (s3.trans s4)
end
end K51

set_option Elab.async false
set_option linter.all false
set_option maxRecDepth 100000
set_option maxHeartbeats 4000000
set_option autoImplicit false
namespace K51
open PySem PySem.Spec PyProof.Rows L2
section
variable {F : Type} [Lean.Grind.CommRing F] [DecidableEq F] {K : PySem.W.Frag} {G : Gnd F}
theorem map_some_get {α β : Type} {l : List α} {f : α → Option β} {ys : List β} (h : l.map f = ys.map some) {i : Nat} {d : α} {y : β} (h1 : l[i]? = some d) (h2 : ys[i]? = some y) : f d = some y := by
  have e : (l.map f)[i]? = (ys.map some)[i]? := by rw [h]
  rw [List.getElem?_map, List.getElem?_map, h1, h2] at e
  exact Option.some.inj e
theorem rowD_tup {n : Nat} {d : D F} {xs : List F} (e : rowD n d = some xs) : ∃ l, d = .tup l ∧ l.length = n ∧ l.map memD = xs.map some := by
  cases d with
  | tup l =>
    rw [rowD_eq] at e
    by_cases q : l.length = n
    · rw [if_pos q] at e
      exact ⟨l, rfl, q, (allSome_iff _ _).mp e⟩
    · rw [if_neg q] at e
      cases e
  | _ => cases e
theorem memD_num {d : D F} {x : F} (e : memD d = some x) : d = .num x := by
  cases d with
  | num y => exact congrArg D.num (Option.some.inj e)
  | _ => cases e
theorem RepD.rowT {H : Hp} {v : V} {d : D F} {n : Nat} {xs : List F} (h : RepD K G H v d) (e : rowD n d = some xs) : RowT K G v xs H := by
  obtain ⟨l, rfl, hl, hm⟩ := rowD_tup e
  obtain ⟨a, us, rfl, ha, al⟩ := RepD.al (a := 0) h
  have hx : xs.length = l.length := by
    have := congrArg List.length hm
    rw [List.length_map, List.length_map] at this
    exact this.symm
  refine ⟨a, us, rfl, ha, by rw [al.len, hx], fun i v x h1 h2 => ?_⟩
  obtain ⟨d, hd, r⟩ := al.got h1
  have := memD_num (map_some_get hm hd h2)
  subst this
  cases r with
  | num h => exact h
theorem RepD.tabT {H : Hp} {v : V} {d : D F} {m n : Nat} {M : List (List F)} (h : RepD K G H v d) (e : tabD m n d = some M) : TabT K G v M H := by
  obtain ⟨l, rfl, hl, hm⟩ := tabD_tup e
  obtain ⟨a, us, rfl, ha, al⟩ := RepD.al (a := 0) h
  have hx : M.length = l.length := by
    have := congrArg List.length hm
    rw [List.length_map, List.length_map] at this
    exact this.symm
  refine ⟨a, us, rfl, ha, by rw [al.len, hx], fun i v x h1 h2 => ?_⟩
  obtain ⟨d, hd, r⟩ := al.got h1
  exact r.rowT (map_some_get hm hd h2)
theorem holds_len {h w : Nat} {M : List (List F)} {l : List (D F)} (hn : l.length ≠ 6) : holdsD h w M (.tup l) = false := by
  unfold holdsD
  split
  · rename_i e
    injection e with e
    rw [e] at hn
    exact absurd rfl hn
  · rfl
theorem holds_tup {h w : Nat} {M : List (List F)} {d : D F} (hn : isTup d = false) : holdsD h w M d = false := by
  cases d with
  | tup l => cases hn
  | _ => rfl
theorem six {α : Type} {l : List α} (h : l.length = 6) : ∃ a b c d e f, l = [a, b, c, d, e, f] := by
  match l, h with
  | [a, b, c, d, e, f], _ => exact ⟨a, b, c, d, e, f, rfl⟩
/-- is it an integer that is no bool -/
def plainD : D F → Option Int
  | .int i => some i
  | _ => none
theorem holds_six {h w : Nat} {M : List (List F)} {d0 d1 l ri t wi : D F} : holdsD h w M (.tup [d0, d1, l, ri, t, wi]) = (isRk d0 && match plainD d1 with
    | some r => holdsT h w M r l ri t wi
    | none => false) := by
  cases d0 with
  | str b =>
    cases b with
    | false => cases d1 <;> rfl
    | true => cases d1 <;> rfl
  | _ => cases d1 <;> rfl
theorem plain_bool {d : D F} : (isIntD d && !isBl d) = (plainD d).isSome := by
  cases d <;> rfl
theorem RepD.plain {H : Hp} {v : V} {d : D F} {r : Int} (h : RepD K G H v d) (e : plainD d = some r) : v = .int r := by
  cases h with
  | int i =>
    have := Option.some.inj e
    rw [← this]
  | _ => cases e
theorem holdsT_neg {h w : Nat} {M : List (List F)} {r : Int} {l ri t wi : D F} (hr : r < 0) : holdsT h w M r l ri t wi = false := by
  unfold holdsT
  rw [decide_eq_false (by omega), Bool.false_and]
theorem holdsT_nat {h w n : Nat} {M : List (List F)} {l ri t wi : D F} : holdsT h w M (n : Int) l ri t wi = match tabD n h l, tabD w n ri, tabD h n t, tabD n w wi with
    | some L, some R, some T, some W => decide (mulK T W w = M) && decide (mulK (mulK L M w) R n = onesK n)
    | _, _, _, _ => false := by
  unfold holdsT
  rw [decide_eq_true (by omega), Bool.true_and]
  rfl
theorem mulK_bd {A B : List (List F)} {w b b' n : Nat} (hr : ∀ r, r ∈ A → r.length = n) (ha : ∀ r, r ∈ A → ∀ x, x ∈ r → bd G b b x) (hb : ∀ r, r ∈ B → ∀ x, x ∈ r → bd G b' b' x) : ∀ r, r ∈ mulK A B w → ∀ x, x ∈ r → bd G ((b + b' + 1) * n) ((b + b' + 1) * n) x := fun r hr' x hx => by
  obtain ⟨row, hrow, rfl⟩ := List.mem_map.mp hr'
  obtain ⟨j, _, rfl⟩ := List.mem_map.mp hx
  show bd G _ _ (sumN row.length fun k => vec row k * vec (B.getD k []) j)
  rw [← hr row hrow]
  refine bd_sum (fun k _ => vec_bd (ha row hrow) k) fun k _ => ?_
  by_cases hk : k < B.length
  · rw [getD_at (List.getElem?_eq_getElem hk)]
    exact vec_bd (hb _ (List.getElem_mem _)) j
  · rw [show B.getD k [] = [] by rw [List.getD_eq_getElem?_getD, List.getElem?_eq_none (by omega)]; rfl]
    exact vec_bd (fun x hx => by cases hx) j
theorem al6 {α β : Type} {R : α → β → Prop} {us : List α} {a b c d e f : β} (al : Al R us [a, b, c, d, e, f]) : ∃ u0 u1 u2 u3 u4 u5, us = [u0, u1, u2, u3, u4, u5] ∧ R u0 a ∧ R u1 b ∧ R u2 c ∧ R u3 d ∧ R u4 e ∧ R u5 f := by
  obtain ⟨u0, u1, u2, u3, u4, u5, rfl⟩ := six (l := us) al.len
  exact ⟨u0, u1, u2, u3, u4, u5, rfl, al.at_ 0 _ _ rfl rfl, al.at_ 1 _ _ rfl rfl, al.at_ 2 _ _ rfl rfl, al.at_ 3 _ _ rfl rfl, al.at_ 4 _ _ rfl rfl, al.at_ 5 _ _ rfl rfl⟩
end
section
variable {P : Program} {w : World} {K : PySem.W.Frag} {mg : Str → Option Value} {base : Heap} {F : Type} [Lean.Grind.CommRing F] [DecidableEq F]
def spTakes (K : PySem.W.Frag) (G : Gnd F) : L2.Sp := fun vs H Q _ => ∃ v u M d, ∃ wd : Nat, vs = [v, u] ∧ MatAt K G H v M wd ∧ M.length ≤ 3 ∧ wd ≤ 3 ∧ (∀ r, r ∈ M → r.length = wd) ∧ bd1 G M ∧ RepD K G H u d ∧ Lim G 242 8 d ∧
  ∀ H', Same H H' → Q (.bl (holdsD M.length wd M d)) H'
theorem ok_takes (T : Tx K mg) (G : Gnd F) : FnOk P w K mg base CX0 15 (He.fAd K ("takes_rank", none)) (fdOf K (He.fAd K ("takes_rank", none))) ["m", "paper"] (spTakes K G) := by
  refine fok (F_takes_rank T.c) sc_takes_rank (fun vs H Q E h => ?_) (fun cdv A outer s H vs Q E hr h => ?_)
  · obtain ⟨v, u, M, d, wd, rfl, _⟩ := h
    rfl
  · obtain ⟨v, u, M, d, wd, rfl, hm, hM, hw, hrow, hb1, hd, hL, q⟩ := h
    obtain ⟨a, dx, g, r0, rfl, ha, hg, hT⟩ := id hm
    have nd := sc_takes_rank.nd
    have cl : Cls K (He.ga K "Matrix") := He.cls_ok (a_cls_Matrix T.c)
    have n1 : NoAttr K (He.ga K "Matrix") "ground" := He.noat_ok (a_noat_Matrix_ground T.c)
    have n2 : NoAttr K (He.ga K "Matrix") "rows" := He.noat_ok (a_noat_Matrix_rows T.c)
    have n3 : NoAttr K (He.ga K "Matrix") "width" := He.noat_ok (a_noat_Matrix_width T.c)
    refine ⟨_, pss_cons (ps_if (PW.pt (pw_or (pt_not (pt_val (pe_callB call_isi (by rfl) (T.free (a_free_isinstance T.c)) boot_isi (pa_cons (pv 1) (pa_cons (pe_bltn (v := .ty "tuple") (by rfl) (T.free (a_free_tuple T.c)) boot_ttuple rfl) pa_nil)))))
        (pw_or (pt_cmpR op_ne (pe_callB (lenS (K := K) rfl) (by rfl) (T.free (a_free_len T.c)) boot_len (pa_cons (pv 1) pa_nil)) pe_int (nomark _))
        (pw_or (pt_cmpR (op_neRank T G (hr.mono (by decide))) (pe_ix (ixT (K := K) rfl) (pv 1) pe_int (fun _ _ => rfl)) pe_str (nomark _))
        (pw_or1 (pt_not (pt_val (pe_call (ok_is_plain T) (hr.mono (by decide)) (by rfl) (T.glo (a_glo_is_plain T.c)) (F_is_plain T.c).kp (B_is_plain T.c) .nil pass0 (pa_cons (pe_ix (ixT (K := K) rfl) (pv 1) pe_int (fun _ _ => rfl)) pa_nil)))))))))
          (pss_one (ps_ret pe_bl)) pss_nil)
      (pss_cons (ps_set (i := 2) nd rfl (.inl rfl) (pe_fld (pv 0) rfl))
      (pss_cons (ps_asg (pe_slice sl_tupA (pv 1) (po_some pe_int) po_none) (pg_tup rfl (pgs_cons (pg_name (i := 3) nd rfl (.inl rfl)) (pgs_cons (pg_name (i := 4) nd rfl (.inl rfl)) (pgs_cons (pg_name (i := 5) nd rfl (.inl rfl)) (pgs_cons (pg_name (i := 6) nd rfl (.inl rfl)) (pgs_cons (pg_name (i := 7) nd rfl (.inl rfl)) pgs_nil)))))))
      (pss_cons (ps_if (PW.pt (pw_or (pt_cmpR op_lt (pv 3) pe_int (nomark _))
        (pw_or (pt_not (pt_val (pe_call (ok_is_table T G) (hr.mono (by decide)) (by rfl) (T.glo (a_glo_is_table T.c)) (F_is_table T.c).kp (B_is_table T.c) .nil pass0 (pa_cons (pv 2) (pa_cons (pv 4) (pa_cons (pv 3) (pa_cons (pe_callB (callK_len (K := K) (mg := mg) rfl rfl T G (hr.mono (by decide))) (by rfl) (T.free (a_free_len T.c)) boot_len (pa_cons (pv 0) pa_nil)) pa_nil)))))))
        (pw_or1 (pt_not (pt_val (pe_call (ok_is_table T G) (hr.mono (by decide)) (by rfl) (T.glo (a_glo_is_table T.c)) (F_is_table T.c).kp (B_is_table T.c) .nil pass0 (pa_cons (pv 2) (pa_cons (pv 5) (pa_cons (pe_fld (pv 0) rfl) (pa_cons (pv 3) pa_nil)))))))))))
          (pss_one (ps_ret pe_bl)) pss_nil)
      (pss_cons (ps_if (PW.pt (pw_or (pt_not (pt_val (pe_call (ok_is_table T G) (hr.mono (by decide)) (by rfl) (T.glo (a_glo_is_table T.c)) (F_is_table T.c).kp (B_is_table T.c) .nil pass0 (pa_cons (pv 2) (pa_cons (pv 6) (pa_cons (pe_callB (callK_len (K := K) (mg := mg) rfl rfl T G (hr.mono (by decide))) (by rfl) (T.free (a_free_len T.c)) boot_len (pa_cons (pv 0) pa_nil)) (pa_cons (pv 3) pa_nil)))))))
        (pw_or1 (pt_not (pt_val (pe_call (ok_is_table T G) (hr.mono (by decide)) (by rfl) (T.glo (a_glo_is_table T.c)) (F_is_table T.c).kp (B_is_table T.c) .nil pass0 (pa_cons (pv 2) (pa_cons (pv 7) (pa_cons (pv 3) (pa_cons (pe_fld (pv 0) rfl) pa_nil))))))))))
          (pss_one (ps_ret pe_bl)) pss_nil)
      (pss_cons (ps_if (PW.pt (pw_or (pt_cmpR op_gt (pv 3) (pe_callB (callK_len (K := K) (mg := mg) rfl rfl T G (hr.mono (by decide))) (by rfl) (T.free (a_free_len T.c)) boot_len (pa_cons (pv 0) pa_nil)) (nomark _))
        (pw_or (pt_cmpR op_gt (pv 3) (pe_fld (pv 0) rfl) (nomark _))
        (pw_or1 (pt_cmpR (op_neT (monB_tup monB_num) (eqB_tup (monB_num) (rflB_num) (eqN T G.p)) (hr.mono (by decide)))
          (pe_call (ok_times T G) (hr.mono (by decide)) (by rfl) (T.glo (a_glo_times T.c)) (F_times T.c).kp (B_times T.c) .nil pass0 (pa_cons (pv 2) (pa_cons (pv 6) (pa_cons (pv 7) (pa_cons (pe_fld (pv 0) rfl) pa_nil))))) (pe_fld (pv 0) rfl) (nomark _))))))
          (pss_one (ps_ret pe_bl)) pss_nil)
      (pss_one (ps_ret (pe_call (ok_is_unit T G) hr (by rfl) (T.glo (a_glo_is_unit T.c)) (F_is_unit T.c).kp (B_is_unit T.c) .nil pass0 (pa_cons (pv 2) (pa_cons
        (pe_call (ok_times T G) (hr.mono (by decide)) (by rfl) (T.glo (a_glo_times T.c)) (F_times T.c).kp (B_times T.c) .nil pass0 (pa_cons (pv 2) (pa_cons
          (pe_call (ok_times T G) (hr.mono (by decide)) (by rfl) (T.glo (a_glo_times T.c)) (F_times T.c).kp (B_times T.c) .nil pass0 (pa_cons (pv 2) (pa_cons (pv 4) (pa_cons (pe_fld (pv 0) rfl) (pa_cons (pe_fld (pv 0) rfl) pa_nil)))))
          (pa_cons (pv 5) (pa_cons (pv 3) pa_nil))))) pa_nil)))))))))), ?_⟩
    obtain ⟨t, ht, hk, _⟩ := tyD T hd
    refine ⟨_, rfl, u, _, t, _, _, rfl, .ty "tuple", ht, hk, _, rfl, ?_⟩
    cases hTp : isTup d with
    | false =>
      refine iteT ?_
      have := q H (Same.refl _)
      rw [holds_tup hTp] at this
      exact this
    | true =>
      refine iteF ?_
      obtain ⟨l, rfl⟩ := isTup_eq hTp
      obtain ⟨b, us, rfl, hb, al⟩ := RepD.al (a := 0) hd
      refine ⟨_, rfl, b, us, rfl, .inr (SqT.of hb), rfl, _, rfl, ?_⟩
      by_cases hn : l.length = 6
      · refine ite2 (fun z => absurd z (by rw [al.len, hn]; simp)) (fun _ => ?_)
        obtain ⟨d0, d1, dl, dr, dt, dw, rfl⟩ := six hn
        obtain ⟨u0, u1, u2, u3, u4, u5, rfl, r0', r1, r2, r3, r4, r5⟩ := al6 al
        refine ⟨_, rfl, b, _, _, u0, rfl, rfl, SqT.of hb, rfl, d0, r0', rfl, _, rfl, ?_⟩
        have hq := q
        rw [holds_six] at hq
        cases hR : isRk d0 with
        | false =>
          refine iteT ?_
          have := hq H (Same.refl _)
          rw [hR] at this
          exact this
        | true =>
          rw [hR] at hq
          refine iteF ?_
          obtain ⟨t1, ht1, _, k1, k2⟩ := tyD T r1
          refine ⟨_, rfl, b, _, _, u1, rfl, rfl, SqT.of hb, rfl, u1, t1, _, _, rfl, ht1, k1, k2, _, rfl, ?_⟩
          rw [plain_bool]
          cases hP : plainD d1 with
          | none =>
            refine iteT ?_
            have := hq H (Same.refl _)
            rw [hP] at this
            exact this
          | some r =>
            refine iteF ?_
            have e1 := r1.plain hP
            subst e1
            have hq2 : ∀ H', Same H H' → Q (.bl (holdsT M.length wd M r dl dr dt dw)) H' := fun H' s' => by
              have := hq H' s'
              rw [hP] at this
              exact this
            clear hq
            refine ⟨_, rfl, a, _, dx, _, _, rfl, ha, cl, n1, rfl, ?_⟩
            refine ⟨_, rfl, _, rfl, b, _, rfl, SqT.of hb, fun z => absurd z.1 (by show ¬ (1 = 0); decide), fun _ p np => ?_⟩
            have s1 : Same H (upd H p (.tup (cutV [u0, .int r, u2, u3, u4, u5] (some 1) none))) := same_upd np
            have hp : (upd H p (.tup (cutV [u0, .int r, u2, u3, u4, u5] (some 1) none))) p = some (.tup [.int r, u2, u3, u4, u5]) := upd_same
            generalize (upd H p (.tup (cutV [u0, .int r, u2, u3, u4, u5] (some 1) none))) = H1 at *
            refine ⟨p, _, rfl, SqT.of hp, rfl, _, _, rfl, _, _, rfl, _, _, rfl, _, _, rfl, _, _, rfl, rfl, ?_⟩
            refine ⟨_, rfl, _, _, rfl, rfl, _, rfl, ?_⟩
            refine ite2 (fun e => ?_) (fun e => ?_)
            · have := hq2 H1 s1
              rw [holdsT_neg (of_decide_eq_true e)] at this
              exact this
            · obtain ⟨n, rfl⟩ := Int.eq_ofNat_of_zero_le (show 0 ≤ r by
                have := of_decide_eq_false (Bool.eq_false_iff.mpr e)
                omega)
              rw [holdsT_nat] at hq2
              have hLm : ∀ x, x ∈ [d0, d1, dl, dr, dt, dw] → Lim G 300 20 x := fun x hx => (hL.mem hx).mono (by decide) (by decide)
              refine ⟨_, rfl, _, rfl, _, rfl, _, rfl, _, M, wd, rfl, hm.mono s1, by omega, _, _, dl, n, M.length, rfl, hg.mono s1, r2.mono s1, hLm dl (by simp), fun H2 s2 => ⟨_, rfl, ?_⟩⟩
              have s12 := s1.trans s2
              cases hTL : tabD n M.length dl with
              | none =>
                have := hq2 H2 s12
                rw [hTL] at this
                exact iteT this
              | some L =>
                rw [hTL] at hq2
                refine iteF ?_
                refine ⟨_, rfl, _, rfl, _, rfl, a, _, dx, _, _, rfl, s12 _ _ ha, cl, n3, rfl, _, rfl, _, _, dr, wd, n, rfl, hg.mono s12, r3.mono s12, hLm dr (by simp), fun H3 s3 => ⟨_, rfl, ?_⟩⟩
                have s13 := s12.trans s3
                cases hTR : tabD wd n dr with
                | none =>
                  have := hq2 H3 s13
                  rw [hTR] at this
                  exact iteT this
                | some R =>
                  rw [hTR] at hq2
                  refine iteF ?_
                  refine ⟨_, rfl, _, rfl, _, rfl, _, M, wd, rfl, hm.mono s13, by omega, _, rfl, _, _, dt, M.length, n, rfl, hg.mono s13, r4.mono s13, hLm dt (by simp), fun H4 s4 => ⟨_, rfl, ?_⟩⟩
                  have s14 := s13.trans s4
                  cases hTT : tabD M.length n dt with
                  | none =>
                    have := hq2 H4 s14
                    rw [hTT] at this
                    exact iteT this
                  | some T' =>
                    rw [hTT] at hq2
                    refine iteF ?_
                    refine ⟨_, rfl, _, rfl, _, rfl, _, rfl, a, _, dx, _, _, rfl, s14 _ _ ha, cl, n3, rfl, _, _, dw, n, wd, rfl, hg.mono s14, r5.mono s14, hLm dw (by simp), fun H5 s5 => ⟨_, rfl, ?_⟩⟩
                    have s15 := s14.trans s5
                    cases hTW : tabD n wd dw with
                    | none =>
                      have := hq2 H5 s15
                      rw [hTW] at this
                      exact iteT this
                    | some W =>
                      rw [hTW] at hq2
                      have hq3 : ∀ H', Same H H' → Q (.bl (decide (mulK T' W wd = M) && decide (mulK (mulK L M wd) R n = onesK n))) H' := hq2
                      clear hq2
                      have hbig : ¬ (n ≤ M.length ∧ n ≤ wd) → decide (mulK (mulK L M wd) R n = onesK n) = false := fun hno => decide_eq_false fun e => hno (rank_le (G := G) (tabD_len hTL) (tabD_row hTL) rfl hrow (tabD_row hTR) e)
                      refine iteF ?_
                      refine ⟨_, rfl, _, rfl, _, M, wd, rfl, hm.mono s15, by omega, _, _, rfl, rfl, _, rfl, ?_⟩
                      by_cases h1 : n ≤ M.length
                      · rw [decide_eq_false (by omega)]
                        refine iteF ⟨_, rfl, _, rfl, a, _, dx, _, _, rfl, s15 _ _ ha, cl, n3, rfl, _, _, rfl, rfl, _, rfl, ?_⟩
                        by_cases h2 : n ≤ wd
                        · rw [decide_eq_false (by omega)]
                          refine iteF ?_
                          have bL := (tabD_bd (hL.mem (d := dl) (by simp)) hTL).2
                          have bR := (tabD_bd (hL.mem (d := dr) (by simp)) hTR).2
                          have bT := (tabD_bd (hL.mem (d := dt) (by simp)) hTT).2
                          have bW := (tabD_bd (hL.mem (d := dw) (by simp)) hTW).2
                          have lL := tabD_len hTL
                          have lR := tabD_len hTR
                          have lT := tabD_len hTT
                          have lW := tabD_len hTW
                          refine ⟨_, rfl, _, rfl, _, rfl, _, rfl, a, _, dx, _, _, rfl, s15 _ _ ha, cl, n3, rfl, ?_⟩
                          refine ⟨_, _, _, T', W, wd, 242, 242, rfl, hg.mono s15, (r4.mono s15).tabT hTT, (r5.mono s15).tabT hTW, by omega, by omega, by omega, fun r hr => by rw [tabD_row hTT r hr, lW], tabD_row hTW, bT, bW, (by rw [lW]; omega), fun v6 H6 s6 h6 => ?_⟩
                          have s16 := s15.trans s6
                          refine ⟨_, rfl, a, _, dx, _, _, rfl, s16 _ _ ha, cl, n2, rfl, _, tabT_cmp h6 (mo_tabT _ _ _ _ s16 hT) (by rw [mulK_len, lT]) mulK_row hrow, fun H7 s7 => ⟨_, rfl, ?_⟩⟩
                          have s17 := s16.trans s7
                          by_cases hprod : mulK T' W wd = M
                          · rw [decide_eq_true hprod] at hq3 ⊢
                            refine iteF ?_
                            refine ⟨_, rfl, _, rfl, _, rfl, _, rfl, _, rfl, a, _, dx, _, _, rfl, s17 _ _ ha, cl, n2, rfl, _, rfl, a, _, dx, _, _, rfl, s17 _ _ ha, cl, n3, rfl, ?_⟩
                            have bM : ∀ r, r ∈ M → ∀ x, x ∈ r → bd G 1 1 x := fun r hr x hx => (hb1 r hr x hx).mono (by decide) (by decide)
                            refine ⟨_, _, _, L, M, wd, 242, 1, rfl, hg.mono s17, (r2.mono s17).tabT hTL, mo_tabT _ _ _ _ s17 hT, by omega, by omega, by omega, tabD_row hTL, hrow, bL, bM, by omega, fun v8 H8 s8 h8 => ?_⟩
                            have s18 := s17.trans s8
                            have bLM := mulK_bd (w := wd) (tabD_row hTL) bL bM
                            refine ⟨_, rfl, _, rfl, ?_⟩
                            refine ⟨_, _, _, mulK L M wd, R, n, 732, 242, rfl, hg.mono s18, h8, (r3.mono s18).tabT hTR, by rw [mulK_len]; omega, by omega, by omega, fun r hr => by rw [mulK_row r hr, lR], tabD_row hTR, fun r hr x hx => (bLM r hr x hx).mono (by omega) (by omega), bR, (by rw [lR]; omega), fun v9 H9 s9 h9 => ?_⟩
                            have s19 := s18.trans s9
                            refine ⟨_, _, mulK (mulK L M wd) R n, n, rfl, hg.mono s19, h9, by rw [mulK_len, mulK_len, lL], by omega, mulK_row, fun H10 s10 => ?_⟩
                            have := hq3 H10 (s19.trans s10)
                            rw [Bool.true_and] at this
                            exact this
                          · rw [decide_eq_false hprod] at hq3 ⊢
                            exact iteT (hq3 H7 s17)
                        · rw [decide_eq_true (by omega)]
                          have := hq3 H5 s15
                          rw [hbig (fun z => h2 z.2), Bool.and_false] at this
                          exact iteT this
                      · rw [decide_eq_true (by omega)]
                        have := hq3 H5 s15
                        rw [hbig (fun z => h1 z.1), Bool.and_false] at this
                        exact iteT this
      · refine ite2 (fun _ => ?_) (fun z => absurd z (by rw [al.len]; simp; omega))
        have := q H (Same.refl _)
        rw [holds_len hn] at this
        exact this
end
end K51

set_option Elab.async false
set_option linter.all false
set_option maxRecDepth 100000
set_option maxHeartbeats 4000000
set_option autoImplicit false
namespace K51
open PySem PySem.Spec PyProof.Rows L2
theorem boot_abs : bootBuiltins "abs" = some (.builtin "abs") := by decide +kernel
theorem boot_min : bootBuiltins "min" = some (.builtin "min") := by decide +kernel
/-- the list of numbers still to be drawn -/
def Nums (H : Hp) (L : Addr) : Prop := ∃ ns : List Int, H L = some (.lst (ns.map V.int))
theorem Nums.l {H : Hp} {L : Addr} (h : Nums H L) : ∃ xs, H L = some (.lst xs) := let ⟨ns, e⟩ := h; ⟨_, e⟩
theorem Nums.mono {H H' : Hp} {L : Addr} (h : Nums H L) (e : Same H H') : Nums H' L := let ⟨ns, h⟩ := h; ⟨ns, e _ _ h⟩
theorem kp_upd {H : Hp} {L : Addr} {ys : List V} : Kp L H (upd H L (.lst ys)) := ⟨fun b o h n => by rw [upd_ne n]; exact h, fun _ _ => ⟨ys, upd_same⟩⟩
theorem kp_refl {H : Hp} {L : Addr} : Kp L H H := ⟨fun _ _ h _ => h, fun xs h => ⟨xs, h⟩⟩
section
variable {P : Program} {w : World} {K : PySem.W.Frag} {mg : Str → Option Value} {base : Heap}
def spNumbers (K : PySem.W.Frag) : L2.Sp := fun vs H Q _ => ∃ a, ∃ ss : List Int, vs = [.ref a] ∧ SqL K H a (ss.map V.int) ∧ ss.length ≤ 63 ∧ ∀ L H', Same H H' → Nums H' L → H L = none → Q (.ref L) H'
theorem ok_numbers (T : Tx K mg) : FnOk P w K mg base CX0 1 (He.fAd K ("_law_numbers", none)) (fdOf K (He.fAd K ("_law_numbers", none))) ["_law_script"] (spNumbers K) := by
  refine fok (F_law_numbers T.c) sc_law_numbers (fun vs H Q E h => ?_) (fun cdv A outer s H vs Q E hr h => ?_)
  · obtain ⟨a, ss, rfl, _⟩ := h
    rfl
  · obtain ⟨a, ss, rfl, hS, hz, q⟩ := h
    have nd := sc_law_numbers.nd
    refine ⟨_, pss_cons (ps_set (i := 1) nd rfl (.inl rfl) (pe_lst pa_nil))
      (pss_cons (ps_for PassesOwn.never rfl (pi_range1 (by rfl) (T.free (a_free_range T.c)) (pa_cons (pe_callB (call_min2 rfl) (by rfl) (T.free (a_free_min T.c)) boot_min (pa_cons (pe_callB (lenS (K := K) rfl) (by rfl) (T.free (a_free_len T.c)) boot_len (pa_cons (pv 0) pa_nil)) (pa_cons pe_int pa_nil))) pa_nil)) (pg_name (i := 2) nd rfl (.inl rfl))
        (pss_cons (ps_set (i := 3) nd rfl (.inl rfl) (pe_callB call_abs (by rfl) (T.free (a_free_abs T.c)) boot_abs (pa_cons (pe_ix (ixL (K := K) rfl) (pv 0) (pv 2) (fun _ _ => rfl)) pa_nil)))
        (pss_one (ps_if (pt_cmpR op_ge (pv 3) (pe_op op_pow pe_int pe_int) (nomark _))
          (pss_one (ps_for PassesOwn.never rfl (pi_range1 (by rfl) (T.free (a_free_range T.c)) (pa_cons pe_int pa_nil)) (pg_name (i := 4) nd rfl (.inl rfl))
            (pss_one (ps_if (pt_cmpR op_gt (pv 3) pe_int (nomark _)) (pss_cons (ps_expr (pe_bm PySem.F.plainAttrs_list PySem.F.slot_list_append PySem.F.type_list_append mt_append (pv 1) (pa_cons (pe_op op_mod (pv 3) pe_int) pa_nil)))
              (pss_one (ps_set (i := 3) nd rfl (.inl rfl) (pe_op op_fdiv (pv 3) pe_int)))) pss_nil))))
          (pss_one (ps_for PassesOwn.never rfl (pi_range1 (by rfl) (T.free (a_free_range T.c)) (pa_cons pe_int pa_nil)) (pg_name (i := 5) nd rfl (.inl rfl))
            (pss_cons (ps_set (i := 3) nd rfl (.inl rfl) (pe_op op_mod (pe_op op_add (pe_op op_add (pe_op op_mul (pv 3) pe_int) (pe_op op_mul pe_int (pe_op op_add (pv 5) (pv 2)))) pe_int) pe_int))
            (pss_cons (ps_set (i := 6) nd rfl (.inl rfl) (pe_op op_mod (pe_op op_add (pe_op op_mul (pv 3) pe_int) (pe_op op_fdiv (pv 3) pe_int)) pe_int))
            (pss_one (ps_expr (pe_bm PySem.F.plainAttrs_list PySem.F.slot_list_append PySem.F.type_list_append mt_append (pv 1) (pa_cons (pe_op op_mod (pv 6) pe_int) pa_nil))))))))))))
      (pss_one (ps_ret (pv 1)))), ?_⟩
    refine ⟨Nat.zero_le _, fun W nW => ?_⟩
    have sW : Same H (upd H W (.lst [])) := same_upd nW
    have hlen : (ss.map V.int).length = ss.length := List.length_map ..
    refine ⟨_, rfl, a, _, rfl, .inl (Same.seq sW hS), _, _, rfl, ?_⟩
    rw [hlen, if_neg (show ¬ (63 : Int) < (ss.length : Int) by omega)]
    refine ⟨_, rfl, by omega, by omega, ?_⟩
    refine for_range (lo := 0) (n := ss.length) (fun i σ H' => Same H H' ∧ ∃ y2 y3 y4 y5 y6, σ = [some (.ref a), some (.ref W), y2, y3, y4, y5, y6] ∧ ∃ ns : List Int, H' W = some (.lst (ns.map V.int)) ∧ ns.length ≤ 60 * i)
      ⟨sW, none, none, none, none, none, rfl, [], upd_same, Nat.zero_le _⟩ (fun i σ H' hi hP => ?_) fun σ H' hP => ?_
    · obtain ⟨s1, y2, y3, y4, y5, y6, rfl, ns, hW, hns⟩ := hP
      have e0 : (0 : Int) + (i : Int) = i := Int.zero_add _
      rw [e0]
      have hsi : (ss.map V.int)[i]? = some (.int (ss[i]'hi)) := by
        rw [List.getElem?_map, List.getElem?_eq_getElem hi]
        rfl
      dsimp only [gName]
      refine ⟨_, rfl, _, rfl, a, _, _, _, rfl, rfl, Same.seq s1 hS, atI_nat hsi, _, rfl, ?_⟩
      generalize (if ss[i]'hi < 0 then -(ss[i]'hi) else ss[i]'hi) = c0
      refine ⟨_, rfl, _, _, rfl, rfl, ⟨by decide, by decide, by decide⟩, _, _, rfl, rfl, _, rfl, ?_⟩
      refine ite2 (fun _ => ?_) (fun _ => ?_)
      · refine ⟨_, rfl, by decide, by decide, ?_⟩
        refine for_range (lo := 0) (n := 60) (fun j σ H'' => Same H H'' ∧ ∃ c y4, σ = [some (.ref a), some (.ref W), some (.int i), some (.int c), y4, y5, y6] ∧ ∃ ns : List Int, H'' W = some (.lst (ns.map V.int)) ∧ ns.length ≤ 60 * i + j)
          ⟨s1, c0, y4, rfl, ns, hW, by omega⟩ (fun j σ H'' hj hP => ?_) fun σ H'' hP => ?_
        · obtain ⟨s2, c, y4', rfl, ns2, hW2, hn2⟩ := hP
          dsimp only [gName]
          refine ⟨_, rfl, _, _, rfl, rfl, _, rfl, ?_⟩
          refine ite2 (fun _ => ?_) (fun _ => ?_)
          · refine ⟨.ref W, rfl, .inl ⟨rfl, _, SqL.of hW2⟩, ?_⟩
            refine ⟨_, rfl, _, _, rfl, rfl, (by show (0 : Int) < 1009; decide), W, _, _, rfl, rfl, hW2, small_line' (by rw [List.length_map]; omega), ?_⟩
            refine ⟨_, rfl, _, _, rfl, rfl, ⟨by decide, by decide⟩, ?_⟩
            refine ⟨same_mut nW s2, _, _, rfl, ns2 ++ [c % 1009], ?_, by rw [List.length_append, List.length_singleton]; omega⟩
            rw [List.map_append]
            exact upd_same
          · exact ⟨s2, c, _, rfl, ns2, hW2, by omega⟩
        · obtain ⟨s2, c, y4', rfl, ns2, hW2, hn2⟩ := hP
          exact ⟨s2, _, _, _, _, _, rfl, ns2, hW2, by omega⟩
      · refine ⟨_, rfl, by decide, by decide, ?_⟩
        refine for_range (lo := 0) (n := 5) (fun j σ H'' => Same H H'' ∧ ∃ c y5 y6, σ = [some (.ref a), some (.ref W), some (.int i), some (.int c), y4, y5, y6] ∧ ∃ ns : List Int, H'' W = some (.lst (ns.map V.int)) ∧ ns.length ≤ 60 * i + j)
          ⟨s1, c0, y5, y6, rfl, ns, hW, by omega⟩ (fun j σ H'' hj hP => ?_) fun σ H'' hP => ?_
        · obtain ⟨s2, c, y5', y6', rfl, ns2, hW2, hn2⟩ := hP
          dsimp only [gName]
          refine ⟨_, rfl, _, _, rfl, rfl, .inr ⟨by decide, by decide⟩, _, rfl, _, rfl, _, _, rfl, rfl, _, _, rfl, rfl, .inl ⟨by decide, by decide⟩, _, _, rfl, rfl, _, _, rfl, rfl, _, _, rfl, rfl, (by show (0 : Int) < 2147483647; decide), ?_⟩
          refine ⟨_, rfl, _, _, rfl, rfl, .inr ⟨by decide, by decide⟩, _, rfl, _, _, rfl, rfl, ⟨by decide, by decide⟩, _, _, rfl, rfl, _, _, rfl, rfl, (by show (0 : Int) < 2147483629; decide), ?_⟩
          refine ⟨.ref W, rfl, .inl ⟨rfl, _, SqL.of hW2⟩, ?_⟩
          refine ⟨_, rfl, _, _, rfl, rfl, (by show (0 : Int) < 1009; decide), W, _, _, rfl, rfl, hW2, small_line' (by rw [List.length_map]; omega), ?_⟩
          refine ⟨same_mut nW s2, _, _, _, rfl, ns2 ++ [_], by rw [List.map_append]; exact upd_same, by rw [List.length_append, List.length_singleton]; omega⟩
        · obtain ⟨s2, c, y5', y6', rfl, ns2, hW2, hn2⟩ := hP
          exact ⟨s2, _, _, _, _, _, rfl, ns2, hW2, by omega⟩
    · obtain ⟨s1, y2, y3, y4, y5, y6, rfl, ns, hW, hns⟩ := hP
      exact ⟨_, rfl, q W H' s1 ⟨ns, hW⟩ nW⟩
/-- next -/
def spNext : L2.Sp := fun vs H Q _ => ∃ L m, vs = [.ref L, .int m] ∧ 0 < m ∧ Nums H L ∧ ∀ (k : Int) H', 0 ≤ k → k < m → Kp L H H' → Nums H' L → Q (.int k) H'
theorem ok_next (T : Tx K mg) : FnOk P w K mg base CX0 1 (He.fAd K ("_law_next", none)) (fdOf K (He.fAd K ("_law_next", none))) ["_law_numbers_here", "_law_many"] spNext := by
  refine fok (F_law_next T.c) sc_law_next (fun vs H Q E h => ?_) (fun cdv A outer s H vs Q E hr h => ?_)
  · obtain ⟨L, m, rfl, _⟩ := h
    rfl
  · obtain ⟨L, m, rfl, hm, ⟨ns, hL⟩, q⟩ := h
    refine ⟨_, pss_cons (ps_if (pt_cmpR op_eq (pe_callB (lenS (K := K) rfl) (by rfl) (T.free (a_free_len T.c)) boot_len (pa_cons (pv 0) pa_nil)) pe_int (nomark _)) (pss_one (ps_ret pe_int)) pss_nil)
      (pss_one (ps_ret (pe_op op_mod (pe_bm PySem.F.plainAttrs_list PySem.F.slot_list_pop PySem.F.type_list_pop mt_popAt (pv 0) (pa_cons pe_int pa_nil)) (pv 1)))), ?_⟩
    refine ⟨_, rfl, L, _, rfl, .inl (SqL.of hL), rfl, _, rfl, ?_⟩
    cases ns with
    | nil =>
      rw [decide_eq_true (by rfl)]
      exact iteT (q 0 H (Int.le_refl _) hm kp_refl ⟨[], hL⟩)
    | cons z ns =>
      refine ite2 (fun e => absurd (of_decide_eq_true e) (by simp; omega)) (fun _ => ?_)
      refine ⟨.ref L, rfl, .inl ⟨rfl, _, SqL.of hL⟩, ?_⟩
      refine ⟨L, _, 0, 0, .int z, rfl, rfl, hL, by decide, by decide, by
        unfold seqIndex?
        rw [List.length_map, List.length_cons]
        simp, rfl, ?_⟩
      refine ⟨_, rfl, _, _, rfl, rfl, hm, ?_⟩
      exact q _ _ (Int.emod_nonneg _ (by omega)) (Int.emod_lt_of_pos _ hm) kp_upd ⟨ns, upd_same⟩
/-- prime -/
def PrmP (p : Nat) : Prop := p = 0 ∨ p = 2 ∨ p = 3 ∨ p = 5
def spPrm : L2.Sp := fun vs H Q _ => ∃ L, vs = [.ref L] ∧ Nums H L ∧ ∀ (p : Nat) H', PrmP p → Kp L H H' → Nums H' L → Q (.int p) H'
theorem ok_prime (T : Tx K mg) : FnOk P w K mg base CX0 2 (He.fAd K ("_law_prime", none)) (fdOf K (He.fAd K ("_law_prime", none))) ["_law_numbers_here"] spPrm := by
  refine fok (F_law_prime T.c) sc_law_prime (fun vs H Q E h => ?_) (fun cdv A outer s H vs Q E hr h => ?_)
  · obtain ⟨L, rfl, _⟩ := h
    rfl
  · obtain ⟨L, rfl, hN, q⟩ := h
    obtain ⟨ns, hL⟩ := id hN
    refine ⟨_, pss_one (ps_ret (pe_ix (ixL (K := K) rfl) (pe_lst (pa_cons pe_int (pa_cons pe_int (pa_cons pe_int (pa_cons pe_int pa_nil))))) (pe_call (ok_next T) hr (by rfl) (T.glo (a_glo_law_next T.c)) (F_law_next T.c).kp (B_law_next T.c) .nil pass0 (pa_cons (pv 0) (pa_cons pe_int pa_nil))) (fun _ _ => rfl))), ?_⟩
    refine ⟨(by show 4 ≤ sizeLine; decide), fun l nl => ?_⟩
    have sl : Same H (upd H l (.lst [.int 0, .int 2, .int 3, .int 5])) := same_upd nl
    have hl : (upd H l (.lst [.int 0, .int 2, .int 3, .int 5])) l = some (.lst [.int 0, .int 2, .int 3, .int 5]) := upd_same
    have hne : l ≠ L := fun z => by
      rw [z, hL] at nl
      cases nl
    refine ⟨_, rfl, L, 4, rfl, by decide, hN.mono sl, fun k H' h0 h4 kp hN' => ?_⟩
    have hl' := kp.keep _ _ hl hne
    have fin : ∀ p : Nat, PrmP p → Q (.int p) H' := fun p hp => q p H' hp ((Same.kp L sl).trans kp) hN'
    have hk : k = 0 ∨ k = 1 ∨ k = 2 ∨ k = 3 := by omega
    rcases hk with rfl | rfl | rfl | rfl
    · exact ⟨l, _, _, _, rfl, rfl, SqL.of hl', rfl, fin 0 (.inl rfl)⟩
    · exact ⟨l, _, _, _, rfl, rfl, SqL.of hl', rfl, fin 2 (.inr (.inl rfl))⟩
    · exact ⟨l, _, _, _, rfl, rfl, SqL.of hl', rfl, fin 3 (.inr (.inr (.inl rfl)))⟩
    · exact ⟨l, _, _, _, rfl, rfl, SqL.of hl', rfl, fin 5 (.inr (.inr (.inr rfl)))⟩
/-- ground -/
def spGrd (K : PySem.W.Frag) : L2.Sp := fun vs H Q _ => ∃ p : Nat, vs = [.int p] ∧ PrmP p ∧ ∀ v H', Same H H' → GAt K H' v p → Q v H'
theorem ok_ground (T : Tx K mg) : FnOk P w K mg base CX0 5 (He.fAd K ("_law_ground", none)) (fdOf K (He.fAd K ("_law_ground", none))) ["_law_p"] (spGrd K) := by
  refine fok (F_law_ground T.c) sc_law_ground (fun vs H Q E h => ?_) (fun cdv A outer s H vs Q E hr h => ?_)
  · obtain ⟨p, rfl, _⟩ := h
    rfl
  · obtain ⟨p, rfl, hp, q⟩ := h
    obtain ⟨ds, hds, hb⟩ := B1_G_init T.c
    refine ⟨_, pss_cons (ps_if (pt_cmpR op_eq (pv 0) pe_int (nomark _)) (pss_one (ps_ret (pe_make0 (He.mkr_ok (a_mkr_Ground T.c)) (ok_G_init T) hr (by rfl) (T.glo (a_glo_Ground T.c)) hb hds pass0))) pss_nil)
      (pss_one (ps_ret (pe_make (He.mkr_ok (a_mkr_Ground T.c)) (ok_G_init T) hr (by rfl) (T.glo (a_glo_Ground T.c)) (B_G_init T.c) .nil pass0 (pa_cons (pv 0) pa_nil)))), ?_⟩
    refine ⟨_, rfl, rfl, _, rfl, ?_⟩
    by_cases h0 : p = 0
    · subst h0
      rw [decide_eq_true (by rfl)]
      refine iteT ?_
      exact mk_G (p := 0) (.inl rfl) fun v H' e h => q v H' e h
    · refine ite2 (fun e => absurd (of_decide_eq_true e) (by simp; omega)) (fun _ => ?_)
      refine ⟨_, rfl, ?_⟩
      exact mk_G (p := p) (.inr (by rcases hp with e | e | e | e <;> subst e <;> simp [SmP] at *)) fun v H' e h => q v H' e h
end
end K51

set_option Elab.async false
set_option linter.all false
set_option maxRecDepth 100000
set_option maxHeartbeats 4000000
set_option autoImplicit false
namespace K51
open PySem PySem.Spec PyProof.Rows L2
/-! ### comprehensions over a range that draw numbers -/
theorem kp_new {H1 H : Hp} {L D : Addr} {zs : List V} (hL : Nums H1 L) (h : H1 D = none) (k : Kp L H1 H) : Kp L H1 (upd H D (.lst zs)) := ⟨fun b o e n => by
  rw [upd_ne (ne_of_none e h)]
  exact k.keep b o e n, fun xs e => by
  rw [upd_ne (ne_of_none e h)]
  exact k.lst xs e⟩
theorem nums_new {H : Hp} {L D : Addr} {o : HO} (hL : Nums H L) (h : D ≠ L) : Nums (upd H D o) L := by
  obtain ⟨ns, e⟩ := hL
  exact ⟨ns, by rw [upd_ne (fun z => h z.symm)]; exact e⟩
section
variable {K : PySem.W.Frag} {tt : TT} {te : TE} {vs : List Nat} {σ : L2.St} {H H1 : Hp} {j L n : Nat} {lo : Int} {wi : TI} {Q : VK} {Good : V → Hp → Prop}
theorem tlc_rk (hi : ∀ R : It → Hp → Prop, R (Itr lo n) H1 → wi σ H R) (hL : Nums H1 L) (S1 : ∀ v H H', Kp L H H' → Nums H L → Good v H → Good v H') (S2 : ∀ v H D zs zs', H D = some (.lst zs) → v ≠ .ref D → Good v H → Good v (upd H D (.lst zs')))
    (hn : n ≤ 10000) (hw : ∀ x, wipe ((wipe σ vs).set j (some x)) vs = wipe σ vs)
    (step : ∀ i, i < n → ∀ H, Kp L H1 H → Nums H L → ∀ Q : VK, (∀ v H', Kp L H H' → Nums H' L → Good v H' → (∀ D, H1 D = none → H D ≠ none → v ≠ .ref D) → Q v H') → te ((wipe σ vs).set j (some (.int (lo + (i : Nat))))) H Q)
    (d : ∀ D H zs, H1 D = none → Kp L H1 H → Nums H L → H D = some (.lst zs) → zs.length = n → (∀ v, v ∈ zs → Good v H) → Q (.ref D) H) : tLc wi (gName j) tYes te vs σ H Q := by
  refine hi _ fun D hD => ?_
  have hDL : D ≠ L := fun z => by
    obtain ⟨ns, e⟩ := hL
    rw [← z, hD] at e
    cases e
  refine L2.lc_range (Qd := fun H => Q (.ref D) H) (fun i H => Kp L H1 H ∧ Nums H L ∧ ∃ zs, H D = some (.lst zs) ∧ zs.length = i ∧ ∀ v, v ∈ zs → Good v H ∧ v ≠ .ref D) ⟨kp_new hL hD kp_refl, nums_new hL hDL, [], upd_same, rfl, fun v h => by cases h⟩ (fun i H hin p => ?_) fun H p => ?_
  · obtain ⟨k, hN, zs, hz, hl, hg⟩ := p
    refine ⟨hw _, ?_⟩
    show (if true = true then _ else (Kp L H1 H ∧ Nums H L ∧ ∃ zs, H D = some (.lst zs) ∧ zs.length = i + 1 ∧ ∀ v, v ∈ zs → Good v H ∧ v ≠ .ref D))
    rw [if_pos rfl]
    refine step i hin H k hN _ fun v H' k' hN' g' hv => ?_
    have hz' : H' D = some (.lst zs) := k'.keep _ _ hz hDL
    have hvD : v ≠ .ref D := hv D hD (by rw [hz]; exact fun z => nomatch z)
    refine ⟨zs, hz', by rw [hl]; exact small_line' (by omega), kp_new hL hD (k.trans k'), nums_new hN' hDL, zs ++ [v], upd_same, by rw [List.length_append, hl]; rfl, fun u hu => ?_⟩
    rcases List.mem_append.mp hu with hu | hu
    · exact ⟨S2 u H' D zs _ hz' (hg u hu).2 (S1 u H H' k' hN (hg u hu).1), (hg u hu).2⟩
    · rw [List.mem_singleton.mp hu]
      exact ⟨S2 v H' D zs _ hz' hvD g', hvD⟩
  · obtain ⟨k, hN, zs, hz, hl, hg⟩ := p
    exact d D H zs hD k hN hz hl fun v hv => (hg v hv).1
end
theorem al_of {β : Type} {R : V → β → Prop} : ∀ {zs : List V}, (∀ v, v ∈ zs → ∃ y, R v y) → ∃ ys, Al R zs ys
  | [], _ => ⟨[], Al.nil⟩
  | v :: zs, h => by
    obtain ⟨y, hy⟩ := h v (List.mem_cons_self ..)
    obtain ⟨ys, hys⟩ := al_of (zs := zs) fun u hu => h u (List.mem_cons_of_mem _ hu)
    exact ⟨y :: ys, .cons hy hys⟩
section
variable {P : Program} {w : World} {K : PySem.W.Frag} {mg : Str → Option Value} {base : Heap}
def Drawn (x : Int) : Prop := -1 ≤ x ∧ x ≤ 2
def spMat : L2.Sp := fun vs H Q _ => ∃ L, ∃ n m : Nat, vs = [.ref L, .int n, .int m] ∧ n ≤ 3 ∧ m ≤ 3 ∧ Nums H L ∧ ∀ v rows H', Kp L H H' → Nums H' L → ITab v rows H' → rows.length = n → (∀ r, r ∈ rows → r.length = m) → (∀ r, r ∈ rows → ∀ x, x ∈ r → Drawn x) → Q v H'
def GInt : V → Hp → Prop := fun v _ => ∃ x, v = .int x ∧ Drawn x
def GRow (L m : Nat) : V → Hp → Prop := fun v H => ∃ a, ∃ xs : List Int, v = .ref a ∧ a ≠ L ∧ H a = some (.lst (xs.map V.int)) ∧ xs.length = m ∧ ∀ x, x ∈ xs → Drawn x
theorem ok_matrix (T : Tx K mg) : FnOk P w K mg base CX0 2 (He.fAd K ("_law_matrix", none)) (fdOf K (He.fAd K ("_law_matrix", none))) ["_law_numbers_here", "_law_n", "_law_m"] spMat := by
  refine fok (F_law_matrix T.c) sc_law_matrix (fun vs H Q E h => ?_) (fun cdv A outer s H vs Q E hr h => ?_)
  · obtain ⟨L, n, m, rfl, _⟩ := h
    rfl
  · obtain ⟨L, n, m, rfl, hn, hm, hN, q⟩ := h
    have nd := sc_law_matrix.nd
    refine ⟨_, pss_one (ps_ret (pe_lc (own := [("_law_i", 3)]) (g := gName 3) (tt := tYes) rfl nd (pi_range1 (by rfl) (T.free (a_free_range T.c)) (pa_cons (pv 1) pa_nil)) (blkOk_by (N := ["_law_numbers_here", "_law_n", "_law_m", "_law_i", "_law_j"]) (sc := defScope s_law_matrix) (by decide +kernel)) (fun _ _ _ _ _ => pg_name (i := 3) nd rfl (.inl rfl)) (fun _ _ _ _ _ => pts_nil)
        (fun _ _ _ _ _ => pe_lc (own := [("_law_j", 4)]) (g := gName 4) (tt := tYes) rfl nd (pi_range1 (by rfl) (T.free (a_free_range T.c)) (pa_cons (pv 2) pa_nil)) (blkOk_by (N := ["_law_numbers_here", "_law_n", "_law_m", "_law_i", "_law_j"]) (by rfl)) (fun _ _ _ _ _ => pg_name (i := 4) nd rfl (.inl rfl)) (fun _ _ _ _ _ => pts_nil)
          (fun _ _ _ _ _ => pe_ix (ixL (K := K) rfl) (pe_lst (pa_cons pe_int (pa_cons pe_int (pa_cons (pe_un un_neg pe_int) (pa_cons pe_int (pa_cons pe_int (pa_cons pe_int (pa_cons pe_int pa_nil)))))))) (pe_call (ok_next T) hr (by rfl) (T.glo (a_glo_law_next T.c)) (F_law_next T.c).kp (B_law_next T.c) .nil pass0 (pa_cons (pv 0) (pa_cons pe_int pa_nil))) (fun _ _ => rfl))))), ?_⟩
    refine p_ret ?_
    refine tlc_rk (lo := 0) (n := n) (L := L) (H1 := H) (Good := GRow L m) (fun R r => ⟨_, rfl, _, rfl, by omega, by omega, r⟩) hN (fun v H H' k hN g => ?_) (fun v H D zs zs' hD hv g => ?_) (by omega) (by intro x; rfl) (fun i hi H2 k2 hN2 Q2 c2 => ?_) (fun D H2 zs hD k2 hN2 hz hl hg => ?_)
    · obtain ⟨a, xs, rfl, ha, h1, h2⟩ := g
      exact ⟨a, xs, rfl, ha, k.keep _ _ h1 ha, h2⟩
    · obtain ⟨a, xs, rfl, ha, h1, h2⟩ := g
      exact ⟨a, xs, rfl, ha, by rw [upd_ne (fun z => hv (by rw [z]))]; exact h1, h2⟩
    · refine tlc_rk (lo := 0) (n := m) (L := L) (H1 := H2) (Good := GInt) (fun R r => ⟨_, rfl, _, rfl, by omega, by omega, r⟩) hN2 (fun v H H' k hN g => g) (fun v H D zs zs' hD hv g => g) (by omega) (by intro x; rfl) (fun j hj H3 k3 hN3 Q3 c3 => ?_) (fun D H3 zs hD k3 hN3 hz hl hg => ?_)
      · refine ⟨_, rfl, (by show 7 ≤ sizeLine; decide), fun l nl => ?_⟩
        have sl : Same H3 (upd H3 l (.lst [.int 0, .int 1, .int (-1), .int 0, .int 2, .int 1, .int 0])) := same_upd nl
        have hl : (upd H3 l (.lst [.int 0, .int 1, .int (-1), .int 0, .int 2, .int 1, .int 0])) l = some (.lst [.int 0, .int 1, .int (-1), .int 0, .int 2, .int 1, .int 0]) := upd_same
        have hne : l ≠ L := fun z => by
          obtain ⟨ns, e⟩ := hN3
          rw [z, e] at nl
          cases nl
        refine ⟨_, rfl, L, 7, rfl, by decide, hN3.mono sl, fun k H' h0 h7 kp hN' => ?_⟩
        have hl' := kp.keep _ _ hl hne
        have fin : ∀ x : Int, Drawn x → Q3 (.int x) H' := fun x hx => c3 (.int x) H' ((Same.kp L sl).trans kp) hN' ⟨x, rfl, hx⟩ fun D _ _ z => nomatch z
        have hk : k = 0 ∨ k = 1 ∨ k = 2 ∨ k = 3 ∨ k = 4 ∨ k = 5 ∨ k = 6 := by omega
        rcases hk with rfl | rfl | rfl | rfl | rfl | rfl | rfl
        · exact ⟨l, _, _, _, rfl, rfl, SqL.of hl', rfl, fin 0 (by unfold Drawn; omega)⟩
        · exact ⟨l, _, _, _, rfl, rfl, SqL.of hl', rfl, fin 1 (by unfold Drawn; omega)⟩
        · exact ⟨l, _, _, _, rfl, rfl, SqL.of hl', rfl, fin (-1) (by unfold Drawn; omega)⟩
        · exact ⟨l, _, _, _, rfl, rfl, SqL.of hl', rfl, fin 0 (by unfold Drawn; omega)⟩
        · exact ⟨l, _, _, _, rfl, rfl, SqL.of hl', rfl, fin 2 (by unfold Drawn; omega)⟩
        · exact ⟨l, _, _, _, rfl, rfl, SqL.of hl', rfl, fin 1 (by unfold Drawn; omega)⟩
        · exact ⟨l, _, _, _, rfl, rfl, SqL.of hl', rfl, fin 0 (by unfold Drawn; omega)⟩
      · obtain ⟨xs, alx⟩ := al_of hg
        have hxs : zs = xs.map V.int := al_int (H := H3) (alx.imp fun v x h => h.1)
        refine c2 (.ref D) H3 k3 hN3 ⟨D, xs, rfl, fun z => ?_, by rw [hz, hxs], by rw [← alx.len, hl], fun x hx => ?_⟩ fun E _ hE z => ?_
        · obtain ⟨ns, e⟩ := hN2
          rw [← z, hD] at e
          cases e
        · obtain ⟨i2, hi2, e2⟩ := List.getElem_of_mem hx
          obtain ⟨v, _, hv⟩ := alx.get (show xs[i2]? = some x by rw [← e2]; exact List.getElem?_eq_getElem hi2)
          exact hv.2
        · injection z with z
          rw [← z, hD] at hE
          exact hE rfl
    · have hex : ∀ v, v ∈ zs → ∃ xs : List Int, IRow v xs H2 ∧ xs.length = m ∧ ∀ x, x ∈ xs → Drawn x := fun v hv => by
        obtain ⟨a, xs, e1, _, e2, e3, e4⟩ := hg v hv
        exact ⟨xs, ⟨a, e1, e2⟩, e3, e4⟩
      obtain ⟨rows, alr⟩ := al_of hex
      refine q (.ref D) rows H2 k2 hN2 ⟨D, zs, rfl, hz, alr.imp fun v x h => h.1⟩ (by rw [← alr.len, hl]) (fun r hr => ?_) fun r hr => ?_
      · obtain ⟨i2, hi2, e2⟩ := List.getElem_of_mem hr
        obtain ⟨v, _, hv⟩ := alr.get (show rows[i2]? = some r by rw [← e2]; exact List.getElem?_eq_getElem hi2)
        exact hv.2.1
      · obtain ⟨i2, hi2, e2⟩ := List.getElem_of_mem hr
        obtain ⟨v, _, hv⟩ := alr.get (show rows[i2]? = some r by rw [← e2]; exact List.getElem?_eq_getElem hi2)
        exact hv.2.2
/-- low -/
def spLow : L2.Sp := fun vs H Q _ => ∃ p : Nat, ∃ n d : Int, vs = [.int p, .int n, .int d] ∧ (p = 0 → d ≠ 0 ∧ d.natAbs ≤ 2 ^ 8990) ∧ ∀ t, H t = none → Q (.ref t) (upd H t (.tup [.int (low p n d).1, .int (low p n d).2]))
theorem gcd_ok {d : Int} {g : Nat} (h0 : 0 < g) (hg : g ≤ d.natAbs) (hb : d.natAbs ≤ 2 ^ 8990) {n : Int} : CDivW n (g : Int) := by
  refine wide_div (b := 8991) (by omega) ?_ (by decide) (by decide)
  rw [Int.natAbs_natCast]
  exact Nat.lt_of_le_of_lt hg (Nat.lt_of_le_of_lt hb (Nat.pow_lt_pow_right (by decide) (by decide)))
theorem ok_low (T : Tx K mg) : FnOk P w K mg base CX0 1 (He.fAd K ("_law_low", none)) (fdOf K (He.fAd K ("_law_low", none))) ["_law_p", "_law_n", "_law_d"] spLow := by
  refine fok (F_law_low T.c) sc_law_low (fun vs H Q E h => ?_) (fun cdv A outer s H vs Q E hr h => ?_)
  · obtain ⟨p, n, d, rfl, _⟩ := h
    rfl
  · obtain ⟨p, n, d, rfl, hd, q⟩ := h
    have nd := sc_law_low.nd
    refine ⟨_, pss_cons (ps_if (pt_cmpR op_gt (pv 0) pe_int (nomark _)) (pss_one (ps_ret (pe_tup (pa_cons (pe_op op_mod (pe_callTy call_int1 (by rfl) (T.free (a_free_int T.c)) boot_tint (pa_cons (pv 1) pa_nil)) (pv 0)) (pa_cons pe_int pa_nil))))) pss_nil)
      (pss_cons (ps_if (pt_cmpR op_lt (pv 2) pe_int (nomark _)) (pss_one (ps_par (i := 1) (j := 2) (by rfl) nd rfl rfl (by decide) rfl rfl (pa_cons (pe_un un_neg (pv 1)) (pa_cons (pe_un un_neg (pv 2)) pa_nil)) (by rfl))) pss_nil)
      (pss_cons (ps_par (i := 3) (j := 4) (by rfl) nd rfl rfl (by decide) rfl rfl (pa_cons (pe_callB call_abs (by rfl) (T.free (a_free_abs T.c)) boot_abs (pa_cons (pv 1) pa_nil)) (pa_cons (pv 2) pa_nil)) (by rfl))
      (pss_cons (ps_while PassesOwn.never (pt_cmpR op_ne (pv 4) pe_int (nomark _)) (pss_one (ps_par (i := 3) (j := 4) (by rfl) nd rfl rfl (by decide) rfl rfl (pa_cons (pv 4) (pa_cons (pe_op op_mod (pe_callTy call_int1 (by rfl) (T.free (a_free_int T.c)) boot_tint (pa_cons (pv 3) pa_nil)) (pv 4)) pa_nil)) (by rfl))))
      (pss_one (ps_ret (pe_tup (pa_cons (pe_op op_fdivW (pv 1) (pv 3)) (pa_cons (pe_op op_fdivW (pv 2) (pv 3)) pa_nil)))))))), ?_⟩
    refine ⟨_, rfl, _, _, rfl, rfl, _, rfl, ?_⟩
    by_cases hp : p = 0
    · subst hp
      rw [decide_eq_false (by omega)]
      refine iteF ?_
      obtain ⟨hd0, hdb⟩ := hd rfl
      have main : ∀ n' d' : Int, 0 < d' → d'.natAbs ≤ 2 ^ 8990 → low 0 n d = (n' / ((Nat.gcd n'.natAbs d'.natAbs : Nat) : Int), d' / ((Nat.gcd n'.natAbs d'.natAbs : Nat) : Int)) → ∀ tl : TS, (∀ a b : Int, a = ((Nat.gcd n'.natAbs d'.natAbs : Nat) : Int) → tl { nx := fun _ H' => Q .non H', rt := Q } [some (.int 0), some (.int n'), some (.int d'), some (.int a), some (.int b)] H) →
          tSeq (tPar 3 4 (tCons (tCB (fun xs H Q => ∃ i, xs = [.int i] ∧ Q (.int (if i < 0 then -i else i)) H) (tCons (tVar 1) tNil)) (tCons (tVar 2) tNil))) (tSeq (tWhile (tTest (tOp rNe (tVar 4) (tC (.int 0)))) (tPar 3 4 (tCons (tVar 4) (tCons (tOp (rI (fun _ j => 0 < j) fun i j => .int (i % j)) (tCB (fun xs H Q => (∃ i, xs = [.int i] ∧ Q (.int i) H) ∨ ∃ k, xs = [.bl k] ∧ Q (.int (if k then 1 else 0)) H) (tCons (tVar 3) tNil)) (tVar 4)) tNil)))) tl)
            { nx := fun _ H' => Q .non H', rt := Q } [some (.int 0), some (.int n'), some (.int d'), none, none] H := fun n' d' h1 h2 h3 tl k => by
        refine ⟨_, rfl, _, rfl, _, rfl, _, _, rfl, ?_⟩
        have habs : (if n' < 0 then -n' else n') = (n'.natAbs : Int) := by
          split <;> omega
        rw [habs]
        refine while_by (fun σ H' => H' = H ∧ ∃ a b : Nat, σ = [some (.int 0), some (.int n'), some (.int d'), some (.int a), some (.int b)] ∧ Nat.gcd a b = Nat.gcd n'.natAbs d'.natAbs) (fun σ _ => match σ with
          | [_, _, _, _, some (.int b)] => b.toNat
          | _ => 0) ⟨rfl, n'.natAbs, d'.natAbs, by
            show [_, _, _, _, _] = [_, _, _, _, _]
            rw [Int.natAbs_of_nonneg (Int.le_of_lt h1)], rfl⟩ (fun σ H' hP => ?_) fun σ H Q Q' h c => ?_
        · obtain ⟨rfl, a, b, rfl, hg⟩ := hP
          refine ⟨_, rfl, rfl, _, rfl, ?_⟩
          refine ite2 (fun e => ?_) (fun e => ?_)
          rotate_left
          · have hb : b = 0 := by
              by_cases hb : b = 0
              · exact hb
              · exact absurd (by simp; omega) e
            subst hb
            rw [Nat.gcd_zero_right] at hg
            exact k _ _ (by rw [hg])
          · have hb : b ≠ 0 := fun z => by
              subst z
              simp at e
            have hbp : (0 : Int) < (b : Int) := by omega
            refine ⟨_, rfl, _, rfl, .inl ⟨_, rfl, _, rfl, _, _, rfl, rfl, hbp, _, _, rfl, ?_⟩⟩
            refine ⟨⟨rfl, b, a % b, rfl, ?_⟩, ?_⟩
            · rw [← hg, Nat.gcd_comm b, ← Nat.gcd_rec, Nat.gcd_comm]
            · show ((a : Int) % (b : Int)).toNat < (b : Int).toNat
              have := Nat.mod_lt a (by omega : b > 0)
              rw [← Int.natCast_emod]
              omega
        · obtain ⟨x, hx, hs, k, hk, q⟩ := c
          exact ⟨x, hx, hs, k, hk, h _ _ q⟩
      have fin : ∀ n' d' : Int, 0 < d' → d'.natAbs ≤ 2 ^ 8990 → low 0 n d = (n' / ((Nat.gcd n'.natAbs d'.natAbs : Nat) : Int), d' / ((Nat.gcd n'.natAbs d'.natAbs : Nat) : Int)) → ∀ a b : Int, a = ((Nat.gcd n'.natAbs d'.natAbs : Nat) : Int) →
          tRet (tTup (tCons (tOp (rI CDivW fun i j => .int (i / j)) (tVar 1) (tVar 3)) (tCons (tOp (rI CDivW fun i j => .int (i / j)) (tVar 2) (tVar 3)) tNil))) { nx := fun _ H' => Q .non H', rt := Q } [some (.int 0), some (.int n'), some (.int d'), some (.int a), some (.int b)] H := fun n' d' h1 h2 h3 a b ha => by
        subst ha
        have g0 : 0 < Nat.gcd n'.natAbs d'.natAbs := Nat.gcd_pos_of_pos_right _ (by omega)
        have g1 : Nat.gcd n'.natAbs d'.natAbs ≤ d'.natAbs := Nat.gcd_le_right _ (by omega)
        refine ⟨_, rfl, _, rfl, _, _, rfl, rfl, gcd_ok g0 g1 h2, _, rfl, _, rfl, _, _, rfl, rfl, gcd_ok g0 g1 h2, (by show 2 ≤ sizeLine; decide), fun t nt => ?_⟩
        have := q t nt
        rw [h3] at this
        exact this
      refine ⟨_, rfl, _, _, rfl, rfl, _, rfl, ?_⟩
      refine ite2 (fun e => ?_) (fun e => ?_)
      · have e' : d < 0 := of_decide_eq_true e
        refine ⟨_, rfl, _, rfl, _, rfl, _, rfl, _, _, rfl, ?_⟩
        have h3 : low 0 n d = ((-n) / ((Nat.gcd (-n).natAbs (-d).natAbs : Nat) : Int), (-d) / ((Nat.gcd (-n).natAbs (-d).natAbs : Nat) : Int)) := by
          unfold low
          rw [if_pos rfl, if_pos e', if_pos e']
        exact main (-n) (-d) (by omega) (by rw [Int.natAbs_neg]; exact hdb) h3 _ fun a b ha => fin (-n) (-d) (by omega) (by rw [Int.natAbs_neg]; exact hdb) h3 a b ha
      · have e' : ¬ d < 0 := fun z => e (decide_eq_true z)
        have h3 : low 0 n d = (n / ((Nat.gcd n.natAbs d.natAbs : Nat) : Int), d / ((Nat.gcd n.natAbs d.natAbs : Nat) : Int)) := by
          unfold low
          rw [if_pos rfl, if_neg e', if_neg e']
        exact main n d (by omega) hdb h3 _ fun a b ha => fin n d (by omega) hdb h3 a b ha
    · rw [decide_eq_true (by omega)]
      refine iteT ?_
      refine ⟨_, rfl, .inl ⟨_, rfl, _, rfl, _, _, rfl, rfl, (by omega), (by show 2 ≤ sizeLine; decide), fun t nt => ?_⟩⟩
      have := q t nt
      unfold low at this
      rw [if_neg hp] at this
      exact this
end
end K51

set_option Elab.async false
set_option linter.all false
set_option maxRecDepth 100000
set_option maxHeartbeats 4000000
set_option autoImplicit false
namespace K51
open PySem PySem.Spec PyProof.Rows L2
def isNon : V → Bool
  | .non => true
  | _ => false
section
variable {X : Cx}
/-- None in a list of Nones, lists and tuples -/
def NoneOrSeq (H : Hp) (z : V) : Prop := z = .non ∨ ∃ a us, z = .ref a ∧ (H a = some (.tup us) ∨ H a = some (.lst us))
theorem mem_nonS {A : Around} {pins : List (Addr × Obj)} {σ : L2.St} {H : Hp} {s : Shared} (I : Inv X pins σ H s) (hu : A.units < cLine) : ∀ {xs : List V} {us : List Value}, Vals xs us → (∀ z ∈ xs, NoneOrSeq H z) → (∀ u ∈ us, SeqAt.EqAt A s u .none (PySem.Numpy.isNone u)) ∧ us.any PySem.Numpy.isNone = xs.any isNon
  | _, _, .nil, _ => ⟨(fun u hu' => by cases hu'), rfl⟩
  | y :: xs, u :: us, .cons r t, f => by
    obtain ⟨h1, h2⟩ := mem_nonS I hu t fun z hz => f z (List.mem_cons_of_mem _ hz)
    have h0 : SeqAt.EqAt A s u .none (PySem.Numpy.isNone u) ∧ PySem.Numpy.isNone u = isNon y := by
      rcases f y (List.mem_cons_self ..) with rfl | ⟨a, ys, rfl, ha | ha⟩
      · cases r
        exact ⟨SeqAt.EqAt.same _, rfl⟩
      · cases r
        obtain ⟨its, rv, pl, _⟩ := I.tuple (SqT.of ha)
        exact ⟨SeqAt.EqAt.tuple_none pl hu, rfl⟩
      · cases r
        obtain ⟨its, rv, pl, _⟩ := I.list (SqL.of ha)
        exact ⟨SeqAt.EqAt.list_none pl.isList hu, rfl⟩
    refine ⟨fun u' hu' => ?_, ?_⟩
    · rcases List.mem_cons.mp hu' with e | hu'
      · subst e
        exact h0.1
      · exact h1 u' hu'
    · rw [List.any_cons, List.any_cons, h2, h0.2]
def rNoneInS (K : PySem.W.Frag) : R2 := fun x y H Q => ∃ p xs, x = .non ∧ y = .ref p ∧ SqL K H p xs ∧ (∀ z ∈ xs, NoneOrSeq H z) ∧ Q (.bl (xs.any isNon)) H
theorem op_noneInS (hr : Room 1 X.A) : OpR X (compareOp .In) (rNoneInS X.K) := by
  intro pins s σ H x y v u Q I rx ry h
  obtain ⟨p, xs, rfl, rfl, hq, f, q⟩ := h
  cases rx
  cases ry
  obtain ⟨its, rv, hl, _⟩ := I.list hq
  have sb : Sub X 1 X.A := ⟨hr, rfl⟩
  obtain ⟨h1, h2⟩ := mem_nonS (A := X.A.in1) I sb.in1.room.units0 rv f
  refine SeqAt.in_listAt PySem.Numpy.isNone hl.isList (fun z hz => h1 z (by simpa using hz)) ⟨.bl _, H, I, rfl, ?_⟩
  rw [show its.toArray.any PySem.Numpy.isNone = its.any PySem.Numpy.isNone by simp, h2]
  exact q
end
section
variable {F : Type} [Lean.Grind.CommRing F] [DecidableEq F] {K : PySem.W.Frag} {G : Gnd F}
/-! ### numbers as the law writes them -/
def PNum (G : Gnd F) : V → F → Hp → Prop := fun v x H => ∃ a, v = .ref a ∧ H a = some (.tup [.int (G.nm x), .int (G.dn x)])
def PRow (G : Gnd F) : V → List F → Hp → Prop := fun v xs H => ∃ a vs, v = .ref a ∧ H a = some (.lst vs) ∧ Al (fun v x => PNum G v x H) vs xs
def PTab (G : Gnd F) : V → List (List F) → Hp → Prop := fun v M H => ∃ a vs, v = .ref a ∧ H a = some (.lst vs) ∧ Al (fun v x => PRow G v x H) vs M
theorem mo_pnum : MoR (PNum G) := fun v y H H' e ⟨a, h1, h2⟩ => ⟨a, h1, e _ _ h2⟩
theorem mo_prow : MoR (PRow G) := fun v y H H' e ⟨a, vs, h1, h2, h3⟩ => ⟨a, vs, h1, e _ _ h2, h3.imp fun v x h => mo_pnum v x H H' e h⟩
theorem mo_ptab : MoR (PTab G) := fun v y H H' e ⟨a, vs, h1, h2, h3⟩ => ⟨a, vs, h1, e _ _ h2, h3.imp fun v x h => mo_prow v x H H' e h⟩
theorem pnum_mut {H : Hp} {D : Addr} {zs : List V} {x : HO} {v : V} {y : F} (hD : H D = some (.lst zs)) (h : PNum G v y H) : PNum G v y (upd H D x) := by
  obtain ⟨a, e, ha⟩ := h
  exact ⟨a, e, upd_other ha hD fun xs z => by cases z⟩
theorem prow_mut {H : Hp} {D : Addr} {zs : List V} {x : HO} {v : V} {y : List F} (hD : H D = some (.lst zs)) (hn : v ≠ .ref D) (h : PRow G v y H) : PRow G v y (upd H D x) := by
  obtain ⟨a, vs, e, ha, al⟩ := h
  refine ⟨a, vs, e, ?_, al.imp fun v x h => pnum_mut hD h⟩
  rw [upd_ne (fun z => hn (by rw [e, z]))]
  exact ha
theorem stay_pnum {H1 : Hp} : Stay H1 Yes (PNum G) := ⟨mo_pnum, fun v y H D zs zs' _ hD _ h => pnum_mut hD h⟩
theorem stay_prow {H1 : Hp} : Stay H1 Nt (PRow G) := ⟨mo_prow, fun v y H D zs zs' _ hD n h => prow_mut hD n h⟩
/-- or None -/
def PO (G : Gnd F) : V → Option F → Hp → Prop := fun v o H => match o with
  | none => v = .non
  | some x => PNum G v x H
def PORow (G : Gnd F) : V → Option (List F) → Hp → Prop := fun v o H => match o with
  | none => v = .non
  | some x => PRow G v x H
def POTab (G : Gnd F) : V → Option (List (List F)) → Hp → Prop := fun v o H => match o with
  | none => v = .non
  | some x => PTab G v x H
theorem stay_po {H1 : Hp} : Stay H1 Yes (PO G) := ⟨fun v y H H' e h => match y, h with
  | none, h => h
  | some x, h => mo_pnum v x H H' e h, fun v y H D zs zs' _ hD _ h => match y, h with
  | none, h => h
  | some x, h => pnum_mut hD h⟩
theorem stay_porow {H1 : Hp} : Stay H1 Nt (PORow G) := ⟨fun v y H H' e h => match y, h with
  | none, h => h
  | some x, h => mo_prow v x H H' e h, fun v y H D zs zs' _ hD n h => match y, h with
  | none, h => h
  | some x, h => prow_mut hD n h⟩
theorem mo_potab : MoR (POTab G) := fun v y H H' e h => match y, h with
  | none, h => h
  | some x, h => mo_ptab v x H H' e h
theorem pn_low (n : Int) : low G.p n 1 = (G.nm (G.ic n), G.dn (G.ic n)) := G.int n
theorem pn_bit {n : Int} (h : n = 0 ∨ n = 1) : G.nm (G.ic n) = n ∧ G.dn (G.ic n) = 1 := by
  have e := G.int n
  unfold low at e
  by_cases hp : G.p = 0
  · rw [if_pos hp] at e
    rcases h with rfl | rfl
    · have h1 := congrArg Prod.fst e
      have h2 := congrArg Prod.snd e
      simp at h1 h2
      exact ⟨h1.symm, h2.symm⟩
    · have h1 := congrArg Prod.fst e
      have h2 := congrArg Prod.snd e
      simp at h1 h2
      exact ⟨h1.symm, h2.symm⟩
  · rw [if_neg hp] at e
    have h1 : n % (G.p : Int) = G.nm (G.ic n) := congrArg Prod.fst e
    have h2 : 1 = G.dn (G.ic n) := congrArg Prod.snd e
    refine ⟨?_, h2.symm⟩
    rw [← h1]
    have hp2 : 2 ≤ (G.p : Int) := by
      have := G.hp
      omega
    exact Int.emod_eq_of_lt (by omega) (by omega)
theorem pn_zero : G.nm 0 = 0 ∧ G.dn 0 = 1 := by
  have := pn_bit (G := G) (n := 0) (.inl rfl)
  rw [ic_zero] at this
  exact this
theorem pn_one : G.nm 1 = 1 ∧ G.dn 1 = 1 := by
  have := pn_bit (G := G) (n := 1) (.inr rfl)
  rw [G.ic_one] at this
  exact this
theorem pn_size {b : Nat} {x : F} (h : bd G b b x) : (G.nm x).natAbs ≤ 2 ^ (b + 3) ∧ (G.dn x).natAbs ≤ 2 ^ (b + 3) := by
  by_cases hp : G.p = 0
  · obtain ⟨h1, h2⟩ := h hp
    have h3 : (2 : Nat) ^ b ≤ 2 ^ (b + 3) := Nat.pow_le_pow_right (by decide) (by omega)
    exact ⟨Nat.le_trans h1 h3, Nat.le_trans h2 h3⟩
  · obtain ⟨h1, h2, h3⟩ := G.r0 hp x
    have h4 : (2 : Nat) ^ 3 ≤ 2 ^ (b + 3) := Nat.pow_le_pow_right (by decide) (by omega)
    have h5 : G.p ≤ 7 := by
      have := G.hp
      omega
    constructor
    · refine Nat.le_trans ?_ h4
      show _ ≤ 8
      omega
    · rw [h1]
      refine Nat.le_trans ?_ h4
      decide
theorem pn_pos (x : F) : 0 < G.dn x := by
  by_cases hp : G.p = 0
  · exact G.q0 hp x
  · rw [(G.r0 hp x).1]
    decide
end
section
variable {P : Program} {w : World} {K : PySem.W.Frag} {mg : Str → Option Value} {base : Heap} {F : Type} [Lean.Grind.CommRing F] [DecidableEq F]
theorem new_ne {H H1 : Hp} {p : Addr} (e : Same H H1) (h : H1 p = none) : ∀ D, H D ≠ none → V.ref p ≠ .ref D := fun D hD z => by
  injection z with z
  subst z
  cases q : H p with
  | none => exact hD q
  | some u =>
    rw [e _ _ q] at h
    cases h
theorem non_ne {H : Hp} : ∀ D, H D ≠ none → V.non ≠ .ref D := fun D _ z => nomatch z
/-- a table whose lists are not the one at L -/
def PTabN (G : Gnd F) (L : Addr) : V → List (List F) → Hp → Prop := fun v M H => ∃ a vs, v = .ref a ∧ a ≠ L ∧ H a = some (.lst vs) ∧ Al (fun v x => PRow G v x H ∧ v ≠ .ref L) vs M
/-- pairs -/
def spPairs (G : Gnd F) : L2.Sp := fun vs H Q _ => ∃ v rows, vs = [.int G.p, v] ∧ ITab v rows H ∧ rows.length ≤ 100 ∧ (∀ r, r ∈ rows → r.length ≤ 100) ∧ ∀ v H', Same H H' → (∀ L, H L ≠ none → PTabN G L v (rows.map fun r => r.map G.ic) H') → Q v H'
theorem ok_pairs (T : Tx K mg) (G : Gnd F) : FnOk P w K mg base CX0 2 (He.fAd K ("_law_pairs", none)) (fdOf K (He.fAd K ("_law_pairs", none))) ["_law_p", "_law_rows"] (spPairs G) := by
  refine fok (F_law_pairs T.c) sc_law_pairs (fun vs H Q E h => ?_) (fun cdv A outer s H vs Q E hr h => ?_)
  · obtain ⟨v, rows, rfl, _⟩ := h
    rfl
  · obtain ⟨v, rows, rfl, ⟨a, rs, rfl, ha, al⟩, hl, hrl, q⟩ := h
    have nd := sc_law_pairs.nd
    refine ⟨_, pss_one (ps_ret (pe_lc (own := [("_law_row", 2)]) (g := gName 2) (tt := tYes) rfl nd (pi_list (pv 1)) (blkOk_by (N := ["_law_p", "_law_rows", "_law_row", "_law_x"]) (sc := defScope s_law_pairs) (by decide +kernel)) (fun _ _ _ _ _ => pg_name (i := 2) nd rfl (.inl rfl)) (fun _ _ _ _ _ => pts_nil)
        (fun _ _ _ _ _ => pe_lc (own := [("_law_x", 3)]) (g := gName 3) (tt := tYes) rfl nd (piL (K := K) rfl (pv 2)) (blkOk_by (N := ["_law_p", "_law_rows", "_law_row", "_law_x"]) (by rfl)) (fun _ _ _ _ _ => pg_name (i := 3) nd rfl (.inl rfl)) (fun _ _ _ _ _ => pts_nil)
          (fun _ _ _ _ _ => pe_call (ok_low T) hr (by rfl) (T.glo (a_glo_law_low T.c)) (F_law_low T.c).kp (B_law_low T.c) .nil pass0 (pa_cons (pv 0) (pa_cons (pv 3) (pa_cons pe_int pa_nil))))))), ?_⟩
    refine p_ret ?_
    refine tlc_l (xs := rs) (H1 := H) (ys := rows.map fun r => r.map G.ic) (R := fun v y H' => PRow G v y H' ∧ ∀ L, H L ≠ none → v ≠ .ref L) (N := Nt) (fun R r => ⟨.ref a, rfl, a, rfl, ⟨_, SqL.of ha⟩, r⟩) ⟨fun v y H H' e h => ⟨mo_prow v y H H' e h.1, h.2⟩, fun v y H D zs zs' _ hD n h => ⟨prow_mut hD n h.1, h.2⟩⟩ (SqL.of ha) (by rw [al.len, List.length_map]) (by rw [List.length_map]; omega) (by intro x; rfl) (fun j x y hx hy => ?_) (fun D H3 ws nD s3 hD alD => q _ _ s3 fun L hL => ⟨D, ws, rfl, (fun z => hL (by rw [← z]; exact nD)), hD, alD.imp fun v x h => ⟨h.1, h.2 L hL⟩⟩)
    intro H4 s4 Q4 k4
    obtain ⟨r, hr1, b, rfl, hb⟩ := al.got hx
    rw [List.getElem?_map, hr1] at hy
    have hy' := Option.some.inj hy
    have hrr := hrl r (List.mem_of_getElem? hr1)
    refine tlc_l (xs := r.map V.int) (H1 := H4) (ys := r.map G.ic) (R := PNum G) (N := Yes) (fun R r => ⟨.ref b, rfl, b, rfl, ⟨_, SqL.of (s4 _ _ hb)⟩, r⟩) stay_pnum (SqL.of (s4 _ _ hb)) (by rw [List.length_map, List.length_map]) (by rw [List.length_map]; omega) (by intro x; rfl) (fun j2 x2 y2 hx2 hy2 => ?_) (fun D H5 ws nD s5 hD alD => ?_)
    · intro H6 s6 Q6 k6
      rw [List.getElem?_map] at hx2 hy2
      cases hq : r[j2]? with
      | none =>
        rw [hq] at hx2
        cases hx2
      | some z =>
        rw [hq] at hx2 hy2
        have e1 := Option.some.inj hx2
        have e2 := Option.some.inj hy2
        subst e1
        refine ⟨_, rfl, _, rfl, G.p, z, 1, rfl, fun _ => ⟨by decide, Nat.one_le_two_pow⟩, fun t nt => k6 _ _ (same_upd nt) ?_ yes_all⟩
        rw [pn_low, ← e2]
        exact ⟨t, rfl, upd_same⟩
    · refine k4 _ _ s5 ?_ (nt_new nD)
      rw [← hy']
      exact ⟨⟨D, ws, rfl, hD, alD⟩, new_ne s4 nD⟩
/-- seen -/
def spSeen (K : PySem.W.Frag) (G : Gnd F) : L2.Sp := fun vs H Q _ => ∃ g v d, vs = [.int G.p, g, v] ∧ GAt K H g G.p ∧ RepD K G H v d ∧ ∀ u H', Same H H' → PO G u (memD d) H' → Q u H'
theorem ok_seen (T : Tx K mg) (G : Gnd F) : FnOk P w K mg base CX0 2 (He.fAd K ("_law_seen", none)) (fdOf K (He.fAd K ("_law_seen", none))) ["_law_p", "_law_ground_here", "_law_x"] (spSeen K G) := by
  refine fok (F_law_seen T.c) sc_law_seen (fun vs H Q E h => ?_) (fun cdv A outer s H vs Q E hr h => ?_)
  · obtain ⟨g, v, d, rfl, _⟩ := h
    rfl
  · obtain ⟨g, v, d, rfl, hg, hd, q⟩ := h
    obtain ⟨ga, gx, rfl, hga⟩ := id hg
    have clG : Cls K (He.ga K "Ground") := He.cls_ok (a_cls_Ground T.c)
    refine ⟨_, pss_cons (ps_if (pt_cmpR op_notBl (pe_meth (pv 1) clG (He.meth_ok (a_meth_G_is_member T.c)) (ok_is_member T G) hr (B_G_is_member T.c) .nil pass0 (pa_cons (pv 2) pa_nil)) pe_bl (nomark _)) (pss_one (ps_ret pe_non)) pss_nil)
      (pss_cons (ps_if (pt_cmpR op_gt (pv 0) pe_int (nomark _)) (pss_one (ps_ret (pe_tup (pa_cons (pe_fld (pv 2) rfl) (pa_cons pe_int pa_nil))))) pss_nil)
      (pss_one (ps_ret (pe_tup (pa_cons (pe_fld (pv 2) rfl) (pa_cons (pe_fld (pv 2) rfl) pa_nil)))))), ?_⟩
    refine ⟨_, rfl, ga, gx, _, rfl, hga, rfl, _, rfl, _, _, d, rfl, hg, hd, _, _, rfl, rfl, _, rfl, ?_⟩
    cases hm : memD d with
    | none =>
      refine iteT ?_
      exact q _ H (Same.refl _) (by rw [hm]; rfl)
    | some x =>
      refine iteF ?_
      have := memD_num hm
      subst this
      have hN : NumG K G H v x := by
        cases hd with
        | num h => exact h
      refine ⟨_, rfl, _, _, rfl, rfl, _, rfl, ?_⟩
      by_cases hp : G.p = 0
      · rw [decide_eq_false (by omega)]
        refine iteF ?_
        obtain ⟨a, dx, rfl, ha⟩ := hN.q hp
        have cl : Cls K (He.ga K "Ratio") := He.cls_ok (a_cls_Ratio T.c)
        refine ⟨_, rfl, a, _, dx, _, _, rfl, ha, cl, He.noat_ok (a_noat_Ratio_n T.c), rfl, _, rfl, a, _, dx, _, _, rfl, ha, cl, He.noat_ok (a_noat_Ratio_d T.c), rfl, (by show 2 ≤ sizeLine; decide), fun t nt => ?_⟩
        exact q _ _ (same_upd nt) (by rw [hm]; exact ⟨t, rfl, upd_same⟩)
      · rw [decide_eq_true (by omega)]
        refine iteT ?_
        obtain ⟨a, dx, rfl, ha⟩ := hN.r hp
        have cl : Cls K (He.ga K "Residue") := He.cls_ok (a_cls_Residue T.c)
        refine ⟨_, rfl, a, _, dx, _, _, rfl, ha, cl, He.noat_ok (a_noat_Residue_n T.c), rfl, (by show 2 ≤ sizeLine; decide), fun t nt => ?_⟩
        refine q _ _ (same_upd nt) ?_
        rw [hm]
        refine ⟨t, rfl, ?_⟩
        rw [(G.r0 hp x).1]
        exact upd_same
theorem al_none {α : Type} {R : V → Option α → Prop} (hR : ∀ v, R v none → v = .non) (hS : ∀ v x, R v (some x) → ∃ a, v = .ref a) : ∀ {zs : List V} {l : List (Option α)}, Al R zs l → zs.any isNon = (allSome l).isNone
  | [], [], _ => rfl
  | v :: zs, none :: l, h => by
    have := hR v (h.at_ 0 v none rfl rfl)
    subst this
    rfl
  | v :: zs, some x :: l, h => by
    obtain ⟨a, rfl⟩ := hS v x (h.at_ 0 v (some x) rfl rfl)
    have ih := al_none hR hS (zs := zs) (l := l) ⟨by have := h.len; simpa using this, fun i u y h1 h2 => h.at_ (i + 1) u y h1 h2⟩
    rw [List.any_cons, ih]
    show (false || _) = _
    rw [Bool.false_or]
    show _ = ((allSome l).map (x :: ·)).isNone
    cases allSome l <;> rfl
  | [], _ :: _, h => by
    have := h.len
    cases this
  | _ :: _, [], h => by
    have := h.len
    cases this
theorem al_some {α β : Type} {R : α → Option β → Prop} {zs : List α} {l : List (Option β)} {xs : List β} (h : Al R zs l) (e : allSome l = some xs) : Al (fun v x => R v (some x)) zs xs := by
  have := (allSome_iff _ _).mp e
  subst this
  exact h.unmap
end
end K51

set_option Elab.async false
set_option linter.all false
set_option maxRecDepth 100000
set_option maxHeartbeats 4000000
set_option autoImplicit false
namespace K51
open PySem PySem.Spec PyProof.Rows L2
section
variable {P : Program} {w : World} {K : PySem.W.Frag} {mg : Str → Option Value} {base : Heap} {F : Type} [Lean.Grind.CommRing F] [DecidableEq F]
def spLine (K : PySem.W.Frag) (G : Gnd F) : L2.Sp := fun vs H Q _ => ∃ g v d, ∃ n : Nat, vs = [.int G.p, g, v, .int n] ∧ GAt K H g G.p ∧ RepD K G H v d ∧ Lim G 300 20 d ∧ ∀ u H', Same H H' → PORow G u (rowD n d) H' → (∀ D, H D ≠ none → u ≠ .ref D) → Q u H'
def spTable (K : PySem.W.Frag) (G : Gnd F) : L2.Sp := fun vs H Q _ => ∃ g v d, ∃ h n : Nat, vs = [.int G.p, g, v, .int h, .int n] ∧ GAt K H g G.p ∧ RepD K G H v d ∧ Lim G 300 20 d ∧ ∀ u H', Same H H' → POTab G u (tabD h n d) H' → Q u H'

theorem ok_line (T : Tx K mg) (G : Gnd F) : FnOk P w K mg base CX0 3 (He.fAd K ("_law_line", none)) (fdOf K (He.fAd K ("_law_line", none))) ["_law_p", "_law_ground_here", "_law_value", "_law_width"] (spLine K G) := by
  refine fok (F_law_line T.c) sc_law_line (fun vs H Q E h => ?_) (fun cdv A outer s H vs Q E hr h => ?_)
  · obtain ⟨g, v, d, n, rfl, _⟩ := h
    rfl
  · obtain ⟨g, v, d, n, rfl, hg, hd, hL, q⟩ := h
    have nd := sc_law_line.nd
    refine ⟨_, pss_cons (ps_if (PW.pt (pw_or (pt_not (pt_val (pe_callB call_isi (by rfl) (T.free (a_free_isinstance T.c)) boot_isi (pa_cons (pv 2) (pa_cons (pe_bltn (v := .ty "tuple") (by rfl) (T.free (a_free_tuple T.c)) boot_ttuple rfl) pa_nil)))))
        (pw_or1 (pt_cmpR op_ne (pe_callB (lenS (K := K) rfl) (by rfl) (T.free (a_free_len T.c)) boot_len (pa_cons (pv 2) pa_nil)) (pv 3) (nomark _))))) (pss_one (ps_ret pe_non)) pss_nil)
      (pss_cons (ps_setLc (i := 4) (own := [("_law_x", 5)]) (g := gName 5) (tt := tYes) rfl nd rfl rfl (sw_true rfl rfl rfl (by decide +kernel)) (pi_tup (pv 2)) (blkOk_by (N := ["_law_p", "_law_ground_here", "_law_value", "_law_width", "_law_found", "_law_x"]) (sc := defScope s_law_line) (by decide +kernel)) (fun _ _ _ _ _ => pg_name (i := 5) nd rfl (.inl rfl)) (fun _ _ _ _ _ => pts_nil)
          (fun _ _ _ _ _ => pe_call (ok_seen T G) hr (by rfl) (T.glo (a_glo_law_seen T.c)) (F_law_seen T.c).kp (B_law_seen T.c) .nil pass0 (pa_cons (pv 0) (pa_cons (pv 1) (pa_cons (pv 5) pa_nil)))))
      (pss_cons (ps_if (pt_cmpR (op_noneInS (hr.mono (by decide))) pe_non (pv 4) (by rfl)) (pss_one (ps_ret pe_non)) pss_nil)
      (pss_one (ps_ret (pv 4))))), ?_⟩
    obtain ⟨t, ht, hk, _⟩ := tyD T hd
    refine ⟨_, rfl, v, _, t, _, _, rfl, .ty "tuple", ht, hk, _, rfl, ?_⟩
    cases hT : isTup d with
    | false =>
      refine iteT ?_
      have := q .non H (Same.refl _)
      rw [(isTup_ne hT).1] at this
      exact this rfl non_ne
    | true =>
      refine iteF ?_
      obtain ⟨l, rfl⟩ := isTup_eq hT
      obtain ⟨b, us, rfl, hb, al⟩ := RepD.al (a := 0) hd
      refine ⟨_, rfl, b, us, rfl, .inr (SqT.of hb), _, rfl, rfl, _, rfl, ?_⟩
      have hll := hL.len
      by_cases hn : l.length = n
      · refine ite2 (fun z => absurd z (by rw [al.len, hn]; simp)) (fun _ => ?_)
        refine p_next ?_
        dsimp only
        refine p_seq ?_
        refine p_asg ?_
        have hD : rowD n (.tup l) = allSome (l.map memD) := by
          rw [rowD_eq, if_pos hn]
        rw [hD] at q
        refine tlc_t (xs := us) (H1 := H) (ys := l.map memD) (R := PO G) (N := Yes) (fun R r => ⟨.ref b, rfl, b, rfl, ⟨_, SqT.of hb⟩, r⟩) stay_po (SqT.of hb) (by rw [al.len, List.length_map]) (by rw [List.length_map]; omega) (by intro x; rfl) (fun j x y hx hy => ?_) (fun e H3 ws ne s3 he ale => ?_)
        · intro H4 s4 Q4 k4
          obtain ⟨dd, hdd, hr2⟩ := al.got hx
          rw [List.getElem?_map, hdd] at hy
          have hy' := Option.some.inj hy
          refine ⟨_, rfl, _, rfl, _, rfl, _, _, dd, rfl, hg.mono s4, hr2.mono s4, fun u H5 s5 h5 => k4 _ H5 s5 ?_ yes_all⟩
          rw [← hy']
          exact h5
        · dsimp only [gName]
          refine ⟨_, rfl, e, ws, rfl, rfl, SqL.of he, fun z hz => ?_, _, rfl, ?_⟩
          · obtain ⟨i, hi, ei⟩ := List.getElem_of_mem hz
            obtain ⟨o, ho, hR⟩ := ale.got (show ws[i]? = some z by rw [← ei]; exact List.getElem?_eq_getElem hi)
            cases o with
            | none => exact .inl hR
            | some x =>
              obtain ⟨c, e1, e2⟩ := hR
              exact .inr ⟨c, _, e1, .inl e2⟩
          · rw [al_none (R := fun v o => PO G v o H3) (fun v h => h) (fun v x h => by
              obtain ⟨c, e1, _⟩ := id h
              exact ⟨c, e1⟩) ale]
            cases hs : allSome (l.map memD) with
            | none =>
              refine iteT ?_
              have := q .non H3 s3
              rw [hs] at this
              exact this rfl non_ne
            | some xs =>
              refine iteF ?_
              have := q (.ref e) H3 s3
              rw [hs] at this
              exact ⟨_, rfl, this ⟨e, ws, rfl, he, al_some ale hs⟩ (new_ne (Same.refl H) ne)⟩
      · refine ite2 (fun _ => ?_) (fun z => absurd z (by rw [al.len]; simp; omega))
        have := q .non H (Same.refl _)
        rw [rowD_eq, if_neg hn] at this
        exact this rfl non_ne
theorem ok_table (T : Tx K mg) (G : Gnd F) : FnOk P w K mg base CX0 4 (He.fAd K ("_law_table", none)) (fdOf K (He.fAd K ("_law_table", none))) ["_law_p", "_law_ground_here", "_law_value", "_law_height", "_law_width"] (spTable K G) := by
  refine fok (F_law_table T.c) sc_law_table (fun vs H Q E h => ?_) (fun cdv A outer s H vs Q E hr h => ?_)
  · obtain ⟨g, v, d, h, n, rfl, _⟩ := h
    rfl
  · obtain ⟨g, v, d, h, n, rfl, hg, hd, hL, q⟩ := h
    have nd := sc_law_table.nd
    refine ⟨_, pss_cons (ps_if (PW.pt (pw_or (pt_not (pt_val (pe_callB call_isi (by rfl) (T.free (a_free_isinstance T.c)) boot_isi (pa_cons (pv 2) (pa_cons (pe_bltn (v := .ty "tuple") (by rfl) (T.free (a_free_tuple T.c)) boot_ttuple rfl) pa_nil)))))
        (pw_or1 (pt_cmpR op_ne (pe_callB (lenS (K := K) rfl) (by rfl) (T.free (a_free_len T.c)) boot_len (pa_cons (pv 2) pa_nil)) (pv 3) (nomark _))))) (pss_one (ps_ret pe_non)) pss_nil)
      (pss_cons (ps_setLc (i := 5) (own := [("_law_row", 6)]) (g := gName 6) (tt := tYes) rfl nd rfl rfl (sw_true rfl rfl rfl (by decide +kernel)) (pi_tup (pv 2)) (blkOk_by (N := ["_law_p", "_law_ground_here", "_law_value", "_law_height", "_law_width", "_law_found", "_law_row"]) (sc := defScope s_law_table) (by decide +kernel)) (fun _ _ _ _ _ => pg_name (i := 6) nd rfl (.inl rfl)) (fun _ _ _ _ _ => pts_nil)
          (fun _ _ _ _ _ => pe_call (ok_line T G) hr (by rfl) (T.glo (a_glo_law_line T.c)) (F_law_line T.c).kp (B_law_line T.c) .nil pass0 (pa_cons (pv 0) (pa_cons (pv 1) (pa_cons (pv 6) (pa_cons (pv 4) pa_nil))))))
      (pss_cons (ps_if (pt_cmpR (op_noneInS (hr.mono (by decide))) pe_non (pv 5) (by rfl)) (pss_one (ps_ret pe_non)) pss_nil)
      (pss_one (ps_ret (pv 5))))), ?_⟩
    obtain ⟨t, ht, hk, _⟩ := tyD T hd
    refine ⟨_, rfl, v, _, t, _, _, rfl, .ty "tuple", ht, hk, _, rfl, ?_⟩
    cases hT : isTup d with
    | false =>
      refine iteT ?_
      have := q .non H (Same.refl _)
      rw [(isTup_ne hT).2] at this
      exact this rfl
    | true =>
      refine iteF ?_
      obtain ⟨l, rfl⟩ := isTup_eq hT
      obtain ⟨b, us, rfl, hb, al⟩ := RepD.al (a := 0) hd
      refine ⟨_, rfl, b, us, rfl, .inr (SqT.of hb), _, rfl, rfl, _, rfl, ?_⟩
      have hll := hL.len
      by_cases hn : l.length = h
      · refine ite2 (fun z => absurd z (by rw [al.len, hn]; simp)) (fun _ => ?_)
        refine p_next ?_
        dsimp only
        refine p_seq ?_
        refine p_asg ?_
        have hD : tabD h n (.tup l) = allSome (l.map (rowD n)) := by
          rw [tabD_eq, if_pos hn]
        rw [hD] at q
        refine tlc_t (xs := us) (H1 := H) (ys := l.map (rowD n)) (R := PORow G) (N := Nt) (fun R r => ⟨.ref b, rfl, b, rfl, ⟨_, SqT.of hb⟩, r⟩) stay_porow (SqT.of hb) (by rw [al.len, List.length_map]) (by rw [List.length_map]; omega) (by intro x; rfl) (fun j x y hx hy => ?_) (fun e H3 ws ne s3 he ale => ?_)
        · intro H4 s4 Q4 k4
          obtain ⟨dd, hdd, hr2⟩ := al.got hx
          rw [List.getElem?_map, hdd] at hy
          have hy' := Option.some.inj hy
          refine ⟨_, rfl, _, rfl, _, rfl, _, rfl, _, _, dd, n, rfl, hg.mono s4, hr2.mono s4, hL.mem (List.mem_of_getElem? hdd), fun u H5 s5 h5 hne => k4 _ H5 s5 ?_ fun D _ hD => hne D hD⟩
          rw [← hy']
          exact h5
        · dsimp only [gName]
          refine ⟨_, rfl, e, ws, rfl, rfl, SqL.of he, fun z hz => ?_, _, rfl, ?_⟩
          · obtain ⟨i, hi, ei⟩ := List.getElem_of_mem hz
            obtain ⟨o, ho, hR⟩ := ale.got (show ws[i]? = some z by rw [← ei]; exact List.getElem?_eq_getElem hi)
            cases o with
            | none => exact .inl hR
            | some x =>
              obtain ⟨c, cs, e1, e2, _⟩ := hR
              exact .inr ⟨c, _, e1, .inr e2⟩
          · rw [al_none (R := fun v o => PORow G v o H3) (fun v h => h) (fun v x h => by
              obtain ⟨c, _, e1, _⟩ := id h
              exact ⟨c, e1⟩) ale]
            cases hs : allSome (l.map (rowD n)) with
            | none =>
              refine iteT ?_
              have := q .non H3 s3
              rw [hs] at this
              exact this rfl
            | some xs =>
              refine iteF ?_
              have := q (.ref e) H3 s3
              rw [hs] at this
              exact ⟨_, rfl, this ⟨e, ws, rfl, he, al_some ale hs⟩⟩
      · refine ite2 (fun _ => ?_) (fun z => absurd z (by rw [al.len]; simp; omega))
        have := q .non H (Same.refl _)
        rw [tabD_eq, if_neg hn] at this
        exact this rfl
def spP_plus (G : Gnd F) : L2.Sp := fun vs H Q _ => ∃ va vb x y, ∃ b1 b2 : Nat, vs = [.int G.p, va, vb] ∧ PNum G va x H ∧ PNum G vb y H ∧ bd G b1 b1 x ∧ bd G b2 b2 y ∧ b1 + b2 ≤ 8980 ∧ ∀ v H', Same H H' → PNum G v (x + y) H' → Q v H'
theorem ok_law_plus (T : Tx K mg) (G : Gnd F) : FnOk P w K mg base CX0 2 (He.fAd K ("_law_plus", none)) (fdOf K (He.fAd K ("_law_plus", none))) ["_law_p", "_law_a", "_law_b"] (spP_plus G) := by
  refine fok (F_law_plus T.c) sc_law_plus (fun vs H Q E h => ?_) (fun cdv A outer s H vs Q E hr h => ?_)
  · obtain ⟨va, vb, x, y, b1, b2, rfl, _⟩ := h
    rfl
  · obtain ⟨va, vb, x, y, b1, b2, rfl, ⟨a, rfl, ha⟩, ⟨b, rfl, hb⟩, c1, c2, hbd, q⟩ := h
    obtain ⟨sxn, sxd⟩ := pn_size c1
    obtain ⟨syn, syd⟩ := pn_size c2
    have hbb : b1 + 3 + (b2 + 3) ≤ 90000 := by omega
    have hbb2 : b2 + 3 + (b1 + 3) ≤ 90000 := by omega
    refine ⟨_, pss_one (ps_ret (pe_call (ok_low T) hr (by rfl) (T.glo (a_glo_law_low T.c)) (F_law_low T.c).kp (B_law_low T.c) .nil pass0 (pa_cons (pv 0) (pa_cons (pe_op op_add (pe_op op_mulW (pe_ix (ixT (K := K) rfl) (pv 1) pe_int (fun _ _ => rfl)) (pe_ix (ixT (K := K) rfl) (pv 2) pe_int (fun _ _ => rfl))) (pe_op op_mulW (pe_ix (ixT (K := K) rfl) (pv 2) pe_int (fun _ _ => rfl)) (pe_ix (ixT (K := K) rfl) (pv 1) pe_int (fun _ _ => rfl)))) (pa_cons (pe_op op_mulW (pe_ix (ixT (K := K) rfl) (pv 1) pe_int (fun _ _ => rfl)) (pe_ix (ixT (K := K) rfl) (pv 2) pe_int (fun _ _ => rfl))) pa_nil))))), ?_⟩
    refine ⟨_, rfl, _, rfl, a, _, _, _, rfl, rfl, SqT.of ha, rfl, _, rfl, b, _, _, _, rfl, rfl, SqT.of hb, rfl, _, _, rfl, rfl, mulW sxn syd hbb, _, rfl, b, _, _, _, rfl, rfl, SqT.of hb, rfl, _, rfl, a, _, _, _, rfl, rfl, SqT.of ha, rfl, _, _, rfl, rfl, mulW syn sxd hbb2, _, _, rfl, rfl, _, rfl, a, _, _, _, rfl, rfl, SqT.of ha, rfl, _, rfl, b, _, _, _, rfl, rfl, SqT.of hb, rfl, _, _, rfl, rfl, mulW sxd syd hbb, ?_⟩
    refine ⟨G.p, _, _, rfl, fun hp => ⟨?_, den_ok (c1 hp).2 (c2 hp).2 (by omega)⟩, fun t nt => ?_⟩
    · have h1 := pn_pos (G := G) x
      have h2 := pn_pos (G := G) y
      exact Int.ne_of_gt (Int.mul_pos h1 h2)
    · refine q _ _ (same_upd nt) ⟨t, rfl, ?_⟩
      rw [G.add x y]
      exact upd_same
def spP_mul (G : Gnd F) : L2.Sp := fun vs H Q _ => ∃ va vb x y, ∃ b1 b2 : Nat, vs = [.int G.p, va, vb] ∧ PNum G va x H ∧ PNum G vb y H ∧ bd G b1 b1 x ∧ bd G b2 b2 y ∧ b1 + b2 ≤ 8980 ∧ ∀ v H', Same H H' → PNum G v (x * y) H' → Q v H'
theorem ok_law_mul (T : Tx K mg) (G : Gnd F) : FnOk P w K mg base CX0 2 (He.fAd K ("_law_mul", none)) (fdOf K (He.fAd K ("_law_mul", none))) ["_law_p", "_law_a", "_law_b"] (spP_mul G) := by
  refine fok (F_law_mul T.c) sc_law_mul (fun vs H Q E h => ?_) (fun cdv A outer s H vs Q E hr h => ?_)
  · obtain ⟨va, vb, x, y, b1, b2, rfl, _⟩ := h
    rfl
  · obtain ⟨va, vb, x, y, b1, b2, rfl, ⟨a, rfl, ha⟩, ⟨b, rfl, hb⟩, c1, c2, hbd, q⟩ := h
    obtain ⟨sxn, sxd⟩ := pn_size c1
    obtain ⟨syn, syd⟩ := pn_size c2
    have hbb : b1 + 3 + (b2 + 3) ≤ 90000 := by omega
    have hbb2 : b2 + 3 + (b1 + 3) ≤ 90000 := by omega
    refine ⟨_, pss_one (ps_ret (pe_call (ok_low T) hr (by rfl) (T.glo (a_glo_law_low T.c)) (F_law_low T.c).kp (B_law_low T.c) .nil pass0 (pa_cons (pv 0) (pa_cons (pe_op op_mulW (pe_ix (ixT (K := K) rfl) (pv 1) pe_int (fun _ _ => rfl)) (pe_ix (ixT (K := K) rfl) (pv 2) pe_int (fun _ _ => rfl))) (pa_cons (pe_op op_mulW (pe_ix (ixT (K := K) rfl) (pv 1) pe_int (fun _ _ => rfl)) (pe_ix (ixT (K := K) rfl) (pv 2) pe_int (fun _ _ => rfl))) pa_nil))))), ?_⟩
    refine ⟨_, rfl, _, rfl, a, _, _, _, rfl, rfl, SqT.of ha, rfl, _, rfl, b, _, _, _, rfl, rfl, SqT.of hb, rfl, _, _, rfl, rfl, mulW sxn syn hbb, _, rfl, a, _, _, _, rfl, rfl, SqT.of ha, rfl, _, rfl, b, _, _, _, rfl, rfl, SqT.of hb, rfl, _, _, rfl, rfl, mulW sxd syd hbb, ?_⟩
    refine ⟨G.p, _, _, rfl, fun hp => ⟨?_, den_ok (c1 hp).2 (c2 hp).2 (by omega)⟩, fun t nt => ?_⟩
    · have h1 := pn_pos (G := G) x
      have h2 := pn_pos (G := G) y
      exact Int.ne_of_gt (Int.mul_pos h1 h2)
    · refine q _ _ (same_upd nt) ⟨t, rfl, ?_⟩
      rw [G.mul x y]
      exact upd_same
/-- ones -/
def spOnes (G : Gnd F) : L2.Sp := fun vs H Q _ => ∃ n : Nat, vs = [.int n] ∧ n ≤ 1000 ∧ ∀ v H', Same H H' → PTab G v (onesK n) H' → Q v H'
theorem ok_ones (T : Tx K mg) (G : Gnd F) : FnOk P w K mg base CX0 1 (He.fAd K ("_law_ones", none)) (fdOf K (He.fAd K ("_law_ones", none))) ["_law_n"] (spOnes G) := by
  refine fok (F_law_ones T.c) sc_law_ones (fun vs H Q E h => ?_) (fun cdv A outer s H vs Q E hr h => ?_)
  · obtain ⟨n, rfl, _⟩ := h
    rfl
  · obtain ⟨n, rfl, hn, q⟩ := h
    have nd := sc_law_ones.nd
    refine ⟨_, pss_one (ps_ret (pe_lc (own := [("_law_i", 1)]) (g := gName 1) (tt := tYes) rfl nd (pi_range1 (by rfl) (T.free (a_free_range T.c)) (pa_cons (pv 0) pa_nil)) (blkOk_by (N := ["_law_n", "_law_i", "_law_j"]) (sc := defScope s_law_ones) (by decide +kernel)) (fun _ _ _ _ _ => pg_name (i := 1) nd rfl (.inr rfl)) (fun _ _ _ _ _ => pts_nil)
        (fun _ _ _ _ _ => pe_lc (own := [("_law_j", 2)]) (g := gName 2) (tt := tYes) rfl nd (pi_range1 (by rfl) (T.free (a_free_range T.c)) (pa_cons (pv 0) pa_nil)) (blkOk_by (N := ["_law_n", "_law_i", "_law_j"]) (by rfl)) (fun _ _ _ _ _ => pg_name (i := 2) nd rfl (.inl rfl)) (fun _ _ _ _ _ => pts_nil)
          (fun _ _ _ _ _ => pe_tup (pa_cons (pe_callTy call_int1 (by rfl) (T.free (a_free_int T.c)) boot_tint (pa_cons (pe_cmpR op_eq (pv 1) (pv 2) (nomark _)) pa_nil)) (pa_cons pe_int pa_nil)))))), ?_⟩
    refine p_ret ?_
    refine tlc_r (lo := 0) (n := n) (H1 := H) (ys := (onesK n : List (List F))) (R := PRow G) (N := Nt) (fun R r => ⟨_, rfl, _, rfl, by omega, by omega, r⟩) stay_prow (onesK_len n).symm (by rw [onesK_len]; omega) (by intro x; rfl) (fun j y hy => ?_) (fun e H3 ws ne s3 he ale => q _ _ s3 ⟨e, ws, rfl, he, ale⟩)
    intro H4 s4 Q4 k4
    have e0 : (0 : Int) + (j : Int) = j := Int.zero_add _
    rw [e0]
    obtain ⟨hj, hy'⟩ := range_map_get (f := fun i => eRow n i) hy
    refine tlc_r (lo := 0) (n := n) (H1 := H4) (ys := y) (R := PNum G) (N := Yes) (fun R r => ⟨_, rfl, _, rfl, by omega, by omega, r⟩) stay_pnum (by rw [← hy', eRow_len]) (by rw [← hy', eRow_len]; omega) (by intro x; rfl) (fun k z hz => ?_) (fun d H5 us nd5 s5 hd ald => ?_)
    · intro H6 s6 Q6 k6
      have e02 : (0 : Int) + (k : Int) = k := Int.zero_add _
      rw [e02]
      rw [← hy'] at hz
      obtain ⟨hk, hz'⟩ := range_map_get (f := fun i => if j = i then (1 : F) else 0) hz
      refine ⟨_, rfl, _, rfl, rfl, .inr ⟨_, rfl, (by show 2 ≤ sizeLine; decide), fun t nt => k6 _ _ (same_upd nt) ⟨t, rfl, ?_⟩ yes_all⟩⟩
      have e3 : G.nm z = (if decide (V.int (j : Int) = V.int (k : Int)) = true then 1 else 0) ∧ G.dn z = 1 := by
        rw [dec_ij, ← hz']
        by_cases h : j = k
        · rw [if_pos h, if_pos h]
          exact pn_one
        · rw [if_neg h, if_neg h]
          exact pn_zero
      rw [e3.1, e3.2]
      exact upd_same
    · exact k4 _ _ s5 ⟨d, us, rfl, hd, ald⟩ (nt_new nd5)
end
end K51

set_option Elab.async false
set_option linter.all false
set_option maxRecDepth 100000
set_option maxHeartbeats 4000000
set_option autoImplicit false
namespace K51
open PySem PySem.Spec PyProof.Rows L2
section
variable {F : Type} [Lean.Grind.CommRing F] [DecidableEq F] {K : PySem.W.Frag} {G : Gnd F}
def dN (G : Gnd F) (x : F) : PyData := .tuple [.int (G.nm x), .int (G.dn x)]
def dR (G : Gnd F) (xs : List F) : PyData := .list (xs.map (dN G))
def dT (G : Gnd F) (M : List (List F)) : PyData := .list (M.map (dR G))
theorem eqv_map {α : Type} [DecidableEq α] {f : α → PyData} (h : ∀ x y, PyData.eqv (f x) (f y) = decide (x = y)) : ∀ xs ys : List α, PyData.eqvAll (xs.map f) (ys.map f) = decide (xs = ys)
  | [], [] => by simp [PyData.eqvAll]
  | [], y :: ys => by simp [PyData.eqvAll]
  | x :: xs, [] => by simp [PyData.eqvAll]
  | x :: xs, y :: ys => by
    rw [List.map_cons, List.map_cons, PyData.eqvAll, h, eqv_map h xs ys, Bool.eq_iff_iff]
    simp
theorem eqv_dN (x y : F) : PyData.eqv (dN G x) (dN G y) = decide (x = y) := by
  unfold dN
  rw [PyData.eqv, PyData.eqvAll, PyData.eqvAll, PyData.eqvAll, PyData.eqv, PyData.eqv, Bool.eq_iff_iff]
  simp only [Bool.and_true, Bool.and_eq_true, beq_iff_eq, decide_eq_true_iff]
  constructor
  · intro h
    exact G.inj x y h.1 h.2
  · intro h
    rw [h]
    exact ⟨rfl, rfl⟩
theorem eqv_dR (xs ys : List F) : PyData.eqv (dR G xs) (dR G ys) = decide (xs = ys) := by
  unfold dR
  rw [PyData.eqv]
  exact eqv_map eqv_dN xs ys
theorem eqv_dT (A B : List (List F)) : PyData.eqv (dT G A) (dT G B) = decide (A = B) := by
  unfold dT
  rw [PyData.eqv]
  exact eqv_map eqv_dR A B
theorem lay_map {α : Type} {f : α → PyData} (h : ∀ x, (f x).canLay0 = true) : ∀ xs : List α, PyData.canLayAll0 (xs.map f) = true
  | [] => by simp [PyData.canLayAll0]
  | x :: xs => by
    rw [List.map_cons, PyData.canLayAll0, h, lay_map h xs]
    rfl
theorem dep_map {α : Type} {f : α → PyData} {n : Nat} (h : ∀ x, (f x).depth ≤ n) : ∀ xs : List α, PyData.depthAll (xs.map f) ≤ n
  | [] => by simp [PyData.depthAll]
  | x :: xs => by
    have h1 := h x
    have h2 := dep_map h xs
    rw [List.map_cons, PyData.depthAll]
    omega
theorem dN_ok (x : F) : (dN G x).canLay0 = true ∧ (dN G x).depth ≤ 4 := by
  unfold dN
  constructor
  · simp [PyData.canLay0, PyData.canLayAll0]
  · simp [PyData.depth, PyData.depthAll]
theorem dR_ok (x : List F) : (dR G x).canLay0 = true ∧ (dR G x).depth ≤ 8 := by
  unfold dR
  constructor
  · rw [PyData.canLay0]
    exact lay_map (fun x => (dN_ok x).1) x
  · have := dep_map (fun x => (dN_ok (G := G) x).2) x
    rw [PyData.depth]
    omega
theorem dT_ok (x : List (List F)) : SeqAt.shaped (dT G x) = true := by
  unfold SeqAt.shaped dT
  have h1 := lay_map (fun x => (dR_ok (G := G) x).1) x
  have h2 := dep_map (fun x => (dR_ok (G := G) x).2) x
  rw [PyData.canLay0, h1, PyData.depth, Bool.true_and]
  exact decide_eq_true (by omega)
theorem dpAll {α : Type} {H : Hp} {f : α → PyData} {R : V → α → Prop} (h : ∀ v x, R v x → Dp K H v (f x)) : ∀ {vs : List V} {xs : List α}, Al R vs xs → DpAll K H vs (xs.map f)
  | [], [], _ => .nil
  | v :: vs, x :: xs, al => .cons (h v x (al.at_ 0 v x rfl rfl)) (dpAll h (vs := vs) (xs := xs) ⟨by have := al.len; simpa using this, fun i u y h1 h2 => al.at_ (i + 1) u y h1 h2⟩)
  | [], _ :: _, al => by
    have := al.len
    cases this
  | _ :: _, [], al => by
    have := al.len
    cases this
theorem PNum.dp {H : Hp} {v : V} {x : F} (h : PNum G v x H) : Dp K H v (dN G x) := by
  obtain ⟨a, rfl, ha⟩ := h
  exact .tup (SqT.of ha) (.cons (.int _) (.cons (.int _) .nil))
theorem PRow.dp {H : Hp} {v : V} {x : List F} (h : PRow G v x H) : Dp K H v (dR G x) := by
  obtain ⟨a, vs, rfl, ha, al⟩ := h
  exact .lst (SqL.of ha) (dpAll (fun v x h => PNum.dp h) al)
theorem PTab.dp {H : Hp} {v : V} {x : List (List F)} (h : PTab G v x H) : Dp K H v (dT G x) := by
  obtain ⟨a, vs, rfl, ha, al⟩ := h
  exact .lst (SqL.of ha) (dpAll (fun v x h => PRow.dp h) al)
end
section
variable {P : Program} {w : World} {K : PySem.W.Frag} {mg : Str → Option Value} {base : Heap} {F : Type} [Lean.Grind.CommRing F] [DecidableEq F]
/-- both -/
def spBoth (G : Gnd F) : L2.Sp := fun vs H Q _ => ∃ va vb A B, ∃ wd b b' : Nat, vs = [.int G.p, va, vb, .int wd] ∧ PTab G va A H ∧ PTab G vb B H ∧ A.length ≤ 100 ∧ B.length ≤ 100 ∧ wd ≤ 100 ∧ (∀ r, r ∈ A → r.length = B.length) ∧ (∀ r, r ∈ B → r.length = wd) ∧
  (∀ r, r ∈ A → ∀ x, x ∈ r → bd G b b x) ∧ (∀ r, r ∈ B → ∀ x, x ∈ r → bd G b' b' x) ∧ (b + b' + 1) * B.length ≤ 8900 ∧ ∀ v H', Same H H' → PTab G v (mulK A B wd) H' → Q v H'
theorem ok_both (T : Tx K mg) (G : Gnd F) : FnOk P w K mg base CX0 3 (He.fAd K ("_law_both", none)) (fdOf K (He.fAd K ("_law_both", none))) ["_law_p", "_law_one", "_law_two", "_law_width"] (spBoth G) := by
  refine fok (F_law_both T.c) sc_law_both (fun vs H Q E h => ?_) (fun cdv A outer s H vs Q E hr h => ?_)
  · obtain ⟨va, vb, A, B, wd, b, b', rfl, _⟩ := h
    rfl
  · obtain ⟨va, vb, MA, MB, wd, b, b', rfl, ⟨aa, as, rfl, haa, ala⟩, ⟨ba, bs, rfl, hba, alb⟩, hA, hB, hw, hra, hrb, hba1, hbb1, hbnd, q⟩ := h
    have nd := sc_law_both.nd
    refine ⟨_, pss_cons (ps_set (i := 4) nd rfl (.inl rfl) (pe_lst pa_nil))
      (pss_cons (ps_for PassesOwn.never rfl (pi_list (pv 1)) (pg_name (i := 5) nd rfl (.inl rfl))
        (pss_cons (ps_set (i := 6) nd rfl (.inl rfl) (pe_lst pa_nil))
        (pss_cons (ps_for PassesOwn.never rfl (pi_range1 (by rfl) (T.free (a_free_range T.c)) (pa_cons (pv 3) pa_nil)) (pg_name (i := 7) nd rfl (.inl rfl))
          (pss_cons (ps_set (i := 8) nd rfl (.inl rfl) (pe_tup (pa_cons pe_int (pa_cons pe_int pa_nil))))
          (pss_cons (ps_for PassesOwn.never rfl (pi_range1 (by rfl) (T.free (a_free_range T.c)) (pa_cons (pe_callB (lenS (K := K) rfl) (by rfl) (T.free (a_free_len T.c)) boot_len (pa_cons (pv 2) pa_nil)) pa_nil)) (pg_name (i := 9) nd rfl (.inl rfl))
            (pss_one (ps_set (i := 8) nd rfl (.inl rfl) (pe_call (ok_law_plus T G) hr (by rfl) (T.glo (a_glo_law_plus T.c)) (F_law_plus T.c).kp (B_law_plus T.c) .nil pass0 (pa_cons (pv 0) (pa_cons (pv 8) (pa_cons
              (pe_call (ok_law_mul T G) hr (by rfl) (T.glo (a_glo_law_mul T.c)) (F_law_mul T.c).kp (B_law_mul T.c) .nil pass0 (pa_cons (pv 0) (pa_cons (pe_ix (ixL (K := K) rfl) (pv 5) (pv 9) (fun _ _ => rfl)) (pa_cons (pe_ix (ixL (K := K) rfl) (pe_ix (ixL (K := K) rfl) (pv 2) (pv 9) (fun _ _ => rfl)) (pv 7) (fun _ _ => rfl)) pa_nil)))) pa_nil)))))))
          (pss_one (ps_expr (pe_bm PySem.F.plainAttrs_list PySem.F.slot_list_append PySem.F.type_list_append mt_append (pv 6) (pa_cons (pv 8) pa_nil)))))))
        (pss_one (ps_expr (pe_bm PySem.F.plainAttrs_list PySem.F.slot_list_append PySem.F.type_list_append mt_append (pv 4) (pa_cons (pv 6) pa_nil)))))))
      (pss_one (ps_ret (pv 4)))), ?_⟩
    refine ⟨Nat.zero_le _, fun W nW => ?_⟩
    have sW : Same H (upd H W (.lst [])) := same_upd nW
    refine ⟨_, rfl, aa, rfl, ⟨_, SqL.of (sW _ _ haa)⟩, ?_⟩
    refine for_list (xs := as) (fun i σ H' => Same H H' ∧ ∃ y5 y6 y7 y8 y9, σ = [some (.int G.p), some (.ref aa), some (.ref ba), some (.int wd), some (.ref W), y5, y6, y7, y8, y9] ∧ ∃ zs, H' W = some (.lst zs) ∧ Al (fun v x => PRow G v x H' ∧ v ≠ .ref W) zs ((mulK MA MB wd).take i))
      ⟨sW, none, none, none, none, none, rfl, [], upd_same, Al.nil⟩ (fun i σ H' _ hP => SqL.of (hP.1 _ _ haa)) (fun i x σ H' hx hP => ?_) fun σ H' hP => ?_
    · obtain ⟨s1, y5, y6, y7, y8, y9, rfl, zs, hW, alz⟩ := hP
      obtain ⟨row, hrow, ra, us, rfl, hra0, alr⟩ := ala.got hx
      have hmem := List.mem_of_getElem? hrow
      have hrl := hra row hmem
      have hbr := hba1 row hmem
      refine ⟨Nat.zero_le _, fun L nL => ?_⟩
      have sL : Same H' (upd H' L (.lst [])) := same_upd nL
      refine ⟨_, rfl, _, rfl, by omega, by omega, ?_⟩
      refine for_range (lo := 0) (n := wd) (fun j σ H'' => Same H' H'' ∧ ∃ y7 y8 y9, σ = [some (.int G.p), some (.ref aa), some (.ref ba), some (.int wd), some (.ref W), some (.ref ra), some (.ref L), y7, y8, y9] ∧ ∃ ts, H'' L = some (.lst ts) ∧ Al (fun v x => PNum G v x H'') ts ((partR row MB wd row.length).take j))
        ⟨sL, y7, y8, y9, rfl, [], upd_same, Al.nil⟩ (fun j σ H'' hj hP => ?_) fun σ H'' hP => ?_
      · obtain ⟨s2, y7', y8', y9', rfl, ts, hL, alt⟩ := hP
        have e0 : (0 : Int) + (j : Int) = j := Int.zero_add _
        rw [e0]
        have s12 := s1.trans s2
        refine ⟨(by show 2 ≤ sizeLine; decide), fun t0 nt0 => ?_⟩
        have st0 : Same H'' (upd H'' t0 (.tup [.int 0, .int 1])) := same_upd nt0
        have hz : PNum G (.ref t0) (sumN 0 fun i => vec row i * vec (MB.getD i []) j) (upd H'' t0 (.tup [.int 0, .int 1])) := by
          refine ⟨t0, rfl, ?_⟩
          rw [sumN_zero, pn_zero.1, pn_zero.2]
          exact upd_same
        refine ⟨_, rfl, ba, bs, rfl, .inl (SqL.of ((s12.trans st0) _ _ hba)), _, rfl, by omega, by rw [alb.len]; omega, ?_⟩
        refine for_range (lo := 0) (n := bs.length) (fun k σ H3 => Same H'' H3 ∧ ∃ tv y9, σ = [some (.int G.p), some (.ref aa), some (.ref ba), some (.int wd), some (.ref W), some (.ref ra), some (.ref L), some (.int j), some tv, y9] ∧ PNum G tv (sumN k fun i => vec row i * vec (MB.getD i []) j) H3)
          ⟨st0, .ref t0, y9', rfl, hz⟩ (fun k σ H3 hk hP => ?_) fun σ H3 hP => ?_
        · obtain ⟨s3, tv, y9'', rfl, ht⟩ := hP
          have e02 : (0 : Int) + (k : Int) = k := Int.zero_add _
          rw [e02]
          have hkB : k < MB.length := by rw [← alb.len]; exact hk
          have hkr : k < row.length := by rw [hrl]; exact hkB
          have hrk : row[k]? = some row[k] := List.getElem?_eq_getElem hkr
          obtain ⟨rv, hrv, hrn⟩ := alr.get hrk
          have hBk : MB[k]? = some MB[k] := List.getElem?_eq_getElem hkB
          obtain ⟨bv, hbv, bb, bus, rfl, hbb0, albr⟩ := alb.get hBk
          have hBkl := hrb _ (List.getElem_mem hkB)
          have hBj : MB[k][j]? = some (MB[k][j]'(by omega)) := List.getElem?_eq_getElem _
          obtain ⟨bn, hbn, hBN⟩ := albr.get hBj
          have b1 : bd G b b row[k] := hbr _ (List.getElem_mem hkr)
          have b2 : bd G b' b' (MB[k][j]'(by omega)) := hbb1 _ (List.getElem_mem hkB) _ (List.getElem_mem _)
          have bs1 : bd G ((b + b' + 1) * k) ((b + b' + 1) * k) (sumN k fun i => vec row i * vec (MB.getD i []) j) := bd_sum (fun i _ => vec_bd hbr i) (fun i hi => by
            rw [getD_at (List.getElem?_eq_getElem (show i < MB.length by omega))]
            exact vec_bd (hbb1 _ (List.getElem_mem _)) j)
          have hk1 : (b + b' + 1) * k + (b + b' + 1) ≤ 8900 := by
            have h2 : (b + b' + 1) * (k + 1) ≤ (b + b' + 1) * MB.length := Nat.mul_le_mul_left _ hkB
            rw [Nat.mul_add, Nat.mul_one] at h2
            omega
          have s13 := s12.trans s3
          refine ⟨_, rfl, _, rfl, _, rfl, _, rfl, _, rfl, ra, us, _, _, rfl, rfl, SqL.of (s13 _ _ hra0), atI_nat hrv, ?_⟩
          refine ⟨_, rfl, _, rfl, ba, bs, _, _, rfl, rfl, SqL.of (s13 _ _ hba), atI_nat hbv, _, rfl, bb, bus, _, _, rfl, rfl, SqL.of (s13 _ _ hbb0), atI_nat hbn, ?_⟩
          refine ⟨_, _, _, _, b, b', rfl, mo_pnum _ _ _ _ s13 hrn, mo_pnum _ _ _ _ s13 hBN, b1, b2, by omega, fun v4 H4 s4 h4 => ?_⟩
          refine ⟨_, _, _, _, (b + b' + 1) * k, b + b', rfl, mo_pnum _ _ _ _ s4 ht, h4, bs1, bd_mul b1 b2, by omega, fun v5 H5 s5 h5 => ?_⟩
          refine ⟨(s3.trans s4).trans s5, v5, some (.int k), rfl, ?_⟩
          rw [sumN_succ]
          have q1 := vec_at hrk
          have q2 := vec_at hBj
          show PNum G v5 (_ + vec row k * vec (MB.getD k []) j) H5
          rw [getD_at hBk, q1, q2]
          exact h5
        · obtain ⟨s3, tv, y9'', rfl, ht⟩ := hP
          have hL3 := s3 _ _ hL
          have hL2 : H' L = none := nL
          refine ⟨.ref L, rfl, .inl ⟨rfl, _, SqL.of hL3⟩, _, rfl, L, ts, tv, rfl, rfl, hL3, small_line' (by rw [alt.len, List.length_take, partR_len]; omega), ?_⟩
          refine ⟨same_mut hL2 (s2.trans s3), _, _, _, rfl, ts ++ [tv], upd_same, ?_⟩
          have hpk : (partR row MB wd row.length)[j]? = some (sumN row.length fun i => vec row i * vec (MB.getD i []) j) := by
            unfold partR
            rw [List.getElem?_map, List.getElem?_range hj]
            rfl
          rw [take_get hpk]
          refine (alt.imp fun v x h => pnum_mut hL3 (mo_pnum _ _ _ _ s3 h)).snoc (pnum_mut hL3 ?_)
          rw [alb.len, ← hrl] at ht
          exact ht
      · obtain ⟨s2, y7', y8', y9', rfl, ts, hL, alt⟩ := hP
        rw [List.take_of_length_le (by rw [partR_len]; exact Nat.le_refl _)] at alt
        have hW2 := s2 _ _ hW
        have hLW : L ≠ W := fun z => by
          rw [z, hW] at nL
          cases nL
        refine ⟨.ref W, rfl, .inl ⟨rfl, _, SqL.of hW2⟩, _, rfl, W, zs, _, rfl, rfl, hW2, small_line' (by
          have := alz.len
          rw [List.length_take, mulK_len] at this
          omega), ?_⟩
        refine ⟨same_mut nW (s1.trans s2), some (.ref ra), some (.ref L), _, _, _, rfl, zs ++ [.ref L], upd_same, ?_⟩
        have hmk : (mulK MA MB wd)[i]? = some (partR row MB wd row.length) := by
          unfold mulK
          rw [List.getElem?_map, hrow]
          rfl
        rw [take_get hmk]
        have hnL : V.ref L ≠ .ref W := fun z => hLW (V.ref.inj z)
        exact (alz.imp fun v x h => ⟨prow_mut hW2 h.2 (mo_prow _ _ _ _ s2 h.1), h.2⟩).snoc ⟨prow_mut hW2 hnL ⟨L, ts, rfl, hL, alt⟩, hnL⟩
    · obtain ⟨s1, y5, y6, y7, y8, y9, rfl, zs, hW, alz⟩ := hP
      rw [List.take_of_length_le (by rw [mulK_len, ala.len]; exact Nat.le_refl _)] at alz
      exact ⟨_, rfl, q _ _ s1 ⟨W, zs, rfl, hW, alz.imp fun v x h => h.1⟩⟩
end
end K51

set_option Elab.async false
set_option linter.all false
set_option maxRecDepth 100000
set_option maxHeartbeats 4000000
set_option autoImplicit false
namespace K51
open PySem PySem.Spec PyProof.Rows L2
section
variable {P : Program} {w : World} {K : PySem.W.Frag} {mg : Str → Option Value} {base : Heap} {F : Type} [Lean.Grind.CommRing F] [DecidableEq F]
theorem POTab.seq {G : Gnd F} {v : V} {o : Option (List (List F))} {H : Hp} (h : POTab G v o H) : NoneOrSeq H v ∧ isNon v = o.isNone := by
  cases o with
  | none =>
    have e : v = .non := h
    subst e
    exact ⟨.inl rfl, rfl⟩
  | some x =>
    obtain ⟨a, vs, rfl, ha, _⟩ := h
    exact ⟨.inr ⟨a, vs, rfl, .inr ha⟩, rfl⟩
def spHolds (K : PySem.W.Frag) (G : Gnd F) : L2.Sp := fun vs H Q _ => ∃ g o u M d, ∃ wd : Nat, vs = [.int G.p, g, o, .int wd, u] ∧ GAt K H g G.p ∧ PTab G o M H ∧ M.length ≤ 3 ∧ wd ≤ 3 ∧ (∀ r, r ∈ M → r.length = wd) ∧ bd1 G M ∧ RepD K G H u d ∧ Lim G 242 8 d ∧
  ∀ H', Same H H' → Q (.bl (holdsD M.length wd M d)) H'
theorem ok_holds (T : Tx K mg) (G : Gnd F) : FnOk P w K mg base CX0 5 (He.fAd K ("_law_rank_holds", none)) (fdOf K (He.fAd K ("_law_rank_holds", none))) ["_law_p", "_law_ground_here", "_law_own", "_law_width", "_law_paper"] (spHolds K G) := by
  refine fok (F_law_rank_holds T.c) sc_law_rank_holds (fun vs H Q E h => ?_) (fun cdv A outer s H vs Q E hr h => ?_)
  · obtain ⟨g, o, u, M, d, wd, rfl, _⟩ := h
    rfl
  · obtain ⟨g, o, u, M, d, wd, rfl, hg, hO, hM, hw, hrow, hb1, hd, hL, q⟩ := h
    obtain ⟨oa, os, rfl, hoa, alo⟩ := id hO
    have nd := sc_law_rank_holds.nd
    refine ⟨_, pss_cons (ps_if (PW.pt (pw_or (pt_not (pt_val (pe_callB call_isi (by rfl) (T.free (a_free_isinstance T.c)) boot_isi (pa_cons (pv 4) (pa_cons (pe_bltn (v := .ty "tuple") (by rfl) (T.free (a_free_tuple T.c)) boot_ttuple rfl) pa_nil)))))
        (pw_or (pt_cmpR op_ne (pe_callB (lenS (K := K) rfl) (by rfl) (T.free (a_free_len T.c)) boot_len (pa_cons (pv 4) pa_nil)) pe_int (nomark _))
        (pw_or1 (pt_cmpR (op_neRank T G (hr.mono (by decide))) (pe_ix (ixT (K := K) rfl) (pv 4) pe_int (fun _ _ => rfl)) pe_str (nomark _))))))
          (pss_one (ps_ret pe_bl)) pss_nil)
      (pss_cons (ps_set (i := 5) nd rfl (.inl rfl) (pe_ix (ixT (K := K) rfl) (pv 4) pe_int (fun _ _ => rfl)))
      (pss_cons (ps_if (PW.pt (pw_or (pt_not (pt_val (pe_callB call_isi (by rfl) (T.free (a_free_isinstance T.c)) boot_isi (pa_cons (pv 5) (pa_cons (pe_bltn (v := .ty "int") (by rfl) (T.free (a_free_int T.c)) boot_tint rfl) pa_nil)))))
        (pw_or (pt_val (pe_callB call_isi (by rfl) (T.free (a_free_isinstance T.c)) boot_isi (pa_cons (pv 5) (pa_cons (pe_bltn (v := .ty "bool") (by rfl) (T.free (a_free_bool T.c)) boot_tbool rfl) pa_nil))))
        (pw_or1 (pt_cmpR op_lt (pv 5) pe_int (nomark _))))))
          (pss_one (ps_ret pe_bl)) pss_nil)
      (pss_cons (ps_set (i := 6) nd rfl (.inl rfl) (pe_call (ok_table T G) hr (by rfl) (T.glo (a_glo_law_table T.c)) (F_law_table T.c).kp (B_law_table T.c) .nil pass0 (pa_cons (pv 0) (pa_cons (pv 1) (pa_cons (pe_ix (ixT (K := K) rfl) (pv 4) pe_int (fun _ _ => rfl)) (pa_cons (pv 5) (pa_cons (pe_callB (lenS (K := K) rfl) (by rfl) (T.free (a_free_len T.c)) boot_len (pa_cons (pv 2) pa_nil)) pa_nil)))))))
      (pss_cons (ps_set (i := 7) nd rfl (.inl rfl) (pe_call (ok_table T G) hr (by rfl) (T.glo (a_glo_law_table T.c)) (F_law_table T.c).kp (B_law_table T.c) .nil pass0 (pa_cons (pv 0) (pa_cons (pv 1) (pa_cons (pe_ix (ixT (K := K) rfl) (pv 4) pe_int (fun _ _ => rfl)) (pa_cons (pv 3) (pa_cons (pv 5) pa_nil)))))))
      (pss_cons (ps_set (i := 8) nd rfl (.inl rfl) (pe_call (ok_table T G) hr (by rfl) (T.glo (a_glo_law_table T.c)) (F_law_table T.c).kp (B_law_table T.c) .nil pass0 (pa_cons (pv 0) (pa_cons (pv 1) (pa_cons (pe_ix (ixT (K := K) rfl) (pv 4) pe_int (fun _ _ => rfl)) (pa_cons (pe_callB (lenS (K := K) rfl) (by rfl) (T.free (a_free_len T.c)) boot_len (pa_cons (pv 2) pa_nil)) (pa_cons (pv 5) pa_nil)))))))
      (pss_cons (ps_set (i := 9) nd rfl (.inl rfl) (pe_call (ok_table T G) hr (by rfl) (T.glo (a_glo_law_table T.c)) (F_law_table T.c).kp (B_law_table T.c) .nil pass0 (pa_cons (pv 0) (pa_cons (pv 1) (pa_cons (pe_ix (ixT (K := K) rfl) (pv 4) pe_int (fun _ _ => rfl)) (pa_cons (pv 5) (pa_cons (pv 3) pa_nil)))))))
      (pss_cons (ps_if (pt_cmpR (op_noneInS (hr.mono (by decide))) pe_non (pe_lst (pa_cons (pv 6) (pa_cons (pv 7) (pa_cons (pv 8) (pa_cons (pv 9) pa_nil))))) (by rfl)) (pss_one (ps_ret pe_bl)) pss_nil)
      (pss_cons (ps_if (pt_cmpR (op_neD hr.units) (pe_call (ok_both T G) (hr.mono (by decide)) (by rfl) (T.glo (a_glo_law_both T.c)) (F_law_both T.c).kp (B_law_both T.c) .nil pass0 (pa_cons (pv 0) (pa_cons (pv 8) (pa_cons (pv 9) (pa_cons (pv 3) pa_nil))))) (pv 2) (nomark _)) (pss_one (ps_ret pe_bl)) pss_nil)
      (pss_one (ps_ret (pe_cmpR (op_eqD hr.units) (pe_call (ok_both T G) (hr.mono (by decide)) (by rfl) (T.glo (a_glo_law_both T.c)) (F_law_both T.c).kp (B_law_both T.c) .nil pass0 (pa_cons (pv 0) (pa_cons
          (pe_call (ok_both T G) (hr.mono (by decide)) (by rfl) (T.glo (a_glo_law_both T.c)) (F_law_both T.c).kp (B_law_both T.c) .nil pass0 (pa_cons (pv 0) (pa_cons (pv 6) (pa_cons (pv 2) (pa_cons (pv 3) pa_nil)))))
          (pa_cons (pv 7) (pa_cons (pv 5) pa_nil)))))
        (pe_call (ok_ones T G) (hr.mono (by decide)) (by rfl) (T.glo (a_glo_law_ones T.c)) (F_law_ones T.c).kp (B_law_ones T.c) .nil pass0 (pa_cons (pv 5) pa_nil)) (nomark _)))))))))))), ?_⟩
    obtain ⟨t, ht, hk, _⟩ := tyD T hd
    refine ⟨_, rfl, u, _, t, _, _, rfl, .ty "tuple", ht, hk, _, rfl, ?_⟩
    cases hTp : isTup d with
    | false =>
      refine iteT ?_
      have := q H (Same.refl _)
      rw [holds_tup hTp] at this
      exact this
    | true =>
      refine iteF ?_
      obtain ⟨l, rfl⟩ := isTup_eq hTp
      obtain ⟨b, us, rfl, hb, al⟩ := RepD.al (a := 0) hd
      refine ⟨_, rfl, b, us, rfl, .inr (SqT.of hb), rfl, _, rfl, ?_⟩
      by_cases hn : l.length = 6
      · refine ite2 (fun z => absurd z (by rw [al.len, hn]; simp)) (fun _ => ?_)
        obtain ⟨d0, d1, dl, dr, dt, dw, rfl⟩ := six hn
        obtain ⟨u0, u1, u2, u3, u4, u5, rfl, r0', r1, r2, r3, r4, r5⟩ := al6 al
        refine ⟨_, rfl, b, _, _, u0, rfl, rfl, SqT.of hb, rfl, d0, r0', rfl, _, rfl, ?_⟩
        have hq := q
        rw [holds_six] at hq
        cases hR : isRk d0 with
        | false =>
          refine iteT ?_
          have := hq H (Same.refl _)
          rw [hR] at this
          exact this
        | true =>
          rw [hR] at hq
          refine iteF ?_
          obtain ⟨t1, ht1, _, k1, k2⟩ := tyD T r1
          refine ⟨_, rfl, b, _, _, u1, rfl, rfl, SqT.of hb, rfl, ?_⟩
          refine ⟨_, rfl, u1, _, t1, _, _, rfl, .ty "int", ht1, k1, _, rfl, ?_⟩
          have hpb := plain_bool (d := d1)
          cases hP : plainD d1 with
          | none =>
            have hfin := hq H (Same.refl _)
            rw [hP] at hfin hpb
            cases h1 : isIntD d1 with
            | false => exact iteT hfin
            | true =>
              refine iteF ?_
              refine ⟨_, rfl, u1, _, t1, _, _, rfl, .ty "bool", ht1, k2, _, rfl, ?_⟩
              rw [h1] at hpb
              cases h2 : isBl d1 with
              | true => exact iteT hfin
              | false =>
                rw [h2] at hpb
                cases hpb
          | some r =>
            rw [hP] at hpb
            have h12 : isIntD d1 = true ∧ isBl d1 = false := by
              cases h1 : isIntD d1 <;> cases h2 : isBl d1 <;> rw [h1, h2] at hpb <;> first | exact ⟨rfl, rfl⟩ | cases hpb
            rw [h12.1]
            refine iteF ?_
            refine ⟨_, rfl, u1, _, t1, _, _, rfl, .ty "bool", ht1, k2, _, rfl, ?_⟩
            rw [h12.2]
            refine iteF ?_
            have e1 := r1.plain hP
            subst e1
            have hq2 : ∀ H', Same H H' → Q (.bl (holdsT M.length wd M r dl dr dt dw)) H' := fun H' s' => by
              have := hq H' s'
              rw [hP] at this
              exact this
            clear hq
            refine ⟨_, rfl, _, _, rfl, rfl, _, rfl, ?_⟩
            refine ite2 (fun e => ?_) (fun e => ?_)
            · have := hq2 H (Same.refl _)
              rw [holdsT_neg (of_decide_eq_true e)] at this
              exact this
            · obtain ⟨n, rfl⟩ := Int.eq_ofNat_of_zero_le (show 0 ≤ r by
                have := of_decide_eq_false (Bool.eq_false_iff.mpr e)
                omega)
              rw [holdsT_nat] at hq2
              have hLm : ∀ x, x ∈ [d0, d1, dl, dr, dt, dw] → Lim G 300 20 x := fun x hx => (hL.mem hx).mono (by decide) (by decide)
              have hol : os.length = M.length := alo.len
              refine ⟨_, rfl, _, rfl, _, rfl, b, _, _, _, rfl, rfl, SqT.of hb, rfl, _, rfl, _, rfl, oa, os, rfl, .inl (SqL.of hoa), ?_⟩
              refine ⟨_, _, dl, n, os.length, rfl, hg, r2, hLm dl (by simp), fun w1 H1 s1 p1 => ?_⟩
              rw [hol] at p1
              refine ⟨_, rfl, _, rfl, _, rfl, b, _, _, _, rfl, rfl, SqT.of (s1 _ _ hb), rfl, _, rfl, _, rfl, ?_⟩
              refine ⟨_, _, dr, wd, n, rfl, hg.mono s1, r3.mono s1, hLm dr (by simp), fun w2 H2 s2 p2 => ?_⟩
              have s12 := s1.trans s2
              refine ⟨_, rfl, _, rfl, _, rfl, b, _, _, _, rfl, rfl, SqT.of (s12 _ _ hb), rfl, _, rfl, oa, os, rfl, .inl (SqL.of (s12 _ _ hoa)), _, rfl, ?_⟩
              refine ⟨_, _, dt, os.length, n, rfl, hg.mono s12, r4.mono s12, hLm dt (by simp), fun w3 H3 s3 p3 => ?_⟩
              rw [hol] at p3
              have s13 := s12.trans s3
              refine ⟨_, rfl, _, rfl, _, rfl, b, _, _, _, rfl, rfl, SqT.of (s13 _ _ hb), rfl, _, rfl, _, rfl, ?_⟩
              refine ⟨_, _, dw, n, wd, rfl, hg.mono s13, r5.mono s13, hLm dw (by simp), fun w4 H4 s4 p4 => ?_⟩
              have s14 := s13.trans s4
              have p1 := mo_potab _ _ _ _ ((s2.trans s3).trans s4) p1
              have p2 := mo_potab _ _ _ _ (s3.trans s4) p2
              have p3 := mo_potab _ _ _ _ s4 p3
              refine ⟨_, rfl, _, rfl, _, rfl, _, rfl, (by show 4 ≤ sizeLine; decide), fun l5 nl5 => ?_⟩
              have s5 : Same H4 (upd H4 l5 (.lst [w1, w2, w3, w4])) := same_upd nl5
              have p1 := mo_potab _ _ _ _ s5 p1
              have p2 := mo_potab _ _ _ _ s5 p2
              have p3 := mo_potab _ _ _ _ s5 p3
              have p4 := mo_potab _ _ _ _ s5 p4
              have s15 := s14.trans s5
              have hl5 : (upd H4 l5 (.lst [w1, w2, w3, w4])) l5 = some (.lst [w1, w2, w3, w4]) := upd_same
              generalize (upd H4 l5 (.lst [w1, w2, w3, w4])) = H5 at *
              refine ⟨l5, _, rfl, rfl, SqL.of hl5, fun z hz => ?_, _, rfl, ?_⟩
              · simp only [List.mem_cons, List.not_mem_nil, or_false] at hz
                rcases hz with rfl | rfl | rfl | rfl
                · exact p1.seq.1
                · exact p2.seq.1
                · exact p3.seq.1
                · exact p4.seq.1
              · have hany : [w1, w2, w3, w4].any isNon = ((tabD n M.length dl).isNone || ((tabD wd n dr).isNone || ((tabD M.length n dt).isNone || (tabD n wd dw).isNone))) := by
                  rw [List.any_cons, List.any_cons, List.any_cons, List.any_cons, p1.seq.2, p2.seq.2, p3.seq.2, p4.seq.2]
                  simp
                rw [hany]
                have hfin := hq2 H5 s15
                cases hTL : tabD n M.length dl with
                | none =>
                  rw [hTL] at hfin
                  exact iteT hfin
                | some L =>
                  rw [hTL] at hfin hq2 p1
                  cases hTR : tabD wd n dr with
                  | none =>
                    rw [hTR] at hfin
                    exact iteT hfin
                  | some R =>
                    rw [hTR] at hfin hq2 p2
                    cases hTT : tabD M.length n dt with
                    | none =>
                      rw [hTT] at hfin
                      exact iteT hfin
                    | some T' =>
                      rw [hTT] at hfin hq2 p3
                      cases hTW : tabD n wd dw with
                      | none =>
                        rw [hTW] at hfin
                        exact iteT hfin
                      | some W =>
                        rw [hTW] at hq2 p4
                        refine iteF ?_
                        have hq3 : ∀ H', Same H H' → Q (.bl (decide (mulK T' W wd = M) && decide (mulK (mulK L M wd) R n = onesK n))) H' := hq2
                        clear hq2 hfin
                        have bL := (tabD_bd (hL.mem (d := dl) (by simp)) hTL).2
                        have hn8 := (tabD_bd (hL.mem (d := dl) (by simp)) hTL).1
                        have bR := (tabD_bd (hL.mem (d := dr) (by simp)) hTR).2
                        have bT := (tabD_bd (hL.mem (d := dt) (by simp)) hTT).2
                        have bW := (tabD_bd (hL.mem (d := dw) (by simp)) hTW).2
                        have lL := tabD_len hTL
                        have lR := tabD_len hTR
                        have lT := tabD_len hTT
                        have lW := tabD_len hTW
                        refine ⟨_, rfl, _, rfl, _, rfl, _, rfl, ?_⟩
                        refine ⟨_, _, T', W, wd, 242, 242, rfl, p3, p4, by omega, by omega, by omega, fun r hr => by rw [tabD_row hTT r hr, lW], tabD_row hTW, bT, bW, (by rw [lW]; omega), fun v6 H6 s6 h6 => ?_⟩
                        have s16 := s15.trans s6
                        have hO6 := mo_ptab _ _ _ _ s16 hO
                        refine ⟨_, rfl, dT G (mulK T' W wd), dT G M, h6.dp, hO6.dp, dT_ok _, dT_ok _, _, rfl, ?_⟩
                        rw [eqv_dT]
                        by_cases hprod : mulK T' W wd = M
                        · rw [decide_eq_true hprod] at hq3 ⊢
                          refine iteF ?_
                          have bM : ∀ r, r ∈ M → ∀ x, x ∈ r → bd G 1 1 x := fun r hr x hx => (hb1 r hr x hx).mono (by decide) (by decide)
                          refine ⟨_, rfl, _, rfl, _, rfl, _, rfl, _, rfl, ?_⟩
                          refine ⟨_, _, L, M, wd, 242, 1, rfl, mo_ptab _ _ _ _ s6 p1, hO6, by omega, by omega, by omega, tabD_row hTL, hrow, bL, bM, by omega, fun v8 H8 s8 h8 => ?_⟩
                          have s18 := s16.trans s8
                          have bLM := mulK_bd (w := wd) (tabD_row hTL) bL bM
                          refine ⟨_, rfl, _, rfl, ?_⟩
                          refine ⟨_, _, mulK L M wd, R, n, 732, 242, rfl, h8, mo_ptab _ _ _ _ (s6.trans s8) p2, by rw [mulK_len]; omega, by omega, by omega, fun r hr => by rw [mulK_row r hr, lR], tabD_row hTR, fun r hr x hx => (bLM r hr x hx).mono (by omega) (by omega), bR, (by rw [lR]; omega), fun v9 H9 s9 h9 => ?_⟩
                          have s19 := s18.trans s9
                          refine ⟨_, rfl, n, rfl, by omega, fun v10 H10 s10 h10 => ?_⟩
                          refine ⟨dT G (mulK (mulK L M wd) R n), dT G (onesK n), (mo_ptab _ _ _ _ s10 h9).dp, h10.dp, dT_ok _, dT_ok _, ?_⟩
                          rw [eqv_dT]
                          have := hq3 H10 (s19.trans s10)
                          rw [Bool.true_and] at this
                          exact this
                        · rw [decide_eq_false hprod] at hq3 ⊢
                          exact iteT (hq3 H6 s16)
      · refine ite2 (fun _ => ?_) (fun z => absurd z (by rw [al.len]; simp; omega))
        have := q H (Same.refl _)
        rw [holds_len hn] at this
        exact this
end
end K51

set_option Elab.async false
set_option linter.all false
set_option maxRecDepth 100000
set_option maxHeartbeats 4000000
set_option autoImplicit false
namespace K51
open PySem PySem.Spec PyProof.Rows L2
section
variable {P : Program} {w : World} {K : PySem.W.Frag} {mg : Str → Option Value} {base : Heap}
def spRest : L2.Sp := fun vs H Q _ => ∃ p : Nat, ∃ x : Int, vs = [.int p, .int x] ∧ Q (.int (restI p x)) H
theorem ok_rest (T : Tx K mg) : FnOk P w K mg base CX0 1 (He.fAd K ("_law_rest", none)) (fdOf K (He.fAd K ("_law_rest", none))) ["_law_p", "_law_x"] spRest := by
  refine fok (F_law_rest T.c) sc_law_rest (fun vs H Q E h => ?_) (fun cdv A outer s H vs Q E hr h => ?_)
  · obtain ⟨p, x, rfl, _⟩ := h
    rfl
  · obtain ⟨p, x, rfl, q⟩ := h
    refine ⟨_, pss_cons (ps_if (pt_cmpR op_eq (pv 0) pe_int (nomark _)) (pss_one (ps_ret (pv 1))) pss_nil) (pss_one (ps_ret (pe_op op_mod (pv 1) (pv 0)))), ?_⟩
    refine ⟨_, rfl, rfl, _, rfl, ?_⟩
    unfold restI at q
    by_cases hp : p = 0
    · subst hp
      rw [decide_eq_true (by rfl)]
      rw [if_pos rfl] at q
      exact iteT ⟨_, rfl, q⟩
    · refine ite2 (fun e => absurd (of_decide_eq_true e) (by simp; omega)) (fun _ => ?_)
      rw [if_neg hp] at q
      exact ⟨_, rfl, _, rfl, _, _, rfl, rfl, by omega, q⟩
end
def aB : Nat → Nat
  | 0 => 3
  | c + 1 => 2 * aB c + 1
theorem aB_le {c : Nat} (h : c ≤ 3) : aB c ≤ 31 := by
  match c, h with
  | 0, _ => decide
  | 1, _ => decide
  | 2, _ => decide
  | 3, _ => decide
theorem aB_3 (c : Nat) : 3 ≤ aB c := by
  cases c with
  | zero => exact Nat.le_refl _
  | succ c =>
    show 3 ≤ 2 * aB c + 1
    have := aB_3 c
    omega
section
variable {F : Type} [Lean.Grind.CommRing F] [DecidableEq F] {G : Gnd F}
/-- an item of a row behind so many columns -/
def Itm (G : Gnd F) (c : Nat) (x : Int) : Prop := RedI G.p x ∧ x.natAbs ≤ 2 ^ aB c
theorem Itm.up {c : Nat} {x : Int} (h : Itm G c x) : Itm G (c + 1) x := ⟨h.1, Nat.le_trans h.2 (Nat.pow_le_pow_right (by decide) (by
  show aB c ≤ 2 * aB c + 1
  omega))⟩
theorem itm_rest {c : Nat} {x : Int} (h : x.natAbs ≤ 2 ^ aB c) : Itm G c (restI G.p x) := by
  refine ⟨by exact restI_red G.p x, ?_⟩
  unfold restI
  by_cases hp : G.p = 0
  · rw [if_pos hp]
    exact h
  · rw [if_neg hp]
    have h5 : G.p ≤ 7 := by
      have := G.hp
      omega
    have h1 := Int.emod_nonneg x (show (G.p : Int) ≠ 0 by omega)
    have h2 := Int.emod_lt_of_pos x (show 0 < (G.p : Int) by omega)
    have h3 : (2 : Nat) ^ 3 ≤ 2 ^ aB c := Nat.pow_le_pow_right (by decide) (aB_3 c)
    have h4 : (2 : Nat) ^ 3 = 8 := by decide
    omega
theorem itm_step {c : Nat} {h a d b : Int} (h1 : Itm G c h) (h2 : Itm G c a) (h3 : Itm G c d) (h4 : Itm G c b) : Itm G (c + 1) (restI G.p (h * a - d * b)) := by
  refine itm_rest ?_
  have e1 : (h * a).natAbs ≤ 2 ^ (aB c + aB c) := by
    rw [Int.natAbs_mul]
    exact two_mul_le h1.2 h2.2
  have e2 : (d * b).natAbs ≤ 2 ^ (aB c + aB c) := by
    rw [Int.natAbs_mul]
    exact two_mul_le h3.2 h4.2
  have e3 : (h * a - d * b).natAbs ≤ (h * a).natAbs + (d * b).natAbs := by omega
  have e4 : 2 * aB c + 1 = aB c + aB c + 1 := by omega
  show _ ≤ 2 ^ (2 * aB c + 1)
  rw [e4, Nat.pow_succ]
  omega
theorem itm_64 {c : Nat} {x : Int} (hc : c ≤ 3) (h : Itm G c x) : -(2 ^ 64) < x ∧ x < 2 ^ 64 := by
  have h1 : (2 : Nat) ^ aB c ≤ 2 ^ 31 := Nat.pow_le_pow_right (by decide) (aB_le hc)
  have h2 : (2 : Nat) ^ 31 = 2147483648 := by decide
  have h3 := h.2
  have h4 : (2 : Int) ^ 64 = 18446744073709551616 := by decide
  rw [h4]
  omega
/-- rows, place by place -/
def Pt (R N : Nat) (f : Nat → List Int) (H : Hp) (vs : List V) : Prop := vs.length = N ∧ ∀ t, t < N → ∃ v, vs[t]? = some v ∧ IRow v (f t) H ∧ v ≠ .ref R
theorem Pt.mono {R N : Nat} {f : Nat → List Int} {H H' : Hp} {vs : List V} (h : Pt R N f H vs) (e : Same H H') : Pt R N f H' vs := ⟨h.1, fun t ht => let ⟨v, a, b, c⟩ := h.2 t ht; ⟨v, a, mo_irow _ _ _ _ e b, c⟩⟩
theorem irow_mut {H : Hp} {R : Addr} {x : HO} {v : V} {y : List Int} (hn : v ≠ .ref R) (h : IRow v y H) : IRow v y (upd H R x) := by
  obtain ⟨a, e, ha⟩ := h
  refine ⟨a, e, ?_⟩
  rw [upd_ne (fun z => hn (by rw [e, z]))]
  exact ha
theorem Pt.set {R N : Nat} {f f' : Nat → List Int} {H : Hp} {vs : List V} {j : Nat} {v : V} (h : Pt R N f H vs) (hv : IRow v (f' j) H) (hn : v ≠ .ref R) (hf : ∀ t, t < N → t ≠ j → f' t = f t) : Pt R N f' (upd H R (.lst (vs.set j v))) (vs.set j v) := by
  refine ⟨by rw [List.length_set]; exact h.1, fun t ht => ?_⟩
  by_cases e : t = j
  · subst e
    refine ⟨v, ?_, irow_mut hn hv, hn⟩
    rw [List.getElem?_set_self (by rw [h.1]; exact ht)]
  · obtain ⟨u, h1, h2, h3⟩ := h.2 t ht
    refine ⟨u, ?_, ?_, h3⟩
    · rw [List.getElem?_set_ne (fun z => e z.symm)]
      exact h1
    · rw [hf t ht e]
      exact irow_mut h3 h2
def mixR (p wd c : Nat) (rows : List (List Int)) (rk at_ i t : Nat) : List Int := if t = rk then rows.getD at_ [] else if rk < t ∧ t < i then newRow p wd ((rows.getD at_ []).getD c 0) ((swapped rows rk at_ t).getD c 0) (swapped rows rk at_ t) (rows.getD at_ []) else swapped rows rk at_ t
theorem mix_end {p wd c rk at_ N : Nat} {rows : List (List Int)} (hN : rows.length = N) (ha : rk ≤ at_) {t : Nat} (ht : t < N) : mixR p wd c rows rk at_ N t = (newRows p wd c rows rk at_).getD t [] := by
  unfold newRows
  rw [getD_range _ _ _ _ (by rw [hN]; exact ht)]
  unfold mixR
  by_cases h1 : t < rk
  · rw [if_neg (by omega), if_neg (by omega), if_pos h1]
    unfold swapped
    rw [if_neg (by omega)]
  · by_cases h2 : t = rk
    · rw [if_pos h2, if_neg h1, if_pos h2]
    · rw [if_neg h2, if_pos ⟨by omega, ht⟩, if_neg h1, if_neg h2]
end
section
variable {P : Program} {w : World} {K : PySem.W.Frag} {mg : Str → Option Value} {base : Heap} {F : Type} [Lean.Grind.CommRing F] [DecidableEq F]
theorem p_asgG {D : Ends} {σ : L2.St} {H : Hp} {te : TE} {g : TG} (h : te σ H fun v H1 => g v σ H1 D.nx) : tAsg te g D σ H := h
def spRank (G : Gnd F) : L2.Sp := fun vs H Q _ => ∃ v rows, ∃ wd : Nat, vs = [.int G.p, v, .int wd] ∧ ITab v rows H ∧ rows.length ≤ 3 ∧ wd ≤ 3 ∧ (∀ r, r ∈ rows → r.length = wd) ∧ (∀ r, r ∈ rows → ∀ x, x ∈ r → Drawn x) ∧ ∀ H', Same H H' → Q (.int (redN G.inv (rows.map fun r => r.map G.ic) wd).fp.length) H'
theorem ok_rank (T : Tx K mg) (G : Gnd F) : FnOk P w K mg base CX0 2 (He.fAd K ("_law_rank", none)) (fdOf K (He.fAd K ("_law_rank", none))) ["_law_p", "_law_rows", "_law_width"] (spRank G) := by
  refine fok (F_law_rank T.c) sc_law_rank (fun vs H Q E h => ?_) (fun cdv A outer s H vs Q E hr h => ?_)
  · obtain ⟨v, rows, wd, rfl, _⟩ := h
    rfl
  · obtain ⟨v, rows, wd, rfl, ⟨a, rs, rfl, ha, al⟩, hl, hw, hrow, hdr, q⟩ := h
    have nd := sc_law_rank.nd
    refine ⟨_, pss_cons (ps_set (i := 1) nd rfl (.inr rfl) (pe_lc (own := [("_law_row", 9)]) (g := gName 9) (tt := tYes) rfl nd (pi_list (pv 1)) (blkOk_by (N := ["_law_p", "_law_rows", "_law_width", "_law_rank_here", "_law_column", "_law_at", "_law_head", "_law_i", "_law_c", "_law_row", "_law_x", "_law_k"]) (sc := defScope s_law_rank) (by decide +kernel)) (fun _ _ _ _ _ => pg_name (i := 9) nd rfl (.inl rfl)) (fun _ _ _ _ _ => pts_nil)
        (fun _ _ _ _ _ => pe_lc (own := [("_law_x", 10)]) (g := gName 10) (tt := tYes) rfl nd (piL (K := K) rfl (pv 9)) (blkOk_by (N := ["_law_p", "_law_rows", "_law_width", "_law_rank_here", "_law_column", "_law_at", "_law_head", "_law_i", "_law_c", "_law_row", "_law_x", "_law_k"]) (by rfl)) (fun _ _ _ _ _ => pg_name (i := 10) nd rfl (.inl rfl)) (fun _ _ _ _ _ => pts_nil)
          (fun _ _ _ _ _ => pe_call (ok_rest T) hr (by rfl) (T.glo (a_glo_law_rest T.c)) (F_law_rest T.c).kp (B_law_rest T.c) .nil pass0 (pa_cons (pv 0) (pa_cons (pv 10) pa_nil))))))
      (pss_cons (ps_set (i := 3) nd rfl (.inr rfl) pe_int)
      (pss_cons (ps_for PassesOwn.never rfl (pi_range1 (by rfl) (T.free (a_free_range T.c)) (pa_cons (pv 2) pa_nil)) (pg_name (i := 4) nd rfl (.inl rfl))
        (pss_cons (ps_set (i := 5) nd rfl (.inl rfl) (pv 3))
        (pss_cons (ps_while PassesOwn.never (PW.pt (pw_and (pt_cmpR op_lt (pv 5) (pe_callB (lenS (K := K) rfl) (by rfl) (T.free (a_free_len T.c)) boot_len (pa_cons (pv 1) pa_nil)) (nomark _)) (pw_and1 (pt_cmpR op_eq (pe_ix (ixL (K := K) rfl) (pe_ix (ixL (K := K) rfl) (pv 1) (pv 5) (fun _ _ => rfl)) (pv 4) (fun _ _ => rfl)) pe_int (nomark _)))))
            (pss_one (ps_set (i := 5) nd rfl (.inl rfl) (pe_op op_add (pv 5) pe_int))))
        (pss_one (ps_if (pt_cmpR op_lt (pv 5) (pe_callB (lenS (K := K) rfl) (by rfl) (T.free (a_free_len T.c)) boot_len (pa_cons (pv 1) pa_nil)) (nomark _))
          (pss_cons (ps_asg (pe_tup (pa_cons (pe_ix (ixL (K := K) rfl) (pv 1) (pv 3) (fun _ _ => rfl)) (pa_cons (pe_ix (ixL (K := K) rfl) (pv 1) (pv 5) (fun _ _ => rfl)) pa_nil))) (pg_tup rfl (pgs_cons (pg_sub (pv 1) (pv 5) set_list) (pgs_cons (pg_sub (pv 1) (pv 3) set_list) pgs_nil))))
          (pss_cons (ps_set (i := 6) nd rfl (.inr rfl) (pe_ix (ixL (K := K) rfl) (pe_ix (ixL (K := K) rfl) (pv 1) (pv 3) (fun _ _ => rfl)) (pv 4) (fun _ _ => rfl)))
          (pss_cons (ps_for PassesOwn.never rfl (pi_range2 (by rfl) (T.free (a_free_range T.c)) (pa_cons (pe_op op_add (pv 3) pe_int) (pa_cons (pe_callB (lenS (K := K) rfl) (by rfl) (T.free (a_free_len T.c)) boot_len (pa_cons (pv 1) pa_nil)) pa_nil))) (pg_name (i := 7) nd rfl (.inr rfl))
            (pss_cons (ps_set (i := 8) nd rfl (.inr rfl) (pe_ix (ixL (K := K) rfl) (pe_ix (ixL (K := K) rfl) (pv 1) (pv 7) (fun _ _ => rfl)) (pv 4) (fun _ _ => rfl)))
            (pss_one (ps_asg (pe_lc (own := [("_law_k", 11)]) (g := gName 11) (tt := tYes) rfl nd (pi_range1 (by rfl) (T.free (a_free_range T.c)) (pa_cons (pv 2) pa_nil)) (blkOk_by (N := ["_law_p", "_law_rows", "_law_width", "_law_rank_here", "_law_column", "_law_at", "_law_head", "_law_i", "_law_c", "_law_row", "_law_x", "_law_k"]) (sc := defScope s_law_rank) (by decide +kernel)) (fun _ _ _ _ _ => pg_name (i := 11) nd rfl (.inl rfl)) (fun _ _ _ _ _ => pts_nil)
                (fun _ _ _ _ _ => pe_call (ok_rest T) hr (by rfl) (T.glo (a_glo_law_rest T.c)) (F_law_rest T.c).kp (B_law_rest T.c) .nil pass0 (pa_cons (pv 0) (pa_cons (pe_op op_sub (pe_op op_mul (pv 6) (pe_ix (ixL (K := K) rfl) (pe_ix (ixL (K := K) rfl) (pv 1) (pv 7) (fun _ _ => rfl)) (pv 11) (fun _ _ => rfl))) (pe_op op_mul (pv 8) (pe_ix (ixL (K := K) rfl) (pe_ix (ixL (K := K) rfl) (pv 1) (pv 3) (fun _ _ => rfl)) (pv 11) (fun _ _ => rfl)))) pa_nil))))
              (pg_sub (pv 1) (pv 7) set_list)))))
          (pss_one (ps_set (i := 3) nd rfl (.inr rfl) (pe_op op_add (pv 3) pe_int)))))) pss_nil)))))
      (pss_one (ps_ret (pv 3))))), ?_⟩
    refine p_seq ?_
    refine p_asg ?_
    refine tlc_l (xs := rs) (H1 := H) (ys := rows.map fun r => r.map (restI G.p)) (R := IRow) (N := Nt) (fun R r => ⟨.ref a, rfl, a, rfl, ⟨_, SqL.of ha⟩, r⟩) stay_irow (SqL.of ha) (by rw [al.len, List.length_map]) (by rw [List.length_map]; omega) (by intro x; rfl) (fun j x y hx hy => ?_) (fun R H1 ws nR s1 hR alR => ?_)
    · intro H4 s4 Q4 k4
      obtain ⟨r, hr1, b, rfl, hb⟩ := al.got hx
      rw [List.getElem?_map, hr1] at hy
      have hy' := Option.some.inj hy
      have hrl := hrow r (List.mem_of_getElem? hr1)
      refine tlc_l (xs := r.map V.int) (H1 := H4) (ys := r.map (restI G.p)) (R := RInt) (N := Yes) (fun R r => ⟨.ref b, rfl, b, rfl, ⟨_, SqL.of (s4 _ _ hb)⟩, r⟩) stay_int (SqL.of (s4 _ _ hb)) (by rw [List.length_map, List.length_map]) (by rw [List.length_map]; omega) (by intro x; rfl) (fun j2 x2 y2 hx2 hy2 => ?_) (fun D H5 ws nD s5 hD alD => ?_)
      · intro H6 s6 Q6 k6
        rw [List.getElem?_map] at hx2 hy2
        cases hq : r[j2]? with
        | none =>
          rw [hq] at hx2
          cases hx2
        | some z =>
          rw [hq] at hx2 hy2
          have e1 := Option.some.inj hx2
          have e2 := Option.some.inj hy2
          subst e1 e2
          exact ⟨_, rfl, _, rfl, G.p, z, rfl, k6 _ H6 (Same.refl _) rfl yes_all⟩
      · refine k4 _ _ s5 ?_ (nt_new nD)
        rw [← hy']
        exact ⟨D, rfl, by rw [hD, al_int alD]⟩
    · have hwR : ∀ v, v ∈ ws → v ≠ .ref R := fun v hv z => by
        obtain ⟨i, hi, ei⟩ := List.getElem_of_mem hv
        obtain ⟨r, hr1, b, e1, hb⟩ := alR.got (show ws[i]? = some v by rw [← ei]; exact List.getElem?_eq_getElem hi)
        rw [z] at e1
        injection e1 with e1
        rw [← e1, hR] at hb
        injection hb with hb
        injection hb with hb
        rw [hb, z] at hv
        obtain ⟨_, _, hz⟩ := List.mem_map.mp hv
        cases hz
      have hlen0 : (rows.map fun r => r.map (restI G.p)).length = rows.length := List.length_map ..
      have P0 : Pt R rows.length (fun t => (rows.map fun r => r.map (restI G.p)).getD t []) H1 ws := by
        refine ⟨by rw [alR.len, hlen0], fun t ht => ?_⟩
        have h1 : (rows.map fun r => r.map (restI G.p))[t]? = some ((rows.map fun r => r.map (restI G.p))[t]'(by omega)) := List.getElem?_eq_getElem _
        obtain ⟨v, hv, hi⟩ := alR.get h1
        refine ⟨v, hv, ?_, hwR v (List.mem_of_getElem? hv)⟩
        show IRow v (List.getD _ t []) H1
        rw [getD_at h1]
        exact hi
      dsimp only [gName]
      refine ⟨_, rfl, _, rfl, by omega, by omega, ?_⟩
      refine for_range (lo := 0) (n := wd) (fun c σ H' => Same H H' ∧ ∃ (rk : Nat) (ri : List (List Int)) (vs : List V) (y4 y5 y6 y7 y8 : Option V), σ = [some (.int G.p), some (.ref R), some (.int wd), some (.int rk), y4, y5, y6, y7, y8, none, none, none] ∧ H' R = some (.lst vs) ∧ ri.length = rows.length ∧ Pt R rows.length (fun t => ri.getD t []) H' vs ∧ (∀ r, r ∈ ri → r.length = wd) ∧ (∀ r, r ∈ ri → ∀ x, x ∈ r → Itm G c x) ∧ rk ≤ rows.length ∧ Lock G (redN G.inv (rows.map fun r : List Int => r.map G.ic) c) ri rk)
        ⟨s1, 0, _, ws, none, none, none, none, none, rfl, hR, hlen0, P0, (fun r hr => by
          obtain ⟨r0, h0, rfl⟩ := List.mem_map.mp hr
          rw [List.length_map]
          exact hrow r0 h0), (fun r hr x hx => by
          obtain ⟨r0, h0, rfl⟩ := List.mem_map.mp hr
          obtain ⟨x0, hx0, rfl⟩ := List.mem_map.mp hx
          have hd := hdr r0 h0 x0 hx0
          refine itm_rest ?_
          have : x0.natAbs ≤ 2 := by
            unfold Drawn at hd
            omega
          show x0.natAbs ≤ 8
          omega), Nat.zero_le _, Lock.start G rows⟩ (fun c σ H' hc hP => ?_) fun σ H' hP => ?_
      · obtain ⟨s2, rk, ri, vs, y4, y5, y6, y7, y8, rfl, hR2, hril, hPt, hrw, hit, hrk, lock⟩ := hP
        have e0 : (0 : Int) + (c : Int) = c := Int.zero_add _
        rw [e0]
        have hvl := hPt.1
        have item : ∀ t, t < rows.length → (ri.getD t []).length = wd ∧ ∀ x, x ∈ ri.getD t [] → Itm G c x := fun t ht => by
          have h1 : ri[t]? = some (ri[t]'(by omega)) := List.getElem?_eq_getElem _
          rw [getD_at h1]
          exact ⟨hrw _ (List.getElem_mem _), hit _ (List.getElem_mem _)⟩
        have cell : ∀ (r : List Int) (k : Nat), r.length = wd → k < wd → (r.map V.int)[k]? = some (.int (r.getD k 0)) ∧ r.getD k 0 ∈ r := fun r k h1 h2 => by
          have h3 : r[k]? = some (r[k]'(by omega)) := List.getElem?_eq_getElem _
          rw [List.getElem?_map, h3, getD_at h3]
          exact ⟨rfl, List.getElem_mem _⟩
        dsimp only [gName]
        refine ⟨_, rfl, ?_⟩
        refine while_by (fun σ H'' => H'' = H' ∧ ∃ at_ : Nat, σ = [some (.int G.p), some (.ref R), some (.int wd), some (.int rk), some (.int c), some (.int at_), y6, y7, y8, none, none, none] ∧ rk ≤ at_ ∧ at_ ≤ rows.length ∧ ∀ t, rk ≤ t → t < at_ → (ri.getD t []).getD c 0 = 0) (fun σ _ => match σ with
          | _ :: _ :: _ :: _ :: _ :: some (.int k) :: _ => rows.length - k.toNat
          | _ => 0) ⟨rfl, rk, rfl, Nat.le_refl _, hrk, fun t h1 h2 => by omega⟩ (fun σ H'' hP => ?_) fun σ H Q Q' h c => ?_
        · obtain ⟨rfl, at_, rfl, ha1, ha2, hz⟩ := hP
          have tst : ∀ Q' : Bool → Hp → Prop, Q' (decide (at_ < rows.length ∧ (ri.getD at_ []).getD c 0 = 0)) H'' → tAnd (tTest (tOp (rI0 fun i j => .bl (decide (i < j))) (tVar 5) (tCB (rLenS K) (tCons (tVar 1) tNil)))) (tTest (tOp rEq (tOp (rIxL K) (tOp (rIxL K) (tVar 1) (tVar 5)) (tVar 4)) (tC (.int 0))))
              [some (.int G.p), some (.ref R), some (.int wd), some (.int rk), some (.int c), some (.int at_), y6, y7, y8, none, none, none] H'' Q' := fun Q' hQ => by
            refine ⟨_, rfl, _, rfl, R, vs, rfl, .inl (SqL.of hR2), _, _, rfl, rfl, _, rfl, ?_⟩
            rw [hvl]
            by_cases h : at_ < rows.length
            · rw [decide_eq_true (by omega)]
              refine iteT ?_
              obtain ⟨v, hv, ⟨b, rfl, hb⟩, _⟩ := hPt.2 at_ h
              obtain ⟨il, _⟩ := item at_ h
              refine ⟨_, rfl, _, rfl, R, vs, _, _, rfl, rfl, SqL.of hR2, atI_nat hv, _, rfl, b, _, _, _, rfl, rfl, SqL.of hb, atI_nat (cell _ c il hc).1, rfl, _, rfl, ?_⟩
              have e : decide (V.int ((ri.getD at_ []).getD c 0) = V.int 0) = decide (at_ < rows.length ∧ (ri.getD at_ []).getD c 0 = 0) := by
                rw [Bool.eq_iff_iff]
                simp [h]
              rw [e]
              exact hQ
            · rw [decide_eq_false (by omega)]
              refine iteF ?_
              rw [decide_eq_false (fun z => h z.1)] at hQ
              exact hQ
          refine tst _ ?_
          refine ite2 (fun e => ?_) (fun e => ?_)
          · obtain ⟨h1, h2⟩ := of_decide_eq_true e
            refine ⟨_, rfl, _, _, rfl, rfl, ?_⟩
            refine ⟨⟨rfl, at_ + 1, rfl, by omega, by omega, fun t h3 h4 => ?_⟩, ?_⟩
            · by_cases h5 : t = at_
              · rw [h5]
                exact h2
              · exact hz t h3 (by omega)
            · show rows.length - ((at_ : Int) + 1).toNat < rows.length - (at_ : Int).toNat
              omega
          · have hne : ¬ (at_ < rows.length ∧ (ri.getD at_ []).getD c 0 = 0) := fun z => e (decide_eq_true z)
            refine ⟨_, rfl, _, rfl, R, vs, rfl, .inl (SqL.of hR2), _, _, rfl, rfl, _, rfl, ?_⟩
            rw [hvl]
            by_cases hat : at_ < rows.length
            · rw [decide_eq_true (by omega)]
              refine iteT ?_
              have hnz : (ri.getD at_ []).getD c 0 ≠ 0 := fun z => hne ⟨hat, z⟩
              have hrkN : rk < rows.length := by omega
              obtain ⟨vr, hvr, hir, hnr⟩ := hPt.2 rk hrkN
              obtain ⟨va, hva, hia, hna⟩ := hPt.2 at_ hat
              refine ⟨_, rfl, _, rfl, R, vs, _, _, rfl, rfl, SqL.of hR2, atI_nat hvr, _, rfl, _, rfl, R, vs, _, _, rfl, rfl, SqL.of hR2, atI_nat hva, (by show 2 ≤ sizeLine; decide), fun t nt => ?_⟩
              have st : Same H'' (upd H'' t (.tup [vr, va])) := same_upd nt
              have hR3 := st _ _ hR2
              have P1 : Pt R rows.length (swapped ri rk at_) (upd (upd H'' t (.tup [vr, va])) R (.lst (vs.set at_ vr))) (vs.set at_ vr) := (hPt.mono st).set (f' := swapped ri rk at_) (by
                unfold swapped
                rw [if_pos rfl]
                exact mo_irow _ _ _ _ st hir) hnr fun u _ hu => by
                  unfold swapped
                  rw [if_neg hu]
              have P2 : Pt R rows.length (mixR G.p wd c ri rk at_ (rk + 1)) (upd (upd (upd H'' t (.tup [vr, va])) R (.lst (vs.set at_ vr))) R (.lst ((vs.set at_ vr).set rk va))) ((vs.set at_ vr).set rk va) := P1.set (f' := mixR G.p wd c ri rk at_ (rk + 1)) (by
                unfold mixR
                rw [if_pos rfl]
                exact irow_mut hna (mo_irow _ _ _ _ st hia)) hna fun u _ hu => by
                  unfold mixR
                  rw [if_neg hu, if_neg (by omega)]
              have hHz : Same H (upd (upd (upd H'' t (.tup [vr, va])) R (.lst (vs.set at_ vr))) R (.lst ((vs.set at_ vr).set rk va))) := same_mut nR (same_mut nR (s2.trans st))
              have hRz : (upd (upd (upd H'' t (.tup [vr, va])) R (.lst (vs.set at_ vr))) R (.lst ((vs.set at_ vr).set rk va))) R = some (.lst ((vs.set at_ vr).set rk va)) := upd_same
              have ix : ∀ (xs : List V) (j : Nat), xs.length = rows.length → j < rows.length → ixN xs.length (j : Int) = some j := fun xs j h1 h2 => by
                unfold ixN
                rw [h1, if_pos (by omega), if_pos (by omega)]
                rfl
              refine ⟨t, [vr, va], rfl, SqT.of upd_same, rfl, _, _, rfl, _, rfl, _, rfl, R, vs, _, at_, rfl, rfl, hR3, ix _ _ hvl hat, _, _, rfl, _, rfl, _, rfl, R, vs.set at_ vr, _, rk, rfl, rfl, upd_same, ix _ _ (by rw [List.length_set]; exact hvl) hrkN, rfl, ?_⟩
              generalize (upd (upd (upd H'' t (.tup [vr, va])) R (.lst (vs.set at_ vr))) R (.lst ((vs.set at_ vr).set rk va))) = Hz at *
              generalize (vs.set at_ vr).set rk va = vz at *
              have hvz := P2.1
              obtain ⟨ial, iai⟩ := item at_ hat
              obtain ⟨v0, hv0, ⟨b0, rfl, hb0⟩, _⟩ := P2.2 rk hrkN
              have hb0' : Hz b0 = some (.lst ((ri.getD at_ []).map V.int)) := by
                unfold mixR at hb0
                rw [if_pos rfl] at hb0
                exact hb0
              refine ⟨_, rfl, _, rfl, R, vz, _, _, rfl, rfl, SqL.of hRz, atI_nat hv0, _, rfl, b0, _, _, _, rfl, rfl, SqL.of hb0', atI_nat (cell _ c ial hc).1, ?_⟩
              have hhead := iai _ (cell _ c ial hc).2
              refine ⟨_, rfl, _, _, rfl, rfl, _, rfl, R, vz, rfl, .inl (SqL.of hRz), _, _, rfl, ⟨by omega, by omega, by omega, by omega⟩, ?_⟩
              have swl : ∀ u, u < rows.length → (swapped ri rk at_ u).length = wd ∧ ∀ x, x ∈ swapped ri rk at_ u → Itm G c x := fun u hu => by
                unfold swapped
                split
                · exact item rk hrkN
                · exact item u hu
              refine for_range (lo := (rk : Int) + 1) (n := ((vz.length : Int) - ((rk : Int) + 1)).toNat) (fun i σ H3 => Same H H3 ∧ ∃ (v3 : List V) (y7 y8 : Option V), σ = [some (.int G.p), some (.ref R), some (.int wd), some (.int rk), some (.int c), some (.int at_), some (.int ((ri.getD at_ []).getD c 0)), y7, y8, none, none, none] ∧ H3 R = some (.lst v3) ∧ Pt R rows.length (mixR G.p wd c ri rk at_ (rk + 1 + i)) H3 v3)
                ⟨hHz, vz, y7, y8, rfl, hRz, P2⟩ (fun i σ H3 hi hP => ?_) fun σ H3 hP => ?_
              · obtain ⟨s3, v3, y7', y8', rfl, hR4, P3⟩ := hP
                have hi2 : rk + 1 + i < rows.length := by omega
                have ei : ((rk : Int) + 1 + (i : Int)) = ((rk + 1 + i : Nat) : Int) := by omega
                rw [ei]
                obtain ⟨vt, hvt, ⟨bt, rfl, hbt⟩, _⟩ := P3.2 (rk + 1 + i) hi2
                have hbt' : H3 bt = some (.lst ((swapped ri rk at_ (rk + 1 + i)).map V.int)) := by
                  unfold mixR at hbt
                  rw [if_neg (by omega), if_neg (by omega)] at hbt
                  exact hbt
                obtain ⟨vk, hvk, ⟨bk, rfl, hbk⟩, _⟩ := P3.2 rk hrkN
                have hbk' : H3 bk = some (.lst ((ri.getD at_ []).map V.int)) := by
                  unfold mixR at hbk
                  rw [if_pos rfl] at hbk
                  exact hbk
                obtain ⟨sl, si⟩ := swl (rk + 1 + i) hi2
                have hcc := si _ (cell _ c sl hc).2
                dsimp only [gName]
                refine ⟨_, rfl, _, rfl, R, v3, _, _, rfl, rfl, SqL.of hR4, atI_nat hvt, _, rfl, bt, _, _, _, rfl, rfl, SqL.of hbt', atI_nat (cell _ c sl hc).1, ?_⟩
                dsimp only [gName]
                refine p_asgG ?_
                refine tlc_r (lo := 0) (n := wd) (H1 := H3) (ys := newRow G.p wd ((ri.getD at_ []).getD c 0) ((swapped ri rk at_ (rk + 1 + i)).getD c 0) (swapped ri rk at_ (rk + 1 + i)) (ri.getD at_ [])) (R := RInt) (N := Yes) (fun R r => ⟨_, rfl, _, rfl, by omega, by omega, r⟩) stay_int (by unfold newRow; rw [List.length_map, List.length_range]) (by unfold newRow; rw [List.length_map, List.length_range]; omega) (by intro x; rfl) (fun k y hy => ?_) (fun D H5 us nD s5 hD alD => ?_)
                · intro H6 s6 Q6 k6
                  have ek : (0 : Int) + (k : Int) = k := Int.zero_add _
                  rw [ek]
                  obtain ⟨hk, hy'⟩ := range_map_get hy
                  have c1 := cell _ k sl hk
                  have c2 := cell _ k ial hk
                  refine ⟨_, rfl, _, rfl, _, rfl, _, rfl, R, v3, _, _, rfl, rfl, SqL.of (s6 _ _ hR4), atI_nat hvt, _, rfl, bt, _, _, _, rfl, rfl, SqL.of (s6 _ _ hbt'), atI_nat c1.1, _, _, rfl, rfl, .inl (itm_64 (by omega) hhead), ?_⟩
                  refine ⟨_, rfl, _, rfl, _, rfl, R, v3, _, _, rfl, rfl, SqL.of (s6 _ _ hR4), atI_nat hvk, _, rfl, bk, _, _, _, rfl, rfl, SqL.of (s6 _ _ hbk'), atI_nat c2.1, _, _, rfl, rfl, .inl (itm_64 (by omega) hcc), _, _, rfl, rfl, G.p, _, rfl, k6 _ H6 (Same.refl _) ?_ yes_all⟩
                  rw [← hy']
                  rfl
                · have hnD : V.ref D ≠ .ref R := fun z => by
                    injection z with z
                    rw [z, hR4] at nD
                    cases nD
                  have hR5 := s5 _ _ hR4
                  refine ⟨_, rfl, _, rfl, R, v3, _, rk + 1 + i, rfl, rfl, hR5, ix _ _ P3.1 hi2, ?_⟩
                  refine ⟨same_mut nR (s3.trans s5), _, _, _, rfl, upd_same, ?_⟩
                  refine (P3.mono s5).set (f' := mixR G.p wd c ri rk at_ (rk + 1 + (i + 1))) ?_ hnD fun u _ hu => ?_
                  · unfold mixR
                    rw [if_neg (by omega), if_pos ⟨by omega, by omega⟩]
                    exact ⟨D, rfl, by rw [hD, al_int alD]⟩
                  · unfold mixR
                    by_cases h9 : u = rk
                    · rw [if_pos h9, if_pos h9]
                    · rw [if_neg h9, if_neg h9]
                      by_cases h8 : rk < u ∧ u < rk + 1 + i
                      · rw [if_pos h8, if_pos ⟨h8.1, by omega⟩]
                      · rw [if_neg h8, if_neg (by omega)]
              · obtain ⟨s3, v3, y7', y8', rfl, hR4, P3⟩ := hP
                have hend : rk + 1 + ((vz.length : Int) - ((rk : Int) + 1)).toNat = rows.length := by omega
                rw [hend] at P3
                refine ⟨_, rfl, _, _, rfl, rfl, ?_⟩
                have hnl : (newRows G.p wd c ri rk at_).length = rows.length := by
                  unfold newRows
                  rw [List.length_map, List.length_range, hril]
                have nit : ∀ r, r ∈ newRows G.p wd c ri rk at_ → r.length = wd ∧ ∀ x, x ∈ r → Itm G (c + 1) x := fun r hr => by
                  obtain ⟨u, hu, rfl⟩ := List.mem_map.mp hr
                  have hu' := List.mem_range.mp hu
                  rw [hril] at hu'
                  by_cases h1 : u < rk
                  · rw [if_pos h1]
                    obtain ⟨q1, q2⟩ := item u hu'
                    exact ⟨q1, fun x hx => (q2 x hx).up⟩
                  · rw [if_neg h1]
                    by_cases h2 : u = rk
                    · rw [if_pos h2]
                      exact ⟨ial, fun x hx => (iai x hx).up⟩
                    · rw [if_neg h2]
                      obtain ⟨q1, q2⟩ := swl u hu'
                      refine ⟨by unfold newRow; rw [List.length_map, List.length_range], fun x hx => ?_⟩
                      obtain ⟨k, hk, rfl⟩ := List.mem_map.mp hx
                      have hk' := List.mem_range.mp hk
                      exact itm_step hhead (q2 _ (cell _ k q1 hk').2) (q2 _ (cell _ c q1 hc).2) (iai _ (cell _ k ial hk').2)
                refine p_next ?_
                refine ⟨s3, rk + 1, newRows G.p wd c ri rk at_, v3, _, _, _, _, _, rfl, hR4, hnl, ⟨P3.1, fun u hu => ?_⟩, fun r hr => (nit r hr).1, fun r hr => (nit r hr).2, by omega, ?_⟩
                · obtain ⟨v, h1, h2, h3⟩ := P3.2 u hu
                  refine ⟨v, h1, ?_, h3⟩
                  rw [mix_end hril ha1 hu] at h2
                  exact h2
                · rw [redN_succ]
                  refine lock.some (RInv.all G.minv (w := wd) (fun r hr => ?_) c).wr hrw ha1 (by rw [hril]; exact hat) ?_
                  · obtain ⟨r0, h0, rfl⟩ := List.mem_map.mp hr
                    rw [List.length_map]
                    exact hrow r0 h0
                  · exact fun z => hnz ((ic_eq0 G (iai _ (cell _ c ial hc).2).1).mp z)
            · rw [decide_eq_false (by omega)]
              refine iteF ?_
              refine p_next ?_
              dsimp only
              refine ⟨s2, rk, ri, vs, _, _, _, _, _, rfl, hR2, hril, hPt, hrw, fun r hr x hx => (hit r hr x hx).up, hrk, ?_⟩
              rw [redN_succ]
              refine lock.none fun r hr => ?_
              obtain ⟨u, hu, h1, h2⟩ := mem_drop.mp hr
              have h3 := hz u h1 (by omega)
              rw [getD_at (show ri[u]? = some r by rw [← h2]; exact List.getElem?_eq_getElem hu)] at h3
              rw [h3]
              exact ic_zero G
        · obtain ⟨x1, h1, x2, h2, p, ys, e, hs, i, j, e1, e2, k, e3, hif⟩ := c
          refine ⟨x1, h1, x2, h2, p, ys, e, hs, i, j, e1, e2, k, e3, ?_⟩
          cases k with
          | false => exact h _ _ hif
          | true =>
            obtain ⟨z1, g1, z2, g2, p', ys', i', v', f1, f2, f3, f4, z3, g3, p'', ys'', i'', v'', f5, f6, f7, f8, sc, k', f9, qq⟩ := hif
            exact ⟨z1, g1, z2, g2, p', ys', i', v', f1, f2, f3, f4, z3, g3, p'', ys'', i'', v'', f5, f6, f7, f8, sc, k', f9, h _ _ qq⟩
      · obtain ⟨s2, rk, ri, vs, y4, y5, y6, y7, y8, rfl, hR2, hril, hPt, hrw, hit, hrk, lock⟩ := hP
        have := q H' s2
        rw [← lock.cnt] at this
        exact ⟨_, rfl, this⟩
end
end K51

set_option Elab.async false
set_option linter.all false
set_option maxRecDepth 100000
set_option maxHeartbeats 4000000
set_option autoImplicit false
namespace K51
open PySem PySem.Spec PyProof.Rows L2 HT
theorem fm_congr {α β : Type} {f g : α → Option β} : ∀ {l : List α}, (∀ a, a ∈ l → f a = g a) → l.filterMap f = l.filterMap g
  | [], _ => rfl
  | a :: l, h => by
    rw [List.filterMap_cons, List.filterMap_cons, h a (List.mem_cons_self ..), fm_congr (l := l) fun b hb => h b (List.mem_cons_of_mem _ hb)]
section
variable {prog : Program} {w : World} {A : Around} {E : Value → Shared → Prop} {s : Shared}
theorem adjust_rev (n : Nat) : Builtin.Slice.sliceAdjust none none (-1) (n : Int) = ((n : Int) - 1, -1) := by
  unfold Builtin.Slice.sliceAdjust
  simp
theorem places_rev (n : Nat) : Builtin.Slice.slicePlaces ((n : Int) - 1) (-1) (-1) = n := by
  unfold Builtin.Slice.slicePlaces
  simp
  omega
theorem sliceApplied_rev {sl : Addr} {u : Tok} {n : Nat} {Q : Int × Int × Nat → Shared → Prop} (hs : s.heap.IsSliceOf sl .none .none (.int (-1) u)) (h : Q ((n : Int) - 1, -1, n) s) : wpAny (model prog w) A (Builtin.Slice.sliceApplied (.ref sl) (pure (n : Int))) Q E s := by
  obtain ⟨os, hos, hcs, hds⟩ := id hs
  unfold Builtin.Slice.sliceApplied Builtin.Slice.sliceFields
  refine wpAny_bind (wpAny_bind (wpAny_field hos hds (x := .none) rfl (wpAny_bind (wpAny_field hos hds (x := .none) rfl (wpAny_bind (wpAny_field hos hds (x := .int (-1) u) rfl (wpAny_pure ?_)))))))
  refine wpAny_bind (slicePart_int ?_)
  show wpAny _ _ (if ((-1 : Int) == 0) = true then _ else _) _ _ s
  rw [if_neg (by decide)]
  refine wpAny_bind (slicePart_none (wpAny_bind (slicePart_none (wpAny_bind (wpAny_pure ?_)))))
  show wpAny _ _ (match Builtin.Slice.sliceAdjust none none (-1) (n : Int) with | (lo, hi) => pure (lo, (-1 : Int), Builtin.Slice.slicePlaces lo hi (-1))) _ _ s
  rw [adjust_rev n]
  show wpAny _ _ (pure ((n : Int) - 1, (-1 : Int), Builtin.Slice.slicePlaces ((n : Int) - 1) (-1) (-1))) _ _ s
  rw [places_rev]
  exact wpAny_pure h
theorem pick_rev (xs : Array Value) : ((List.range xs.size).filterMap fun (m : Nat) => xs[((xs.size : Int) - 1 + (m : Int) * (-1)).toNat]?).toArray = xs.toList.reverse.toArray := by
  congr 1
  have h1 : ∀ m, m ∈ List.range xs.size → xs[((xs.size : Int) - 1 + (m : Int) * (-1)).toNat]? = xs.toList.reverse[m]? := fun m hm => by
    have hm' := List.mem_range.mp hm
    rw [List.getElem?_reverse (by rw [Array.length_toList]; exact hm'), Array.length_toList, Array.getElem?_toList]
    congr 1
    omega
  rw [fm_congr h1]
  have h2 := pick_run xs.toList.reverse.toArray 0 xs.size
  rw [List.filterMap_map] at h2
  have e2 : ((fun x => xs.toList.reverse.toArray[x]?) ∘ fun x => 0 + x) = fun m => xs.toList.reverse[m]? := by
    funext m
    show xs.toList.reverse.toArray[0 + m]? = _
    rw [Nat.zero_add]
    simp
  rw [e2] at h2
  rw [h2]
  show (xs.toList.reverse.drop 0).take xs.size = _
  rw [List.drop_zero, List.take_of_length_le (by rw [List.length_reverse, Array.length_toList]; exact Nat.le_refl _)]
theorem getItem_tuple_rev {t sl : Addr} {items : Array Value} {u : Tok} {Q : Value → Shared → Prop} (ht : IsTup s.heap t items) (hs : s.heap.IsSliceOf sl .none .none (.int (-1) u))
    (h : Q (.ref s.heap.objs.size) { s with heap := s.heap.push { cls := .type "tuple", data := .seq items.toList.reverse.toArray } })
    (hsz : items.size ≤ sizeLine) : wpAny (model prog w) A (getItem (.ref t) (.ref sl)) Q E s := by
  have htake : sizeOk (.seq items.toList.reverse.toArray) := by
    show items.toList.reverse.toArray.size ≤ sizeLine
    rw [List.size_toArray, List.length_reverse, Array.length_toList]
    exact hsz
  obtain ⟨os, hos, hcs, hds⟩ := id hs
  have hTs : s.TypeIs (.ref sl) "slice" := ⟨os, hos, hcs⟩
  unfold getItem
  try with_reducible refine wpAny_holding ?_
  first | refine wpAny_bind (wpAny_pure ?_) | skip
  refine wpAny_bind (wpAny_sequenceKey ht.typeIs (by decide) ?_)
  refine wpAny_bind (wpAny_callSpecial?_slot (name := Str.ofString "__getitem__") ht.typeIs PyProof.Rows.slot_tuple_getitem
    (wpAny_call_entry PyProof.Rows.slot_tuple_getitem ht.typeIs entry_tuple_getitem ?_ (args_tuple_getitem _ _)))
  show wpAny _ _ (Builtin.Tuple.tupleItemsOf (.ref t) >>= _) _ _ s
  refine wpAny_bind (tupleItemsOf_ ht ?_)
  refine wpAny_bind (wpAny_typeOf hTs ?_)
  rw [if_pos (by decide)]
  refine wpAny_bind (sliceApplied_rev hs ?_)
  have hno : ¬ ((((items.size : Int) - 1) == 0 && (-1 : Int) == 1 && items.size == items.size) = true) := by
    simp
  show wpAny _ _ (if (((items.size : Int) - 1) == 0 && (-1 : Int) == 1 && items.size == items.size) = true then _ else _) _ _ s
  rw [if_neg hno, pick_rev]
  first
    | exact wpAny_bind (m := Builtin.Tuple.tupleExact _) (wpAny_newObj_type (wpAny_pure ⟨_, rfl, wpAny_pure h⟩) htake)
    | exact wpAny_bind (m := Builtin.Tuple.tupleExact _) (wpAny_newObj_type (wpAny_bind (wpAny_pure (wpAny_pure ⟨_, rfl, wpAny_pure h⟩))) htake)
    | exact wpAny_bind (wpAny_bind (m := Builtin.Tuple.tupleExact _) (wpAny_newObj_type (wpAny_pure (wpAny_pure ⟨_, rfl, wpAny_pure h⟩)) htake))
    | exact wpAny_bind (wpAny_bind (m := Builtin.Tuple.tupleExact _) (wpAny_newObj_type (wpAny_pure ⟨_, rfl, wpAny_pure h⟩) htake))
end
section
variable {X : Cx}
/-- t[::-1] of a tuple -/
def tRevT (K : PySem.W.Frag) (te : TE) : TE := fun σ H Q => te σ H fun x H1 => ∃ a xs, x = .ref a ∧ SqT K H1 a xs ∧ ∀ p, H1 p = none → Q (.ref p) (upd H1 p (.tup xs.reverse))
theorem pe_revT {e : Expr} {te : TE} {k : Nat} {p1 p2 p3 pos : Pos} (he : PE X e te) : PE X (.Subscript e (.Slice none none (some (.UnaryOp .USub (.Constant (.int 1) k p1) p2)) p3) pos) (tRevT X.K te) := by
  refine ⟨fun pins s σ H Q I h => ?_⟩
  refine Subscript_ (thn (he.run pins s σ H _ I h) fun v s1 ⟨x, H1, I1, r1, q1⟩ => ?_)
  obtain ⟨a, xs, ex, hx, q⟩ := q1
  subst ex
  cases r1
  have hst : L2.PO X (some (.UnaryOp .USub (.Constant (.int 1) k p1) p2)) (tPart (tUn (rU fun i => .int (-i)) (tC (.int 1)))) := po_some (pe_un un_neg pe_int)
  refine wpAny_Slice (thn (po_none.run pins s1 σ H1 (fun o H2 => o = none ∧ H2 = H1) I1 ⟨rfl, rfl⟩) fun vl s2 ⟨l, H2, I2, pl, el, e2⟩ => ?_)
  subst el e2
  refine thn (po_none.run pins s2 σ H2 (fun o H3 => o = none ∧ H3 = H2) I2 ⟨rfl, rfl⟩) fun vu s3 ⟨u, H3, I3, pu, eu, e3⟩ => ?_
  subst eu e3
  refine thn (hst.run pins s3 σ H3 (fun o H4 => o = some (-1) ∧ H4 = H3) I3 ⟨1, rfl, -1, rfl, rfl, rfl⟩) fun vs s4 ⟨o, H4, I4, ps, eo, e4⟩ => ?_
  subst eo e4
  cases pl
  cases pu
  obtain ⟨tk, rfl⟩ : ∃ tk, vs = .int (-1) tk := by
    cases ps
    exact ⟨_, rfl⟩
  have I5 : Inv X pins σ H4 { s4 with heap := s4.heap.push { cls := .type "slice", data := .fields #[.none, .none, .int (-1) tk] } } := I4.kept (t' := s4.toks) fun b ob q => Heap.get?_push_of_some _ q
  obtain ⟨its, r, ht, hz⟩ := I5.tuple hx
  have hlen := r.length
  show wpAny (model X.prog X.w) X.A (subscriptTail e (.Slice none none (some (.UnaryOp .USub (.Constant (.int 1) k p1) p2)) p3) (.ref a) (.ref s4.heap.objs.size)) (EP X pins σ Q) X.xe { s4 with heap := s4.heap.push { cls := .type "slice", data := .fields #[.none, .none, .int (-1) tk] } }
  refine tail_any (ops := [.ref a, .ref s4.heap.objs.size]) ht.typeIs (PyProof.Rows.slot_tuple_getitem.lookup) ?_ (by with_unfolding_all rfl)
  refine getItem_tuple_rev ht (Heap.IsSliceOf.new _ .none .none (.int (-1) tk)) ?_ (by rw [List.size_toArray]; omega)
  refine ⟨.ref _, _, I5.laid (t' := s4.toks) (o := .tup xs.reverse) (fun b ob q => Heap.get?_push_of_some _ q) (Nat.le_refl _) ?_, rfl, q _ (I5.hok.fresh (Nat.le_refl _))⟩
  exact ⟨by rw [List.length_reverse]; exact hz, _, r.reverse, IsTup.new _ _⟩
/-- a bool and an int -/
def rBI : R2 := fun x y H Q => ∃ k j, x = .bl k ∧ y = .int j ∧ Q (.int ((if k = true then (1 : Int) else 0) + j)) H
def rAddI : R2 := fun x y H Q => rBI x y H Q ∨ rI0 (fun i j => .int (i + j)) x y H Q
theorem op_addI : OpR X (binaryOp .Add) rAddI := by
  intro pins s σ H x y v u Q I rx ry h
  rcases h with ⟨k, j, rfl, rfl, q⟩ | h
  · cases rx
    obtain ⟨t, rfl⟩ := ry
    exact IntBool.add_bool_int ⟨.int _, H, I.tok _, ⟨_, rfl⟩, q⟩
  · exact op_add pins s σ H x y v u Q I rx ry h
end
end K51

set_option Elab.async false
set_option linter.all false
set_option maxRecDepth 100000
set_option maxHeartbeats 4000000
set_option autoImplicit false
namespace K51
open PySem PySem.Spec PyProof.Rows L2
section
variable {P : Program} {w : World} {K : PySem.W.Frag} {mg : Str → Option Value} {base : Heap} {F : Type} [Lean.Grind.CommRing F] [DecidableEq F]
theorem mk_G2 {p : Int} {H : Hp} {Q : Addr → Hp → Prop} {E : XK} (hp : p = 0 ∨ SmP p) (k : ∀ x H', Same H H' → (∃ dx, H' x = some (.ins (He.ga K "Ground") dx [("p", .int p)])) → Q x H') :
    ∀ x dx, H x = none → H dx = none → dx ≠ x → spGinit K (.ref x :: ([.int p] ++ [])) (upd (upd H dx (.own x)) x (.ins (He.ga K "Ground") dx [])) (fun v H2 => v = .non ∧ Q x H2) E := fun x dx h1 h2 h3 =>
  ⟨x, dx, p, rfl, upd_same, hp, rfl, k _ _ (made_same h1 h2) ⟨dx, upd_same⟩⟩
theorem lim_sub {G : Gnd F} {b n : Nat} {l l' : List (D F)} (h : Lim G b n (.tup l)) (hl : l'.length ≤ n + 1) (hs : ∀ d, d ∈ l' → d ∈ l) : Lim G (b + 1) (n + 1) (.tup l') := .tup hl fun d hd => (h.mem (hs d hd)).mono (by omega) (by omega)
def spOther (K : PySem.W.Frag) (G : Gnd F) : L2.Sp := fun vs H Q _ => ∃ L g v d b n, vs = [.ref L, g, v] ∧ Nums H L ∧ PrmP G.p ∧ GAt K H g G.p ∧ RepD K G H v d ∧ Lim G b n d ∧ b ≤ 300 ∧ n ≤ 1000 ∧
  ∀ u d' H', Kp L H H' → Nums H' L → RepD K G H' u d' → Lim G (b + 1) (n + 1) d' → Q u H'
theorem ok_other (T : Tx K mg) (G : Gnd F) : FnOk P w K mg base CX0 10 (He.fAd K ("_law_other", none)) (fdOf K (He.fAd K ("_law_other", none))) ["_law_numbers_here", "_law_ground_here", "_law_data"] (spOther K G) := by
  refine fok (F_law_other T.c) sc_law_other (fun vs H Q E h => ?_) (fun cdv A outer s H vs Q E hr h => ?_)
  · obtain ⟨L, g, v, d, b, n, rfl, _⟩ := h
    rfl
  · obtain ⟨L, g, v, d, b, n, rfl, hN, hprm, hg, hd, hL, hb300, hn1000, q⟩ := h
    have nd := sc_law_other.nd
    obtain ⟨ds, hds, hbn⟩ := B1_G_number T.c
    obtain ⟨es, hes, hbe⟩ := B1_G_init T.c
    have clG : Cls K (He.ga K "Ground") := He.cls_ok (a_cls_Ground T.c)
    refine ⟨_, pss_cons (ps_set (i := 3) nd rfl (.inl rfl) (pe_call (ok_next T) (hr.mono (by decide)) (by rfl) (T.glo (a_glo_law_next T.c)) (F_law_next T.c).kp (B_law_next T.c) .nil pass0 (pa_cons (pv 0) (pa_cons pe_int pa_nil))))
      (pss_cons (ps_if (pt_cmpR op_eq (pv 3) pe_int (nomark _)) (pss_one (ps_ret (pe_tup pa_nil))) pss_nil)
      (pss_cons (ps_if (pt_cmpR op_eq (pv 3) pe_int (nomark _)) (pss_one (ps_ret (pe_op op_sub (pe_call (ok_next T) (hr.mono (by decide)) (by rfl) (T.glo (a_glo_law_next T.c)) (F_law_next T.c).kp (B_law_next T.c) .nil pass0 (pa_cons (pv 0) (pa_cons pe_int pa_nil))) pe_int))) pss_nil)
      (pss_cons (ps_if (pt_cmpR op_eq (pv 3) pe_int (nomark _)) (pss_one (ps_ret (pe_meth (pv 1) clG (He.meth_ok (a_meth_G_number T.c)) (ok_number T G) (hr.mono (by decide)) hbn hds pass0 (pa_cons (pe_op op_sub (pe_call (ok_next T) (hr.mono (by decide)) (by rfl) (T.glo (a_glo_law_next T.c)) (F_law_next T.c).kp (B_law_next T.c) .nil pass0 (pa_cons (pv 0) (pa_cons pe_int pa_nil))) pe_int) pa_nil)))) pss_nil)
      (pss_cons (ps_if (PW.pt (pw_and (pt_cmpR op_eq (pv 3) pe_int (nomark _)) (pw_and1 (pt_val (pe_meth (pv 1) clG (He.meth_ok (a_meth_G_is_member T.c)) (ok_is_member T G) (hr.mono (by decide)) (B_G_is_member T.c) .nil pass0 (pa_cons (pv 2) pa_nil)))))) (pss_one (ps_ret (pe_op (opN_add T G (hr.mono (by decide))) (pv 2) (pe_meth0 (pv 1) clG (He.meth_ok (a_meth_G_one T.c)) (ok_one T G) hr (B_G_one T.c) .nil pass0)))) pss_nil)
      (pss_cons (ps_if (PW.pt (pw_and (pt_cmpR op_eq (pv 3) pe_int (nomark _)) (pw_and1 (pt_val (pe_meth (pv 1) clG (He.meth_ok (a_meth_G_is_member T.c)) (ok_is_member T G) (hr.mono (by decide)) (B_G_is_member T.c) .nil pass0 (pa_cons (pv 2) pa_nil)))))) (pss_one (ps_ret (pe_fld (pv 2) rfl))) pss_nil)
      (pss_cons (ps_if (PW.pt (pw_and (pt_cmpR op_eq (pv 3) pe_int (nomark _)) (pw_and1 (pt_val (pe_callB call_isi (by rfl) (T.free (a_free_isinstance T.c)) boot_isi (pa_cons (pv 2) (pa_cons (pe_bltn (v := .ty "tuple") (by rfl) (T.free (a_free_tuple T.c)) boot_ttuple rfl) pa_nil))))))) (pss_one (ps_ret (pe_callTy (listOf (K := K) rfl) (by rfl) (T.free (a_free_list T.c)) boot_tlist (pa_cons (pv 2) pa_nil)))) pss_nil)
      (pss_cons (ps_if (PW.pt (pw_and (pt_cmpR op_eq (pv 3) pe_int (nomark _)) (pw_and1 (pt_val (pe_callB call_isi (by rfl) (T.free (a_free_isinstance T.c)) boot_isi (pa_cons (pv 2) (pa_cons (pe_bltn (v := .ty "tuple") (by rfl) (T.free (a_free_tuple T.c)) boot_ttuple rfl) pa_nil))))))) (pss_one (ps_ret (pe_slice sl_tupA (pv 2) po_none (po_some (pe_un un_neg pe_int))))) pss_nil)
      (pss_cons (ps_if (PW.pt (pw_and (pt_cmpR op_eq (pv 3) pe_int (nomark _)) (pw_and1 (pt_val (pe_callB call_isi (by rfl) (T.free (a_free_isinstance T.c)) boot_isi (pa_cons (pv 2) (pa_cons (pe_bltn (v := .ty "tuple") (by rfl) (T.free (a_free_tuple T.c)) boot_ttuple rfl) pa_nil))))))) (pss_one (ps_ret (pe_op op_catA (pv 2) (pe_slice sl_tupA (pv 2) po_none (po_some pe_int))))) pss_nil)
      (pss_cons (ps_if (PW.pt (pw_and (pt_cmpR op_eq (pv 3) pe_int (nomark _)) (pw_and1 (pt_val (pe_callB call_isi (by rfl) (T.free (a_free_isinstance T.c)) boot_isi (pa_cons (pv 2) (pa_cons (pe_bltn (v := .ty "tuple") (by rfl) (T.free (a_free_tuple T.c)) boot_ttuple rfl) pa_nil))))))) (pss_one (ps_ret (pe_revT (pv 2)))) pss_nil)
      (pss_cons (ps_if (PW.pt (pw_and (pt_cmpR op_eq (pv 3) pe_int (nomark _)) (pw_and1 (pt_val (pe_callB call_isi (by rfl) (T.free (a_free_isinstance T.c)) boot_isi (pa_cons (pv 2) (pa_cons (pe_bltn (v := .ty "int") (by rfl) (T.free (a_free_int T.c)) boot_tint rfl) pa_nil))))))) (pss_one (ps_ret (pe_op op_addI (pv 2) pe_int))) pss_nil)
      (pss_cons (ps_if (pt_cmpR op_eq (pv 3) pe_int (nomark _)) (pss_one (ps_ret (pe_meth0 (pe_make (He.mkr_ok (a_mkr_Ground T.c)) (ok_G_init T) (hr.mono (by decide)) (by rfl) (T.glo (a_glo_Ground T.c)) (B_G_init T.c) .nil pass0 (pa_cons pe_int pa_nil)) clG (He.meth_ok (a_meth_G_one T.c)) (ok_one T g7) hr (B_G_one T.c) .nil pass0))) pss_nil)
      (pss_cons (ps_if (pt_cmpR op_eq (pv 3) pe_int (nomark _)) (pss_one (ps_ret (pe_meth (pe_make0 (He.mkr_ok (a_mkr_Ground T.c)) (ok_G_init T) (hr.mono (by decide)) (by rfl) (T.glo (a_glo_Ground T.c)) hbe hes pass0) clG (He.meth_ok (a_meth_G_number T.c)) (ok_number T gq) (hr.mono (by decide)) hbn hds pass0 (pa_cons pe_int pa_nil)))) pss_nil)
      (pss_cons (ps_if (pt_cmpR op_eq (pv 3) pe_int (nomark _)) (pss_one (ps_ret (pe_ix (ixL (K := K) rfl) (pe_lst (pa_cons pe_str (pa_cons pe_str (pa_cons pe_str (pa_cons pe_str (pa_cons pe_str (pa_cons pe_str (pa_cons pe_bl (pa_cons pe_bl pa_nil))))))))) (pe_call (ok_next T) (hr.mono (by decide)) (by rfl) (T.glo (a_glo_law_next T.c)) (F_law_next T.c).kp (B_law_next T.c) .nil pass0 (pa_cons (pv 0) (pa_cons pe_int pa_nil))) (fun _ _ => rfl)))) pss_nil)
      (pss_one (ps_ret pe_non))))))))))))))), ?_⟩
    refine ⟨_, rfl, L, 14, rfl, by decide, hN, fun k H1 h0 h14 kp1 hN1 => ?_⟩
    have hd1 := hd.kp hN.l kp1
    have hg1 := hg.kp hN.l kp1
    obtain ⟨ga, gx, rfl, hga1⟩ := id hg1
    have q1 : ∀ u d' H', Same H1 H' → RepD K G H' u d' → Lim G (b + 1) (n + 1) d' → Q u H' := fun u d' H' e r l => q u d' H' (kp1.trans (Same.kp L e)) (hN1.mono e) r l
    obtain ⟨ty, hty, hk1, hk2, _⟩ := tyD T hd1
    have hcases : k = 0 ∨ k = 1 ∨ k = 2 ∨ k = 3 ∨ k = 4 ∨ k = 5 ∨ k = 6 ∨ k = 7 ∨ k = 8 ∨ k = 9 ∨ k = 10 ∨ k = 11 ∨ k = 12 ∨ k = 13 := by omega
    rcases hcases with rfl | rfl | rfl | rfl | rfl | rfl | rfl | rfl | rfl | rfl | rfl | rfl | rfl | rfl
    · refine ⟨_, rfl, rfl, _, rfl, ?_⟩
      refine iteT ?_
      refine ⟨(by show 0 ≤ sizeLine; decide), fun t nt => q1 _ (.tup []) _ (same_upd nt) (.tupA upd_same Al.nil) (.tup (Nat.zero_le _) fun d hd => by cases hd)⟩
    · refine ⟨_, rfl, rfl, _, rfl, ?_⟩
      refine iteF ?_
      refine ⟨_, rfl, rfl, _, rfl, ?_⟩
      refine iteT ?_
      exact ⟨_, rfl, L, 4, rfl, by decide, hN1, fun k2 H2 h2 h4 kp2 hN2 => ⟨_, _, rfl, rfl, q _ (.int _) H2 (kp1.trans kp2) hN2 (.int _) (.int _)⟩⟩
    · refine ⟨_, rfl, rfl, _, rfl, ?_⟩
      refine iteF ?_
      refine ⟨_, rfl, rfl, _, rfl, ?_⟩
      refine iteF ?_
      refine ⟨_, rfl, rfl, _, rfl, ?_⟩
      refine iteT ?_
      refine ⟨_, rfl, ga, gx, _, rfl, hga1, rfl, _, rfl, L, 3, rfl, by decide, hN1, fun k2 H2 h2 h4 kp2 hN2 => ⟨_, _, rfl, rfl, _, k2 - 1, rfl, hg1.kp hN1.l kp2, (by
          have h9 : (k2 - 1).natAbs ≤ 1 := by omega
          exact Nat.le_trans h9 Nat.one_le_two_pow), fun v H3 e h => q v (.num (G.ic (k2 - 1))) H3 ((kp1.trans kp2).trans (Same.kp L e)) (hN2.mono e) (.num h) (.num ((bd_ic (a := 0) (by
          have h9 : (k2 - 1).natAbs ≤ 1 := by omega
          exact h9)).mono (by omega) (by omega)))⟩⟩
    · refine ⟨_, rfl, rfl, _, rfl, ?_⟩
      refine iteF ?_
      refine ⟨_, rfl, rfl, _, rfl, ?_⟩
      refine iteF ?_
      refine ⟨_, rfl, rfl, _, rfl, ?_⟩
      refine iteF ?_
      refine ⟨_, rfl, rfl, _, rfl, ?_⟩
      refine iteT ?_
      refine ⟨_, rfl, ga, gx, _, rfl, hga1, rfl, _, rfl, _, _, d, rfl, hg1, hd1, _, rfl, ?_⟩
      cases hm : memD d with
      | none =>
        refine iteF ?_
        refine ⟨_, rfl, rfl, _, rfl, ?_⟩
        refine iteF ?_
        refine iteF ?_
        refine ⟨_, rfl, rfl, _, rfl, ?_⟩
        refine iteF ?_
        refine iteF ?_
        refine ⟨_, rfl, rfl, _, rfl, ?_⟩
        refine iteF ?_
        refine iteF ?_
        refine ⟨_, rfl, rfl, _, rfl, ?_⟩
        refine iteF ?_
        refine iteF ?_
        refine ⟨_, rfl, rfl, _, rfl, ?_⟩
        refine iteF ?_
        refine iteF ?_
        refine ⟨_, rfl, rfl, _, rfl, ?_⟩
        refine iteF ?_
        refine iteF ?_
        refine ⟨_, rfl, rfl, _, rfl, ?_⟩
        refine iteF ?_
        refine ⟨_, rfl, rfl, _, rfl, ?_⟩
        refine iteF ?_
        refine ⟨_, rfl, rfl, _, rfl, ?_⟩
        refine iteF ?_
        exact q1 .non .non H1 (Same.refl _) .non .non
      | some x =>
        refine iteT ?_
        have hdn := memD_num hm
        subst hdn
        have hX : NumG K G H1 v x := by
          cases hd1 with
          | num h => exact h
        have hbx : bd G b b x := by
          cases hL with
          | num h => exact h
        refine ⟨_, rfl, _, rfl, ga, gx, _, rfl, hga1, rfl, _, rfl, hg1, fun v2 H2 e2 h2 => ?_⟩
        refine rOwn_bin (b1 := b) (b2 := 0) (hX.mono e2) h2 hbx bd_one (by omega) fun v3 H3 e3 h3 => ?_
        exact q1 v3 (.num (x + 1)) H3 (e2.trans e3) (.num h3) (.num ((bd_add hbx bd_one).mono (by omega) (by omega)))
    · refine ⟨_, rfl, rfl, _, rfl, ?_⟩
      refine iteF ?_
      refine ⟨_, rfl, rfl, _, rfl, ?_⟩
      refine iteF ?_
      refine ⟨_, rfl, rfl, _, rfl, ?_⟩
      refine iteF ?_
      refine ⟨_, rfl, rfl, _, rfl, ?_⟩
      refine iteF ?_
      refine iteF ?_
      refine ⟨_, rfl, rfl, _, rfl, ?_⟩
      refine iteT ?_
      refine ⟨_, rfl, ga, gx, _, rfl, hga1, rfl, _, rfl, _, _, d, rfl, hg1, hd1, _, rfl, ?_⟩
      cases hm : memD d with
      | none =>
        refine iteF ?_
        refine ⟨_, rfl, rfl, _, rfl, ?_⟩
        refine iteF ?_
        refine iteF ?_
        refine ⟨_, rfl, rfl, _, rfl, ?_⟩
        refine iteF ?_
        refine iteF ?_
        refine ⟨_, rfl, rfl, _, rfl, ?_⟩
        refine iteF ?_
        refine iteF ?_
        refine ⟨_, rfl, rfl, _, rfl, ?_⟩
        refine iteF ?_
        refine iteF ?_
        refine ⟨_, rfl, rfl, _, rfl, ?_⟩
        refine iteF ?_
        refine iteF ?_
        refine ⟨_, rfl, rfl, _, rfl, ?_⟩
        refine iteF ?_
        refine ⟨_, rfl, rfl, _, rfl, ?_⟩
        refine iteF ?_
        refine ⟨_, rfl, rfl, _, rfl, ?_⟩
        refine iteF ?_
        exact q1 .non .non H1 (Same.refl _) .non .non
      | some x =>
        refine iteT ?_
        have hdn := memD_num hm
        subst hdn
        have hX : NumG K G H1 v x := by
          cases hd1 with
          | num h => exact h
        by_cases hp : G.p = 0
        · obtain ⟨a, dx, rfl, ha⟩ := hX.q hp
          exact ⟨_, rfl, a, _, dx, _, _, rfl, ha, He.cls_ok (a_cls_Ratio T.c), He.noat_ok (a_noat_Ratio_n T.c), rfl, q1 _ (.int _) H1 (Same.refl _) (.int _) (.int _)⟩
        · obtain ⟨a, dx, rfl, ha⟩ := hX.r hp
          exact ⟨_, rfl, a, _, dx, _, _, rfl, ha, He.cls_ok (a_cls_Residue T.c), He.noat_ok (a_noat_Residue_n T.c), rfl, q1 _ (.int _) H1 (Same.refl _) (.int _) (.int _)⟩
    · refine ⟨_, rfl, rfl, _, rfl, ?_⟩
      refine iteF ?_
      refine ⟨_, rfl, rfl, _, rfl, ?_⟩
      refine iteF ?_
      refine ⟨_, rfl, rfl, _, rfl, ?_⟩
      refine iteF ?_
      refine ⟨_, rfl, rfl, _, rfl, ?_⟩
      refine iteF ?_
      refine iteF ?_
      refine ⟨_, rfl, rfl, _, rfl, ?_⟩
      refine iteF ?_
      refine iteF ?_
      refine ⟨_, rfl, rfl, _, rfl, ?_⟩
      refine iteT ?_
      refine ⟨_, rfl, v, _, ty, _, _, rfl, .ty "tuple", hty, hk1, _, rfl, ?_⟩
      cases hT : isTup d with
      | false =>
        refine iteF ?_
        refine ⟨_, rfl, rfl, _, rfl, ?_⟩
        refine iteF ?_
        refine iteF ?_
        refine ⟨_, rfl, rfl, _, rfl, ?_⟩
        refine iteF ?_
        refine iteF ?_
        refine ⟨_, rfl, rfl, _, rfl, ?_⟩
        refine iteF ?_
        refine iteF ?_
        refine ⟨_, rfl, rfl, _, rfl, ?_⟩
        refine iteF ?_
        refine iteF ?_
        refine ⟨_, rfl, rfl, _, rfl, ?_⟩
        refine iteF ?_
        refine ⟨_, rfl, rfl, _, rfl, ?_⟩
        refine iteF ?_
        refine ⟨_, rfl, rfl, _, rfl, ?_⟩
        refine iteF ?_
        exact q1 .non .non H1 (Same.refl _) .non .non
      | true =>
        refine iteT ?_
        obtain ⟨l, rfl⟩ := isTup_eq hT
        obtain ⟨ba, us, rfl, hba, al⟩ := RepD.al (a := 0) hd1
        have hll : us.length ≤ 1000 := by
          rw [al.len]
          exact Nat.le_trans hL.len hn1000
        have hll2 := hL.len
        exact ⟨_, rfl, ba, us, rfl, .inr (SqT.of hba), fun l2 nl => q1 _ .lst _ (same_upd nl) (.lst upd_same) .lst⟩
    · refine ⟨_, rfl, rfl, _, rfl, ?_⟩
      refine iteF ?_
      refine ⟨_, rfl, rfl, _, rfl, ?_⟩
      refine iteF ?_
      refine ⟨_, rfl, rfl, _, rfl, ?_⟩
      refine iteF ?_
      refine ⟨_, rfl, rfl, _, rfl, ?_⟩
      refine iteF ?_
      refine iteF ?_
      refine ⟨_, rfl, rfl, _, rfl, ?_⟩
      refine iteF ?_
      refine iteF ?_
      refine ⟨_, rfl, rfl, _, rfl, ?_⟩
      refine iteF ?_
      refine iteF ?_
      refine ⟨_, rfl, rfl, _, rfl, ?_⟩
      refine iteT ?_
      refine ⟨_, rfl, v, _, ty, _, _, rfl, .ty "tuple", hty, hk1, _, rfl, ?_⟩
      cases hT : isTup d with
      | false =>
        refine iteF ?_
        refine ⟨_, rfl, rfl, _, rfl, ?_⟩
        refine iteF ?_
        refine iteF ?_
        refine ⟨_, rfl, rfl, _, rfl, ?_⟩
        refine iteF ?_
        refine iteF ?_
        refine ⟨_, rfl, rfl, _, rfl, ?_⟩
        refine iteF ?_
        refine iteF ?_
        refine ⟨_, rfl, rfl, _, rfl, ?_⟩
        refine iteF ?_
        refine ⟨_, rfl, rfl, _, rfl, ?_⟩
        refine iteF ?_
        refine ⟨_, rfl, rfl, _, rfl, ?_⟩
        refine iteF ?_
        exact q1 .non .non H1 (Same.refl _) .non .non
      | true =>
        refine iteT ?_
        obtain ⟨l, rfl⟩ := isTup_eq hT
        obtain ⟨ba, us, rfl, hba, al⟩ := RepD.al (a := 0) hd1
        have hll : us.length ≤ 1000 := by
          rw [al.len]
          exact Nat.le_trans hL.len hn1000
        have hll2 := hL.len
        refine ⟨_, rfl, _, rfl, _, rfl, ba, us, rfl, SqT.of hba, fun _ => q1 _ _ H1 (Same.refl _) hd1 (hL.mono (by omega) (by omega)), fun _ p np => ?_⟩
        refine q1 _ (.tup (l.take (us.length - 1))) _ (same_upd np) (.tupA upd_same ?_) (lim_sub hL (by rw [List.length_take]; omega) fun d hd => List.mem_of_mem_take hd)
        have hc : cutV us none (some (-1)) = us.take (us.length - 1) := cut_m1
        show Al _ (cutV us none (some (-1))) _
        rw [hc]
        exact (al.imp fun v x h => RepD.mono h (same_upd np)).take _
    · refine ⟨_, rfl, rfl, _, rfl, ?_⟩
      refine iteF ?_
      refine ⟨_, rfl, rfl, _, rfl, ?_⟩
      refine iteF ?_
      refine ⟨_, rfl, rfl, _, rfl, ?_⟩
      refine iteF ?_
      refine ⟨_, rfl, rfl, _, rfl, ?_⟩
      refine iteF ?_
      refine iteF ?_
      refine ⟨_, rfl, rfl, _, rfl, ?_⟩
      refine iteF ?_
      refine iteF ?_
      refine ⟨_, rfl, rfl, _, rfl, ?_⟩
      refine iteF ?_
      refine iteF ?_
      refine ⟨_, rfl, rfl, _, rfl, ?_⟩
      refine iteF ?_
      refine iteF ?_
      refine ⟨_, rfl, rfl, _, rfl, ?_⟩
      refine iteT ?_
      refine ⟨_, rfl, v, _, ty, _, _, rfl, .ty "tuple", hty, hk1, _, rfl, ?_⟩
      cases hT : isTup d with
      | false =>
        refine iteF ?_
        refine ⟨_, rfl, rfl, _, rfl, ?_⟩
        refine iteF ?_
        refine iteF ?_
        refine ⟨_, rfl, rfl, _, rfl, ?_⟩
        refine iteF ?_
        refine iteF ?_
        refine ⟨_, rfl, rfl, _, rfl, ?_⟩
        refine iteF ?_
        refine ⟨_, rfl, rfl, _, rfl, ?_⟩
        refine iteF ?_
        refine ⟨_, rfl, rfl, _, rfl, ?_⟩
        refine iteF ?_
        exact q1 .non .non H1 (Same.refl _) .non .non
      | true =>
        refine iteT ?_
        obtain ⟨l, rfl⟩ := isTup_eq hT
        obtain ⟨ba, us, rfl, hba, al⟩ := RepD.al (a := 0) hd1
        have hll : us.length ≤ 1000 := by
          rw [al.len]
          exact Nat.le_trans hL.len hn1000
        have hll2 := hL.len
        have hs1 : HT.sIx us.length us.length (some 1) = min 1 us.length := HT.sIx_nat us.length us.length 1
        refine ⟨_, rfl, _, rfl, _, rfl, ba, us, rfl, SqT.of hba, fun hwh => ?_, fun hwh p np => ?_⟩
        · have hle : us.length ≤ 1 := by
            have := hwh.2
            rw [hs1] at this
            omega
          refine ⟨ba, ba, us, us, rfl, rfl, SqT.of hba, SqT.of hba, small_line (by omega), fun _ => q1 _ _ H1 (Same.refl _) hd1 (hL.mono (by omega) (by omega)), fun h1 h2 => absurd h2 h1, fun _ _ p np => ?_⟩
          refine q1 _ (.tup (l ++ l)) _ (same_upd np) (.tupA upd_same ((al.imp fun v x h => RepD.mono h (same_upd np)).app (al.imp fun v x h => RepD.mono h (same_upd np)))) (lim_sub hL (by
            rw [List.length_append]
            have h1 := al.len
            have h2 := hL.len
            omega) fun d hd => (List.mem_append.mp hd).elim id id)
        · have hge : 2 ≤ us.length := by
            refine Nat.lt_of_not_le fun hle => hwh ⟨rfl, ?_⟩
            rw [hs1]
            omega
          have hc : cutV us none (some 1) = us.take 1 := cut_take (j := 1) (by omega)
          have sp : Same H1 (upd H1 p (.tup (cutV us none (some 1)))) := same_upd np
          refine ⟨ba, p, us, cutV us none (some 1), rfl, rfl, SqT.of (sp _ _ hba), SqT.of upd_same, small_line (by
            rw [hc, List.length_take]
            have h1 := al.len
            have h2 := hL.len
            omega), fun h => absurd h (by intro z; rw [z] at hge; simp at hge), fun _ h => absurd h (by
            rw [hc]
            intro z
            have := congrArg List.length z
            rw [List.length_take, List.length_nil] at this
            omega), fun _ _ p2 np2 => ?_⟩
          have sp2 := sp.trans (same_upd (o := .tup (us ++ cutV us none (some 1))) np2)
          refine q1 _ (.tup (l ++ l.take 1)) _ sp2 (.tupA upd_same ?_) (lim_sub hL (by
            rw [List.length_append, List.length_take]
            have h2 := hL.len
            omega) fun d hd => (List.mem_append.mp hd).elim id List.mem_of_mem_take)
          rw [hc] at sp2 ⊢
          exact (al.imp fun v x h => RepD.mono h sp2).app ((al.imp fun v x h => RepD.mono h sp2).take 1)
    · refine ⟨_, rfl, rfl, _, rfl, ?_⟩
      refine iteF ?_
      refine ⟨_, rfl, rfl, _, rfl, ?_⟩
      refine iteF ?_
      refine ⟨_, rfl, rfl, _, rfl, ?_⟩
      refine iteF ?_
      refine ⟨_, rfl, rfl, _, rfl, ?_⟩
      refine iteF ?_
      refine iteF ?_
      refine ⟨_, rfl, rfl, _, rfl, ?_⟩
      refine iteF ?_
      refine iteF ?_
      refine ⟨_, rfl, rfl, _, rfl, ?_⟩
      refine iteF ?_
      refine iteF ?_
      refine ⟨_, rfl, rfl, _, rfl, ?_⟩
      refine iteF ?_
      refine iteF ?_
      refine ⟨_, rfl, rfl, _, rfl, ?_⟩
      refine iteF ?_
      refine iteF ?_
      refine ⟨_, rfl, rfl, _, rfl, ?_⟩
      refine iteT ?_
      refine ⟨_, rfl, v, _, ty, _, _, rfl, .ty "tuple", hty, hk1, _, rfl, ?_⟩
      cases hT : isTup d with
      | false =>
        refine iteF ?_
        refine ⟨_, rfl, rfl, _, rfl, ?_⟩
        refine iteF ?_
        refine iteF ?_
        refine ⟨_, rfl, rfl, _, rfl, ?_⟩
        refine iteF ?_
        refine ⟨_, rfl, rfl, _, rfl, ?_⟩
        refine iteF ?_
        refine ⟨_, rfl, rfl, _, rfl, ?_⟩
        refine iteF ?_
        exact q1 .non .non H1 (Same.refl _) .non .non
      | true =>
        refine iteT ?_
        obtain ⟨l, rfl⟩ := isTup_eq hT
        obtain ⟨ba, us, rfl, hba, al⟩ := RepD.al (a := 0) hd1
        have hll : us.length ≤ 1000 := by
          rw [al.len]
          exact Nat.le_trans hL.len hn1000
        have hll2 := hL.len
        refine ⟨_, rfl, ba, us, rfl, SqT.of hba, fun p np => ?_⟩
        exact q1 _ (.tup l.reverse) _ (same_upd np) (.tupA upd_same (al.imp fun v x h => RepD.mono h (same_upd np)).rev) (lim_sub hL (by
          rw [List.length_reverse]
          have h2 := hL.len
          omega) fun d hd => List.mem_reverse.mp hd)
    · refine ⟨_, rfl, rfl, _, rfl, ?_⟩
      refine iteF ?_
      refine ⟨_, rfl, rfl, _, rfl, ?_⟩
      refine iteF ?_
      refine ⟨_, rfl, rfl, _, rfl, ?_⟩
      refine iteF ?_
      refine ⟨_, rfl, rfl, _, rfl, ?_⟩
      refine iteF ?_
      refine iteF ?_
      refine ⟨_, rfl, rfl, _, rfl, ?_⟩
      refine iteF ?_
      refine iteF ?_
      refine ⟨_, rfl, rfl, _, rfl, ?_⟩
      refine iteF ?_
      refine iteF ?_
      refine ⟨_, rfl, rfl, _, rfl, ?_⟩
      refine iteF ?_
      refine iteF ?_
      refine ⟨_, rfl, rfl, _, rfl, ?_⟩
      refine iteF ?_
      refine iteF ?_
      refine ⟨_, rfl, rfl, _, rfl, ?_⟩
      refine iteF ?_
      refine iteF ?_
      refine ⟨_, rfl, rfl, _, rfl, ?_⟩
      refine iteT ?_
      refine ⟨_, rfl, v, _, ty, _, _, rfl, .ty "int", hty, hk2, _, rfl, ?_⟩
      cases hT : isIntD d with
      | false =>
        refine iteF ?_
        refine ⟨_, rfl, rfl, _, rfl, ?_⟩
        refine iteF ?_
        refine ⟨_, rfl, rfl, _, rfl, ?_⟩
        refine iteF ?_
        refine ⟨_, rfl, rfl, _, rfl, ?_⟩
        refine iteF ?_
        exact q1 .non .non H1 (Same.refl _) .non .non
      | true =>
        refine iteT ?_
        cases hd1 with
        | int i => exact ⟨_, rfl, .inr ⟨_, _, rfl, rfl, q1 _ (.int _) H1 (Same.refl _) (.int _) (.int _)⟩⟩
        | bl i => exact ⟨_, rfl, .inl ⟨_, _, rfl, rfl, q1 _ (.int _) H1 (Same.refl _) (.int _) (.int _)⟩⟩
        | _ => cases hT
    · refine ⟨_, rfl, rfl, _, rfl, ?_⟩
      refine iteF ?_
      refine ⟨_, rfl, rfl, _, rfl, ?_⟩
      refine iteF ?_
      refine ⟨_, rfl, rfl, _, rfl, ?_⟩
      refine iteF ?_
      refine ⟨_, rfl, rfl, _, rfl, ?_⟩
      refine iteF ?_
      refine iteF ?_
      refine ⟨_, rfl, rfl, _, rfl, ?_⟩
      refine iteF ?_
      refine iteF ?_
      refine ⟨_, rfl, rfl, _, rfl, ?_⟩
      refine iteF ?_
      refine iteF ?_
      refine ⟨_, rfl, rfl, _, rfl, ?_⟩
      refine iteF ?_
      refine iteF ?_
      refine ⟨_, rfl, rfl, _, rfl, ?_⟩
      refine iteF ?_
      refine iteF ?_
      refine ⟨_, rfl, rfl, _, rfl, ?_⟩
      refine iteF ?_
      refine iteF ?_
      refine ⟨_, rfl, rfl, _, rfl, ?_⟩
      refine iteF ?_
      refine iteF ?_
      refine ⟨_, rfl, rfl, _, rfl, ?_⟩
      refine iteF ?_
      refine ⟨_, rfl, rfl, _, rfl, ?_⟩
      refine iteF ?_
      refine ⟨_, rfl, rfl, _, rfl, ?_⟩
      refine iteT ?_
      refine ⟨(by show 8 ≤ sizeLine; decide), fun l2 nl => ?_⟩
      have sl := same_upd (o := .lst [.str (Str.ofString "rank"), .str (Str.ofString "minimal"), .str (Str.ofString "similar"), .str (Str.ofString "unlike"), .str (Str.ofString "sizes"), .str (Str.ofString "form"), .bl true, .bl false]) nl
      have hl2 : (upd H1 l2 (.lst [.str (Str.ofString "rank"), .str (Str.ofString "minimal"), .str (Str.ofString "similar"), .str (Str.ofString "unlike"), .str (Str.ofString "sizes"), .str (Str.ofString "form"), .bl true, .bl false])) l2 = some (.lst [.str (Str.ofString "rank"), .str (Str.ofString "minimal"), .str (Str.ofString "similar"), .str (Str.ofString "unlike"), .str (Str.ofString "sizes"), .str (Str.ofString "form"), .bl true, .bl false]) := upd_same
      have hne : l2 ≠ L := fun z => by
        obtain ⟨ns, e⟩ := hN1
        rw [z, e] at nl
        cases nl
      refine ⟨_, rfl, L, 8, rfl, by decide, hN1.mono sl, fun k2 H2 h2 h4 kp2 hN2 => ?_⟩
      have hl3 := kp2.keep _ _ hl2 hne
      have fs : ∀ x : Str, Q (.str x) H2 := fun x => q _ (.str _) H2 ((kp1.trans (Same.kp L sl)).trans kp2) hN2 (.str x) (.str _)
      have fb : ∀ x : Bool, Q (.bl x) H2 := fun x => q _ (.bl x) H2 ((kp1.trans (Same.kp L sl)).trans kp2) hN2 (.bl x) (.bl x)
      have hk8 : k2 = 0 ∨ k2 = 1 ∨ k2 = 2 ∨ k2 = 3 ∨ k2 = 4 ∨ k2 = 5 ∨ k2 = 6 ∨ k2 = 7 := by omega
      rcases hk8 with rfl | rfl | rfl | rfl | rfl | rfl | rfl | rfl
      · exact ⟨l2, _, _, _, rfl, rfl, SqL.of hl3, rfl, fs _⟩
      · exact ⟨l2, _, _, _, rfl, rfl, SqL.of hl3, rfl, fs _⟩
      · exact ⟨l2, _, _, _, rfl, rfl, SqL.of hl3, rfl, fs _⟩
      · exact ⟨l2, _, _, _, rfl, rfl, SqL.of hl3, rfl, fs _⟩
      · exact ⟨l2, _, _, _, rfl, rfl, SqL.of hl3, rfl, fs _⟩
      · exact ⟨l2, _, _, _, rfl, rfl, SqL.of hl3, rfl, fs _⟩
      · exact ⟨l2, _, _, _, rfl, rfl, SqL.of hl3, rfl, fb _⟩
      · exact ⟨l2, _, _, _, rfl, rfl, SqL.of hl3, rfl, fb _⟩
    · refine ⟨_, rfl, rfl, _, rfl, ?_⟩
      refine iteF ?_
      refine ⟨_, rfl, rfl, _, rfl, ?_⟩
      refine iteF ?_
      refine ⟨_, rfl, rfl, _, rfl, ?_⟩
      refine iteF ?_
      refine ⟨_, rfl, rfl, _, rfl, ?_⟩
      refine iteF ?_
      refine iteF ?_
      refine ⟨_, rfl, rfl, _, rfl, ?_⟩
      refine iteF ?_
      refine iteF ?_
      refine ⟨_, rfl, rfl, _, rfl, ?_⟩
      refine iteF ?_
      refine iteF ?_
      refine ⟨_, rfl, rfl, _, rfl, ?_⟩
      refine iteF ?_
      refine iteF ?_
      refine ⟨_, rfl, rfl, _, rfl, ?_⟩
      refine iteF ?_
      refine iteF ?_
      refine ⟨_, rfl, rfl, _, rfl, ?_⟩
      refine iteF ?_
      refine iteF ?_
      refine ⟨_, rfl, rfl, _, rfl, ?_⟩
      refine iteF ?_
      refine iteF ?_
      refine ⟨_, rfl, rfl, _, rfl, ?_⟩
      refine iteT ?_
      refine mk_G2 (p := 7) (.inr (by simp [SmP])) fun x H2 e2 hx => ?_
      obtain ⟨dx, hx⟩ := hx
      refine ⟨x, dx, _, rfl, hx, rfl, _, rfl, ⟨x, dx, rfl, hx⟩, fun v2 H3 e3 h3 => ?_⟩
      obtain ⟨a, dy, rfl, ha⟩ := h3.r (by decide)
      exact q1 _ .oth H3 (e2.trans e3) (.othR 7 ha rfl (by
        rcases hprm with e | e | e | e <;> rw [e] <;> decide)) .oth
    · refine ⟨_, rfl, rfl, _, rfl, ?_⟩
      refine iteF ?_
      refine ⟨_, rfl, rfl, _, rfl, ?_⟩
      refine iteF ?_
      refine ⟨_, rfl, rfl, _, rfl, ?_⟩
      refine iteF ?_
      refine ⟨_, rfl, rfl, _, rfl, ?_⟩
      refine iteF ?_
      refine iteF ?_
      refine ⟨_, rfl, rfl, _, rfl, ?_⟩
      refine iteF ?_
      refine iteF ?_
      refine ⟨_, rfl, rfl, _, rfl, ?_⟩
      refine iteF ?_
      refine iteF ?_
      refine ⟨_, rfl, rfl, _, rfl, ?_⟩
      refine iteF ?_
      refine iteF ?_
      refine ⟨_, rfl, rfl, _, rfl, ?_⟩
      refine iteF ?_
      refine iteF ?_
      refine ⟨_, rfl, rfl, _, rfl, ?_⟩
      refine iteF ?_
      refine iteF ?_
      refine ⟨_, rfl, rfl, _, rfl, ?_⟩
      refine iteF ?_
      refine iteF ?_
      refine ⟨_, rfl, rfl, _, rfl, ?_⟩
      refine iteF ?_
      refine ⟨_, rfl, rfl, _, rfl, ?_⟩
      refine iteT ?_
      refine mk_G2 (p := 0) (.inl rfl) fun x H2 e2 hx => ?_
      obtain ⟨dx, hx⟩ := hx
      refine ⟨x, dx, _, rfl, hx, rfl, ?_⟩
      refine ⟨_, 1, rfl, ⟨x, dx, rfl, hx⟩, by decide, fun v2 H3 e3 h3 => ?_⟩
      obtain ⟨a, dy, rfl, ha⟩ := h3.q (by rfl)
      by_cases hp : G.p = 0
      · have hone : NumG K G H3 (.ref a) 1 := by
          refine ⟨a, dy, rfl, ?_⟩
          rw [cN_q hp, hp, pn_one.1, pn_one.2]
          rw [(pn_bit (G := gq) (n := 1) (.inr rfl)).1, (pn_bit (G := gq) (n := 1) (.inr rfl)).2] at ha
          exact ha
        exact q1 _ (.num 1) H3 (e2.trans e3) (.num hone) (.num (bd_one.mono (by omega) (by omega)))
      · exact q1 _ .oth H3 (e2.trans e3) (.othQ hp ha) .oth
    · refine ⟨_, rfl, rfl, _, rfl, ?_⟩
      refine iteF ?_
      refine ⟨_, rfl, rfl, _, rfl, ?_⟩
      refine iteF ?_
      refine ⟨_, rfl, rfl, _, rfl, ?_⟩
      refine iteF ?_
      refine ⟨_, rfl, rfl, _, rfl, ?_⟩
      refine iteF ?_
      refine iteF ?_
      refine ⟨_, rfl, rfl, _, rfl, ?_⟩
      refine iteF ?_
      refine iteF ?_
      refine ⟨_, rfl, rfl, _, rfl, ?_⟩
      refine iteF ?_
      refine iteF ?_
      refine ⟨_, rfl, rfl, _, rfl, ?_⟩
      refine iteF ?_
      refine iteF ?_
      refine ⟨_, rfl, rfl, _, rfl, ?_⟩
      refine iteF ?_
      refine iteF ?_
      refine ⟨_, rfl, rfl, _, rfl, ?_⟩
      refine iteF ?_
      refine iteF ?_
      refine ⟨_, rfl, rfl, _, rfl, ?_⟩
      refine iteF ?_
      refine iteF ?_
      refine ⟨_, rfl, rfl, _, rfl, ?_⟩
      refine iteF ?_
      refine ⟨_, rfl, rfl, _, rfl, ?_⟩
      refine iteF ?_
      refine ⟨_, rfl, rfl, _, rfl, ?_⟩
      refine iteF ?_
      exact q1 .non .non H1 (Same.refl _) .non .non
end
end K51

set_option Elab.async false
set_option linter.all false
set_option maxRecDepth 100000
set_option maxHeartbeats 4000000
set_option autoImplicit false
namespace K51
open PySem PySem.Spec PyProof.Rows L2
section
variable {P : Program} {w : World} {K : PySem.W.Frag} {mg : Str → Option Value} {base : Heap} {F : Type} [Lean.Grind.CommRing F] [DecidableEq F]
def spBend (K : PySem.W.Frag) (G : Gnd F) (r : Nat) : L2.Sp := fun vs H Q _ => ∃ L g v d b n, vs = [.ref L, g, v, .int r] ∧ Nums H L ∧ PrmP G.p ∧ GAt K H g G.p ∧ RepD K G H v d ∧ Lim G b n d ∧ b ≤ 300 ∧ n ≤ 1000 ∧
  ∀ u d' H', Kp L H H' → Nums H' L → RepD K G H' u d' → Lim G (b + 1) (n + 1) d' → Q u H'
theorem bend_len {G : Gnd F} {r : Nat} : ∀ vs H Q E, spBend K G r vs H Q E → vs.length = ["_law_numbers_here", "_law_ground_here", "_law_data", "_law_room"].length := fun vs H Q E h => by
  obtain ⟨L, g, v, d, b, n, rfl, _⟩ := h
  rfl
theorem ok_bend (T : Tx K mg) (G : Gnd F) : ∀ r, FnOk P w K mg base CX0 (11 + r) (He.fAd K ("_law_bend", none)) (fdOf K (He.fAd K ("_law_bend", none))) ["_law_numbers_here", "_law_ground_here", "_law_data", "_law_room"] (spBend K G r)
  | 0 => by
    refine fok (F_law_bend T.c) sc_law_bend bend_len (fun cdv A outer s H vs Q E hr h => ?_)
    obtain ⟨L, g, v, d, b, n, rfl, hN, hprm, hg, hd, hL, hb, hn, q⟩ := h
    refine ⟨_, pss_cons (ps_if (PW.pt (pw_or (pt_cmpR op_eq (pv 3) pe_int (nomark _)) (pw_or (pt_not (pt_val (pe_callB call_isi (by rfl) (T.free (a_free_isinstance T.c)) boot_isi (pa_cons (pv 2) (pa_cons (pe_bltn (v := .ty "tuple") (by rfl) (T.free (a_free_tuple T.c)) boot_ttuple rfl) pa_nil)))))
        (pw_or (pt_cmpR op_eq (pe_callB (lenS (K := K) rfl) (by rfl) (T.free (a_free_len T.c)) boot_len (pa_cons (pv 2) pa_nil)) pe_int (nomark _)) (pw_or1 (pt_cmpR op_eq (pe_call (ok_next T) (hr.mono (by omega)) (by rfl) (T.glo (a_glo_law_next T.c)) (F_law_next T.c).kp (B_law_next T.c) .nil pass0 (pa_cons (pv 0) (pa_cons pe_int pa_nil))) pe_int (nomark _)))))))
        (pss_one (ps_ret (pe_call (ok_other T G) hr (by rfl) (T.glo (a_glo_law_other T.c)) (F_law_other T.c).kp (B_law_other T.c) .nil pass0 (pa_cons (pv 0) (pa_cons (pv 1) (pa_cons (pv 2) pa_nil)))))) pss_nil)
      pss_never, ?_⟩
    refine ⟨_, rfl, rfl, _, rfl, ?_⟩
    refine iteT ?_
    refine iteT ?_
    exact ⟨_, rfl, _, rfl, _, rfl, L, g, v, d, b, n, rfl, hN, hprm, hg, hd, hL, hb, hn, q⟩
  | r + 1 => by
    have ih := ok_bend T G r
    refine fok (F_law_bend T.c) sc_law_bend bend_len (fun cdv A outer s H vs Q E hr h => ?_)
    obtain ⟨L, g, v, d, b, n, rfl, hN, hprm, hg, hd, hL, hb, hn, q⟩ := h
    have nd := sc_law_bend.nd
    have hr2 : Room (11 + r) _ := hr
    refine ⟨_, pss_cons (ps_if (PW.pt (pw_or (pt_cmpR op_eq (pv 3) pe_int (nomark _)) (pw_or (pt_not (pt_val (pe_callB call_isi (by rfl) (T.free (a_free_isinstance T.c)) boot_isi (pa_cons (pv 2) (pa_cons (pe_bltn (v := .ty "tuple") (by rfl) (T.free (a_free_tuple T.c)) boot_ttuple rfl) pa_nil)))))
        (pw_or (pt_cmpR op_eq (pe_callB (lenS (K := K) rfl) (by rfl) (T.free (a_free_len T.c)) boot_len (pa_cons (pv 2) pa_nil)) pe_int (nomark _)) (pw_or1 (pt_cmpR op_eq (pe_call (ok_next T) (hr2.mono (by omega)) (by rfl) (T.glo (a_glo_law_next T.c)) (F_law_next T.c).kp (B_law_next T.c) .nil pass0 (pa_cons (pv 0) (pa_cons pe_int pa_nil))) pe_int (nomark _)))))))
        (pss_one (ps_ret (pe_call (ok_other T G) (hr2.mono (by omega)) (by rfl) (T.glo (a_glo_law_other T.c)) (F_law_other T.c).kp (B_law_other T.c) .nil pass0 (pa_cons (pv 0) (pa_cons (pv 1) (pa_cons (pv 2) pa_nil)))))) pss_nil)
      (pss_cons (ps_set (i := 4) nd rfl (.inl rfl) (pe_call (ok_next T) (hr2.mono (by omega)) (by rfl) (T.glo (a_glo_law_next T.c)) (F_law_next T.c).kp (B_law_next T.c) .nil pass0 (pa_cons (pv 0) (pa_cons (pe_callB (lenS (K := K) rfl) (by rfl) (T.free (a_free_len T.c)) boot_len (pa_cons (pv 2) pa_nil)) pa_nil))))
      (pss_one (ps_ret (pe_op op_catA (pe_op op_catA (pe_slice sl_tupA (pv 2) po_none (po_some (pv 4)))
          (pe_tup (pa_cons (pe_call ih hr2 (by rfl) (T.glo (a_glo_law_bend T.c)) (F_law_bend T.c).kp (B_law_bend T.c) .nil pass0 (pa_cons (pv 0) (pa_cons (pv 1) (pa_cons (pe_ix (ixT (K := K) rfl) (pv 2) (pv 4) (fun _ _ => rfl)) (pa_cons (pe_op op_sub (pv 3) pe_int) pa_nil))))) pa_nil)))
          (pe_slice sl_tupA (pv 2) (po_some (pe_op op_add (pv 4) pe_int)) po_none))))), ?_⟩
    refine ⟨_, rfl, rfl, _, rfl, ?_⟩
    refine ite2 (fun e => absurd (of_decide_eq_true e) (by simp; omega)) (fun _ => ?_)
    obtain ⟨t, ht, hk, _⟩ := tyD T hd
    refine ⟨_, rfl, v, _, t, _, _, rfl, .ty "tuple", ht, hk, _, rfl, ?_⟩
    cases hT : isTup d with
    | false =>
      refine iteT ?_
      refine iteT ?_
      exact ⟨_, rfl, _, rfl, _, rfl, L, g, v, d, b, n, rfl, hN, hprm, hg, hd, hL, hb, hn, q⟩
    | true =>
      refine iteF ?_
      obtain ⟨l, rfl⟩ := isTup_eq hT
      obtain ⟨ba, us, rfl, hba, al⟩ := RepD.al (a := 0) hd
      have hll := al.len
      have hln := hL.len
      refine ⟨_, rfl, ba, us, rfl, .inr (SqT.of hba), rfl, _, rfl, ?_⟩
      refine ite2 (fun _ => ?_) (fun e => ?_)
      · exact iteT ⟨_, rfl, _, rfl, _, rfl, L, g, _, _, b, n, rfl, hN, hprm, hg, hd, hL, hb, hn, q⟩
      · have hpos : 0 < us.length := by
          refine Nat.pos_of_ne_zero fun z => e ?_
          rw [z]
          rfl
        refine ⟨_, rfl, L, 6, rfl, by decide, hN, fun k1 H1 h1 h2 kp1 hN1 => ⟨rfl, _, rfl, ?_⟩⟩
        have hd1 := hd.kp hN.l kp1
        have hg1 := hg.kp hN.l kp1
        have hba1 := kp1.at_ hN.l hba (fun xs z => by cases z)
        refine ite2 (fun _ => ?_) (fun _ => ?_)
        · exact ⟨_, rfl, _, rfl, _, rfl, L, g, _, _, b, n, rfl, hN1, hprm, hg1, hd1, hL, hb, hn, fun u d' H' k a r l => q u d' H' (kp1.trans k) a r l⟩
        · refine ⟨_, rfl, _, rfl, ba, us, rfl, .inr (SqT.of hba1), L, us.length, rfl, by omega, hN1, fun k2 H2 h3 h4 kp2 hN2 => ?_⟩
          obtain ⟨j, rfl⟩ := Int.eq_ofNat_of_zero_le h3
          have hj : j < us.length := by omega
          have kp12 := kp1.trans kp2
          have hd2 := hd1.kp hN1.l kp2
          have hg2 := hg1.kp hN1.l kp2
          have hba2 := kp2.at_ hN1.l hba1 (fun xs z => by cases z)
          have al2 : Al (RepD K G H2) us l := al.imp fun v x h => (h.kp hN.l kp1).kp hN1.l kp2
          have hlo : HT.sIx us.length us.length (some (j : Int)) = min j us.length := HT.sIx_nat us.length us.length j
          refine ⟨_, rfl, _, rfl, _, rfl, ba, us, rfl, SqT.of hba2, fun hw => absurd hw.2 (by rw [hlo]; omega), fun _ p1 np1 => ?_⟩
          have e1 : cutV us none (some (j : Int)) = us.take j := cut_take (by omega)
          have s1 : Same H2 (upd H2 p1 (.tup (cutV us none (some (j : Int))))) := same_upd np1
          have hp1 : (upd H2 p1 (.tup (cutV us none (some (j : Int))))) p1 = some (.tup (us.take j)) := by
            rw [upd_same, e1]
          generalize (upd H2 p1 (.tup (cutV us none (some (j : Int))))) = H3 at *
          have hlj : l[j]? = some (l[j]'(by omega)) := List.getElem?_eq_getElem _
          obtain ⟨vj, hvj, hrj⟩ := al2.get hlj
          have hmj : l[j]'(by omega) ∈ l := List.getElem_mem _
          refine ⟨_, rfl, _, rfl, _, rfl, _, rfl, ba, us, _, _, rfl, rfl, SqT.of (s1 _ _ hba2), atI_nat hvj, _, rfl, _, _, rfl, rfl, ?_⟩
          refine ⟨L, g, vj, _, b, n, (by
            show [V.ref L, g, vj, V.int (((r + 1 : Nat) : Int) - 1)] = [V.ref L, g, vj, V.int (r : Int)]
            rw [show ((r + 1 : Nat) : Int) - 1 = (r : Int) by omega]), hN2.mono s1, hprm, hg2.mono s1, hrj.mono s1, hL.mem hmj, hb, hn, fun u d' H4 kp4 hN4 hr4 hl4 => ?_⟩
          have hN3 := hN2.mono s1
          have hp14 := kp4.at_ hN3.l hp1 (fun xs z => by cases z)
          have hba4 := kp4.at_ hN3.l (s1 _ _ hba2) (fun xs z => by cases z)
          have al4 : Al (RepD K G H4) us l := al2.imp fun v x h => (h.mono s1).kp hN3.l kp4
          have kp04 := (kp12.trans (Same.kp L s1)).trans kp4
          refine ⟨(by show 1 ≤ sizeLine; decide), fun p2 np2 => ?_⟩
          have s5 : Same H4 (upd H4 p2 (.tup [u])) := same_upd np2
          have hp2 : (upd H4 p2 (.tup [u])) p2 = some (.tup [u]) := upd_same
          generalize (upd H4 p2 (.tup [u])) = H5 at *
          have lim : ∀ l' : List (D F), l'.length ≤ n + 1 → (∀ x, x ∈ l' → x ∈ l ∨ x = d') → Lim G (b + 1) (n + 1) (.tup l') := fun l' h1 h2 => .tup h1 fun x hx => (h2 x hx).elim (fun h => (hL.mem h).mono (by omega) (by omega)) fun h => by
            rw [h]
            exact hl4
          -- what follows the first sum
          have rest : ∀ p6 H6, Same H5 H6 → H6 p6 = some (.tup (us.take j ++ [u])) → tSl (rSlA K) (tVar 2) (tPart (tOp (rI0 fun i j => .int (i + j)) (tVar 4) (tC (.int 1)))) tNoPart [some (.ref L), some g, some (.ref ba), some (.int ((r + 1 : Nat) : Int)), some (.int (j : Int))] H6 fun y H7 => rCatA K (.ref p6) y H7 Q := fun p6 H6 s6 hp6 => by
            have s46 := s5.trans s6
            have hl1 : HT.sIx us.length 0 (some ((j + 1 : Nat) : Int)) = min (j + 1) us.length := HT.sIx_nat us.length 0 (j + 1)
            have ej : ((j : Int) + 1) = ((j + 1 : Nat) : Int) := by omega
            refine ⟨_, rfl, _, rfl, _, _, rfl, rfl, (j : Int) + 1, rfl, ?_⟩
            rw [ej]
            refine ⟨ba, us, rfl, SqT.of (s46 _ _ hba4), fun hw => absurd hw.1 (by rw [hl1]; omega), fun _ p7 np7 => ?_⟩
            have e7 : cutV us (some ((j + 1 : Nat) : Int)) none = us.drop (j + 1) := cut_drop (by omega)
            have s7 : Same H6 (upd H6 p7 (.tup (cutV us (some ((j + 1 : Nat) : Int)) none))) := same_upd np7
            have hp7 : (upd H6 p7 (.tup (cutV us (some ((j + 1 : Nat) : Int)) none))) p7 = some (.tup (us.drop (j + 1))) := by
              rw [upd_same, e7]
            generalize (upd H6 p7 (.tup (cutV us (some ((j + 1 : Nat) : Int)) none))) = H7 at *
            have s47 := s46.trans s7
            have alT : ∀ H8, Same H7 H8 → Al (RepD K G H8) (us.take j ++ [u]) (l.take j ++ [d']) := fun H8 s8 => ((al4.imp fun v x h => h.mono (s47.trans s8)).take j).app (.cons (hr4.mono (s47.trans s8)) .nil)
            have hT6 : (us.take j ++ [u]).length = j + 1 := by
              rw [List.length_append, List.length_take, List.length_singleton]
              omega
            have hlT : (l.take j ++ [d']).length = j + 1 := by
              rw [List.length_append, List.length_take, List.length_singleton]
              omega
            refine ⟨p6, p7, _, _, rfl, rfl, SqT.of (s7 _ _ hp6), SqT.of hp7, small_line (by rw [hT6, List.length_drop]; omega), fun h => absurd h (by
              intro z
              rw [z] at hT6
              cases hT6), fun _ h => ?_, fun _ h p8 np8 => ?_⟩
            · refine q _ (.tup (l.take j ++ [d'])) _ (kp04.trans (Same.kp L s47)) (hN4.mono s47) (.tupA (s7 _ _ hp6) (alT _ (Same.refl _))) (lim _ (by omega) fun x hx => ?_)
              rcases List.mem_append.mp hx with h | h
              · exact .inl (List.mem_of_mem_take h)
              · exact .inr (List.mem_singleton.mp h)
            · have s8 := same_upd (o := .tup ((us.take j ++ [u]) ++ us.drop (j + 1))) np8
              refine q _ (.tup ((l.take j ++ [d']) ++ l.drop (j + 1))) _ (kp04.trans (Same.kp L (s47.trans s8))) (hN4.mono (s47.trans s8)) (.tupA upd_same ((alT _ s8).app ((al4.imp fun v x h => h.mono (s47.trans s8)).drop (j + 1)))) (lim _ (by rw [List.length_append, hlT, List.length_drop]; omega) fun x hx => ?_)
              rcases List.mem_append.mp hx with h | h
              · rcases List.mem_append.mp h with h | h
                · exact .inl (List.mem_of_mem_take h)
                · exact .inr (List.mem_singleton.mp h)
              · exact .inl (List.mem_of_mem_drop h)
          refine ⟨p1, p2, _, _, rfl, rfl, SqT.of (s5 _ _ hp14), SqT.of hp2, small_line (by rw [List.length_take]; show _ + 1 ≤ _; omega), fun h => ?_, fun _ h => absurd h (by intro z; cases z), fun _ _ p6 np6 => ?_⟩
          · refine rest p2 H5 (Same.refl _) ?_
            rw [h]
            exact hp2
          · exact rest p6 _ (same_upd np6) upd_same
end
end K51

set_option Elab.async false
set_option linter.all false
set_option maxRecDepth 100000
set_option maxHeartbeats 4000000
set_option autoImplicit false
namespace K51
open PySem PySem.Spec PyProof.Rows L2
section
variable {F : Type} [Lean.Grind.CommRing F] [DecidableEq F] {G : Gnd F}
theorem allSome_map {α β : Type} {f : α → Option β} {g : β → α} (h : ∀ x, f (g x) = some x) (xs : List β) : allSome ((xs.map g).map f) = some xs := by
  rw [allSome_iff, List.map_map]
  exact List.map_congr_left fun x _ => h x
theorem row_num (xs : List F) : rowD xs.length (.tup (xs.map .num)) = some xs := by
  rw [rowD_eq, if_pos (List.length_map ..)]
  exact allSome_map (f := memD) (g := D.num) (fun _ => rfl) xs
theorem tab_num {M : List (List F)} {w : Nat} (h : ∀ r, r ∈ M → r.length = w) : tabD M.length w (RowD M) = some M := by
  unfold RowD
  rw [tabD_eq, if_pos (List.length_map ..), allSome_iff, List.map_map]
  refine List.map_congr_left fun r hr => ?_
  show rowD w (.tup (r.map .num)) = some r
  rw [← h r hr]
  exact row_num r
theorem tab_len_ne {M : List (List F)} {m w : Nat} (h : M.length ≠ m) : tabD m w (RowD M) = none := by
  unfold RowD
  rw [tabD_eq, if_neg (by rw [List.length_map]; exact h)]
section
variable {M : List (List F)} {w : Nat} (hM : ∀ r, r ∈ M → r.length = w)
include hM
theorem paperL_len : (paperL G M w).length = (redN G.inv M w).fp.length := by
  unfold paperL
  rw [List.length_map, List.length_range]
theorem paperL_at {k : Nat} (hk : k < (redN G.inv M w).fp.length) : solveK G.inv (tallK M (redN G.inv M w).fp) (redN G.inv M w).fp.length (unitK (redN G.inv M w).fp.length k) = some ((paperL G M w).getD k []) := by
  obtain ⟨y, hy⟩ := left_ex G.minv hM G.one_ne hk
  unfold paperL
  rw [getD_range _ _ _ _ hk, hy]
  rfl
theorem trow : ∀ r, r ∈ tallK M (redN G.inv M w).fp → r.length = (redN G.inv M w).fp.length := fun r hr => by
  obtain ⟨r2, _, rfl⟩ := List.mem_map.mp hr
  exact List.length_map ..
theorem paperL_row : ∀ r, r ∈ paperL G M w → r.length = M.length := fun r hr => by
  obtain ⟨k, hk, e⟩ := List.getElem_of_mem hr
  have hk' : k < (redN G.inv M w).fp.length := by rw [← paperL_len hM]; exact hk
  have h1 := paperL_at hM hk'
  rw [getD_at (List.getElem?_eq_getElem hk), e] at h1
  have h2 := (solve_sound G.minv (trow hM) (unitK_len _ _) h1).1
  rw [h2]
  exact List.length_map ..
theorem right_row : ∀ r, r ∈ (rightK w (redN G.inv M w).fp : List (List F)) → r.length = (redN G.inv M w).fp.length := fun r hr => by
  obtain ⟨c, _, rfl⟩ := List.mem_map.mp hr
  rw [List.length_map, List.length_range]
theorem right_len : (rightK w (redN G.inv M w).fp : List (List F)).length = w := by
  unfold rightK
  rw [List.length_map, List.length_range]
/-- the paper shows the rank -/
theorem paper_holds : holdsD M.length w M (paperD G M w) = true := by
  have e : holdsD M.length w M (paperD G M w) = holdsT M.length w M ((redN G.inv M w).fp.length : Nat) (RowD (paperL G M w)) (RowD (rightK w (redN G.inv M w).fp)) (RowD (tallK M (redN G.inv M w).fp)) (RowD ((redN G.inv M w).fp.map (·.1))) := rfl
  rw [e, holdsT_nat]
  have t1 := tab_num (paperL_row (G := G) hM)
  rw [paperL_len hM] at t1
  have t2 := tab_num (right_row (G := G) hM)
  rw [right_len hM] at t2
  have t3 := tab_num (trow (G := G) hM)
  rw [show (tallK M (redN G.inv M w).fp).length = M.length from List.length_map ..] at t3
  have t4 := tab_num (M := (redN G.inv M w).fp.map (·.1)) (w := w) fun r hr => by
    obtain ⟨z, hz, e⟩ := List.mem_map.mp hr
    rw [← e]
    exact fp_len G.minv hM _ hz
  rw [List.length_map] at t4
  rw [t1, t2, t3, t4]
  show (decide _ && decide _) = true
  rw [decide_eq_true (tall_wide G.minv hM), decide_eq_true (left_right G.minv hM (paperL_len hM) fun k hk => paperL_at hM hk)]
  rfl
/-- one more is refused -/
theorem paper_more : holdsD M.length w M (.tup [.str true, .int ((redN G.inv M w).fp.length + 1), RowD (paperL G M w), RowD (rightK w (redN G.inv M w).fp), RowD (tallK M (redN G.inv M w).fp), RowD ((redN G.inv M w).fp.map (·.1))]) = false := by
  have e : holdsD M.length w M (.tup [.str true, .int ((redN G.inv M w).fp.length + 1), RowD (paperL G M w), RowD (rightK w (redN G.inv M w).fp), RowD (tallK M (redN G.inv M w).fp), RowD ((redN G.inv M w).fp.map (·.1))]) = holdsT M.length w M (((redN G.inv M w).fp.length + 1 : Nat) : Int) (RowD (paperL G M w)) (RowD (rightK w (redN G.inv M w).fp)) (RowD (tallK M (redN G.inv M w).fp)) (RowD ((redN G.inv M w).fp.map (·.1))) := rfl
  rw [e, holdsT_nat, tab_len_ne (by rw [paperL_len hM]; omega)]
theorem lim_row {b n : Nat} {M : List (List F)} (h1 : M.length ≤ n) (h2 : ∀ r, r ∈ M → r.length ≤ n) (h3 : ∀ r, r ∈ M → ∀ x, x ∈ r → bd G b b x) : Lim G b n (RowD M) := by
  unfold RowD
  refine .tup (by rw [List.length_map]; exact h1) fun d hd => ?_
  obtain ⟨r, hr, rfl⟩ := List.mem_map.mp hd
  refine .tup (by rw [List.length_map]; exact h2 r hr) fun d hd => ?_
  obtain ⟨x, hx, rfl⟩ := List.mem_map.mp hd
  exact .num (h3 r hr x hx)
theorem paper_lims (hl : M.length ≤ 3) (hw : w ≤ 3) (hb : bd1 G M) : Lim G 240 6 (RowD (paperL G M w)) ∧ Lim G 240 6 (RowD (rightK w (redN G.inv M w).fp)) ∧ Lim G 240 6 (RowD (tallK M (redN G.inv M w).fp)) ∧ Lim G 240 6 (RowD ((redN G.inv M w).fp.map (·.1))) := by
  have hc := fp_cnt G.minv hM
  have hrb := redN_bd4 (by omega) hM hb w
  have hbt : bd1 G (tallK M (redN G.inv M w).fp) := fun r hr x hx => by
    obtain ⟨r2, hr2, rfl⟩ := List.mem_map.mp hr
    obtain ⟨a2, _, rfl⟩ := List.mem_map.mp hx
    exact vec_bd (hb r2 hr2) _
  refine ⟨lim_row hM (by rw [paperL_len hM]; omega) (fun r hr => by rw [paperL_row hM r hr]; omega) fun r hr x hx => ?_, lim_row hM (by rw [right_len hM]; omega) (fun r hr => by rw [right_row hM r hr]; omega) fun r hr x hx => ?_, lim_row hM (by rw [show (tallK M (redN G.inv M w).fp).length = M.length from List.length_map ..]; omega) (fun r hr => by rw [trow hM r hr]; omega) fun r hr x hx => (hbt r hr x hx).mono (by decide) (by decide), lim_row hM (by rw [List.length_map]; omega) (fun r hr => ?_) fun r hr x hx => ?_⟩
  · obtain ⟨k, hk, e⟩ := List.getElem_of_mem hr
    have hk' : k < (redN G.inv M w).fp.length := by rw [← paperL_len hM]; exact hk
    have h1 := paperL_at hM hk'
    rw [getD_at (List.getElem?_eq_getElem hk), e] at h1
    unfold solveK at h1
    obtain ⟨z, hz, e2⟩ := Option.map_eq_some_iff.mp h1
    have hzm := List.mem_of_find?_eq_some hz
    have hzp := List.find?_some hz
    rw [← e2] at hx
    obtain ⟨x0, hx0, rfl⟩ := List.mem_map.mp hx
    have hkb : ∀ x, x ∈ z → bd G 120 120 x := kernel_bd (by
      rw [List.length_append]
      show (tallK M (redN G.inv M w).fp).length + 1 ≤ 4
      rw [show (tallK M (redN G.inv M w).fp).length = M.length from List.length_map ..]
      omega) (app_len (trow hM) (unitK_len _ _)) (fun r hr x hx => by
      rcases List.mem_append.mp hr with hr | hr
      · exact hbt r hr x hx
      · rw [List.mem_singleton.mp hr] at hx
        obtain ⟨y, hy, rfl⟩ := List.mem_map.mp hx
        obtain ⟨i2, _, rfl⟩ := List.mem_map.mp hy
        refine bd_neg ?_
        split
        · exact bd_one.mono (by decide) (by decide)
        · exact bd_zero.mono (by decide) (by decide)) z hzm
    have hne : vec z (tallK M (redN G.inv M w).fp).length ≠ 0 := of_decide_eq_true hzp
    exact bd_mul (hkb _ (List.mem_of_mem_take hx0)) (bd_inv hne (vec_bd hkb _))
  · obtain ⟨c, _, rfl⟩ := List.mem_map.mp hr
    obtain ⟨k, _, rfl⟩ := List.mem_map.mp hx
    split
    · exact bd_one.mono (by decide) (by decide)
    · exact bd_zero.mono (by decide) (by decide)
  · obtain ⟨z, hz, e⟩ := List.mem_map.mp hr
    rw [← e, fp_len G.minv hM _ hz]
    omega
  · obtain ⟨z, hz, e⟩ := List.mem_map.mp hr
    rw [← e] at hx
    exact (hrb.2 z hz x hx).mono (by decide) (by decide)
theorem paper_lim (hl : M.length ≤ 3) (hw : w ≤ 3) (hb : bd1 G M) : Lim G 240 6 (paperD G M w) := by
  obtain ⟨h1, h2, h3, h4⟩ := paper_lims (G := G) hM hl hw hb
  refine .tup (by show 6 ≤ 6; decide) fun d hd => ?_
  simp only [List.mem_cons, List.not_mem_nil, or_false] at hd
  rcases hd with rfl | rfl | rfl | rfl | rfl | rfl
  · exact .str _
  · exact .int _
  · exact h1
  · exact h2
  · exact h3
  · exact h4
theorem more_lim (hl : M.length ≤ 3) (hw : w ≤ 3) (hb : bd1 G M) : Lim G 240 6 (.tup [.str true, .int ((redN G.inv M w).fp.length + 1), RowD (paperL G M w), RowD (rightK w (redN G.inv M w).fp), RowD (tallK M (redN G.inv M w).fp), RowD ((redN G.inv M w).fp.map (·.1))]) := by
  obtain ⟨h1, h2, h3, h4⟩ := paper_lims (G := G) hM hl hw hb
  refine .tup (by show 6 ≤ 6; decide) fun d hd => ?_
  simp only [List.mem_cons, List.not_mem_nil, or_false] at hd
  rcases hd with rfl | rfl | rfl | rfl | rfl | rfl
  · exact .str _
  · exact .int _
  · exact h1
  · exact h2
  · exact h3
  · exact h4
end
end
end K51

set_option Elab.async false
set_option linter.all false
set_option maxRecDepth 100000
set_option maxHeartbeats 4000000
set_option autoImplicit false
namespace K51
open PySem PySem.Spec PyProof.Rows L2
/-- a ground with its numbers -/
structure GG where
  F : Type
  ring : Lean.Grind.CommRing F
  dec : DecidableEq F
  G : Gnd F
instance (i : GG) : Lean.Grind.CommRing i.F := i.ring
instance (i : GG) : DecidableEq i.F := i.dec
def spA (f : GG → L2.Sp) : L2.Sp := fun vs H Q E => ∃ i, f i vs H Q E
theorem okA {P : Program} {w : World} {K : PySem.W.Frag} {mg : Str → Option Value} {base : Heap} {CX : CXT} {k : Nat} {f : Addr} {fd : FuncData} {ps : List Str} {sp : GG → L2.Sp} (h : ∀ i, FnOk P w K mg base CX k f fd ps (sp i)) : FnOk P w K mg base CX k f fd ps (spA sp) :=
  ⟨fun vs H Q E ⟨i, q⟩ => (h i).len vs H Q E q, fun A outer s H args us vs Q E hr he hb hv ⟨i, q⟩ => (h i).run A outer s H args us vs Q E hr he hb hv q⟩
theorem gg_ex {p : Nat} (h : PrmP p) : ∃ i : GG, i.G.p = p := by
  rcases h with rfl | rfl | rfl | rfl
  · exact ⟨⟨Rat, inferInstance, inferInstance, gq⟩, rfl⟩
  · exact ⟨⟨Fin 2, inferInstance, inferInstance, g2⟩, rfl⟩
  · exact ⟨⟨Fin 3, inferInstance, inferInstance, g3⟩, rfl⟩
  · exact ⟨⟨Fin 5, inferInstance, inferInstance, g5⟩, rfl⟩
section
variable {F : Type} [Lean.Grind.CommRing F] [DecidableEq F] {K : PySem.W.Frag} {G : Gnd F}
theorem TabT.kp {L : Addr} {H H' : Hp} {v : V} {M : List (List F)} (h : TabT K G v M H) (hL : ∃ ns, H L = some (.lst ns)) (k : Kp L H H') : TabT K G v M H' := by
  obtain ⟨a, vs, e, ha, al⟩ := h
  refine ⟨a, vs, e, k.at_ hL ha (fun xs z => by cases z), al.imp fun v x h => ?_⟩
  obtain ⟨b, us, e2, hb, al2⟩ := h
  exact ⟨b, us, e2, k.at_ hL hb (fun xs z => by cases z), al2.imp fun v x h => h.kp hL k⟩
theorem MatAt.kp {L : Addr} {H H' : Hp} {v : V} {M : List (List F)} {w : Nat} (h : MatAt K G H v M w) (hL : ∃ ns, H L = some (.lst ns)) (k : Kp L H H') : MatAt K G H' v M w := by
  obtain ⟨a, dx, g, r, e, ha, hg, hr⟩ := h
  exact ⟨a, dx, g, r, e, k.at_ hL ha (fun xs z => by cases z), hg.kp hL k, hr.kp hL k⟩
theorem PTabN.kp {L : Addr} {H H' : Hp} {v : V} {M : List (List F)} (h : PTabN G L v M H) (hL : ∃ ns, H L = some (.lst ns)) (k : Kp L H H') : PTabN G L v M H' := by
  obtain ⟨a, vs, e, hn, ha, al⟩ := h
  refine ⟨a, vs, e, hn, k.keep _ _ ha hn, al.imp fun v x h => ⟨?_, h.2⟩⟩
  obtain ⟨⟨b, us, e2, hb, al2⟩, hne⟩ := h
  refine ⟨b, us, e2, k.keep _ _ hb (fun z => hne (by rw [e2, z])), al2.imp fun v x h => ?_⟩
  obtain ⟨c, e3, hc⟩ := h
  exact ⟨c, e3, k.at_ hL hc fun xs z => by cases z⟩
theorem PTabN.mono {L : Addr} {H H' : Hp} {v : V} {M : List (List F)} (h : PTabN G L v M H) (e : Same H H') : PTabN G L v M H' := by
  obtain ⟨a, vs, e1, hn, ha, al⟩ := h
  exact ⟨a, vs, e1, hn, e _ _ ha, al.imp fun v x h => ⟨mo_prow _ _ _ _ e h.1, h.2⟩⟩
theorem PTabN.t {L : Addr} {H : Hp} {v : V} {M : List (List F)} (h : PTabN G L v M H) : PTab G v M H := by
  obtain ⟨a, vs, e1, hn, ha, al⟩ := h
  exact ⟨a, vs, e1, ha, al.imp fun v x h => h.1⟩
end
section
variable {P : Program} {w : World} {K : PySem.W.Frag} {mg : Str → Option Value} {base : Heap}
theorem RepD.rk {F : Type} [Lean.Grind.CommRing F] [DecidableEq F] {G : Gnd F} (H : Hp) : RepD K G H (.str (Str.ofString "rank")) (.str true) := by
  have := RepD.str (K := K) (G := G) (H := H) (Str.ofString "rank")
  rw [decide_eq_true rfl] at this
  exact this
def spLaw (K : PySem.W.Frag) : L2.Sp := fun vs H Q _ => ∃ a, ∃ ss : List Int, vs = [.ref a] ∧ SqL K H a (ss.map V.int) ∧ ss.length ≤ 63 ∧ ∀ H', Q (.bl true) H'
theorem ok_law (T : Tx K mg) : FnOk P w K mg base CX0 16 (He.fAd K ("law", none)) (fdOf K (He.fAd K ("law", none))) ["_law_script"] (spLaw K) := by
  refine fok (F_law T.c) sc_law (fun vs H Q E h => ?_) (fun cdv A outer s H vs Q E hr h => ?_)
  · obtain ⟨a, ss, rfl, _⟩ := h
    rfl
  · obtain ⟨a, ss, rfl, hS, hz, q⟩ := h
    have nd := sc_law.nd
    have okMi : FnOk P w K mg base CX0 11 (He.fAd K ("Matrix", some "__init__")) (fdOf K (He.fAd K ("Matrix", some "__init__"))) ["self", "ground", "rows", "width"] (spA fun i => spMinit K i.G true) := okA fun i => ok_M_init T i.G true
    have okPa : FnOk P w K mg base CX0 2 (He.fAd K ("_law_pairs", none)) (fdOf K (He.fAd K ("_law_pairs", none))) ["_law_p", "_law_rows"] (spA fun i => spPairs i.G) := okA fun i => ok_pairs T i.G
    have okPp : FnOk P w K mg base CX0 14 (He.fAd K ("rank_paper", none)) (fdOf K (He.fAd K ("rank_paper", none))) ["m"] (spA fun i => spPaper K i.G) := okA fun i => ok_paper T i.G
    have okHo : FnOk P w K mg base CX0 5 (He.fAd K ("_law_rank_holds", none)) (fdOf K (He.fAd K ("_law_rank_holds", none))) ["_law_p", "_law_ground_here", "_law_own", "_law_width", "_law_paper"] (spA fun i => spHolds K i.G) := okA fun i => ok_holds T i.G
    have okRa : FnOk P w K mg base CX0 2 (He.fAd K ("_law_rank", none)) (fdOf K (He.fAd K ("_law_rank", none))) ["_law_p", "_law_rows", "_law_width"] (spA fun i => spRank i.G) := okA fun i => ok_rank T i.G
    have okTa : FnOk P w K mg base CX0 15 (He.fAd K ("takes_rank", none)) (fdOf K (He.fAd K ("takes_rank", none))) ["m", "paper"] (spA fun i => spTakes K i.G) := okA fun i => ok_takes T i.G
    have okBe : FnOk P w K mg base CX0 15 (He.fAd K ("_law_bend", none)) (fdOf K (He.fAd K ("_law_bend", none))) ["_law_numbers_here", "_law_ground_here", "_law_data", "_law_room"] (spA fun i => spBend K i.G 4) := okA fun i => ok_bend T i.G 4
    refine ⟨_, pss_cons (ps_set (i := 1) nd rfl (.inl rfl) (pe_call (ok_numbers T) (hr.mono (by decide)) (by rfl) (T.glo (a_glo_law_numbers T.c)) (F_law_numbers T.c).kp (B_law_numbers T.c) .nil pass0 (pa_cons (pv 0) pa_nil)))
      (pss_cons (ps_set (i := 2) nd rfl (.inl rfl) (pe_call (ok_prime T) (hr.mono (by decide)) (by rfl) (T.glo (a_glo_law_prime T.c)) (F_law_prime T.c).kp (B_law_prime T.c) .nil pass0 (pa_cons (pv 1) pa_nil)))
      (pss_cons (ps_set (i := 3) nd rfl (.inl rfl) (pe_call (ok_ground T) (hr.mono (by decide)) (by rfl) (T.glo (a_glo_law_ground T.c)) (F_law_ground T.c).kp (B_law_ground T.c) .nil pass0 (pa_cons (pv 2) pa_nil)))
      (pss_cons (ps_set (i := 4) nd rfl (.inl rfl) (pe_call (ok_next T) (hr.mono (by decide)) (by rfl) (T.glo (a_glo_law_next T.c)) (F_law_next T.c).kp (B_law_next T.c) .nil pass0 (pa_cons (pv 1) (pa_cons pe_int pa_nil))))
      (pss_cons (ps_set (i := 5) nd rfl (.inl rfl) (pe_call (ok_next T) (hr.mono (by decide)) (by rfl) (T.glo (a_glo_law_next T.c)) (F_law_next T.c).kp (B_law_next T.c) .nil pass0 (pa_cons (pv 1) (pa_cons pe_int pa_nil))))
      (pss_cons (ps_set (i := 6) nd rfl (.inl rfl) (pe_call (ok_matrix T) (hr.mono (by decide)) (by rfl) (T.glo (a_glo_law_matrix T.c)) (F_law_matrix T.c).kp (B_law_matrix T.c) .nil pass0 (pa_cons (pv 1) (pa_cons (pv 4) (pa_cons (pv 5) pa_nil)))))
      (pss_cons (ps_set (i := 7) nd rfl (.inl rfl) (pe_make (He.mkr_ok (a_mkr_Matrix T.c)) okMi (hr.mono (by decide)) (by rfl) (T.glo (a_glo_Matrix T.c)) (B_M_init T.c) .nil pass0 (pa_cons (pv 3) (pa_cons (pv 6) (pa_cons (pv 5) pa_nil)))))
      (pss_cons (ps_set (i := 8) nd rfl (.inl rfl) (pe_call okPa (hr.mono (by decide)) (by rfl) (T.glo (a_glo_law_pairs T.c)) (F_law_pairs T.c).kp (B_law_pairs T.c) .nil pass0 (pa_cons (pv 2) (pa_cons (pv 6) pa_nil))))
      (pss_cons (ps_set (i := 9) nd rfl (.inl rfl) (pe_call okPp (hr.mono (by decide)) (by rfl) (T.glo (a_glo_rank_paper T.c)) (F_rank_paper T.c).kp (B_rank_paper T.c) .nil pass0 (pa_cons (pv 7) pa_nil)))
      (pss_cons (ps_if (PW.pt (pw_or (pt_not (pt_val (pe_call okHo (hr.mono (by decide)) (by rfl) (T.glo (a_glo_law_rank_holds T.c)) (F_law_rank_holds T.c).kp (B_law_rank_holds T.c) .nil pass0 (pa_cons (pv 2) (pa_cons (pv 3) (pa_cons (pv 8) (pa_cons (pv 5) (pa_cons (pv 9) pa_nil)))))))) (pw_or1 (pt_cmpR op_ne (pe_ix (ixT (K := K) rfl) (pv 9) pe_int (fun _ _ => rfl)) (pe_call okRa (hr.mono (by decide)) (by rfl) (T.glo (a_glo_law_rank T.c)) (F_law_rank T.c).kp (B_law_rank T.c) .nil pass0 (pa_cons (pv 2) (pa_cons (pv 6) (pa_cons (pv 5) pa_nil)))) (nomark _))))) (pss_one (ps_ret pe_bl)) pss_nil)
      (pss_cons (ps_if (pt_cmpR op_notBl (pe_call okTa hr (by rfl) (T.glo (a_glo_takes_rank T.c)) (F_takes_rank T.c).kp (B_takes_rank T.c) .nil pass0 (pa_cons (pv 7) (pa_cons (pv 9) pa_nil))) pe_bl (nomark _)) (pss_one (ps_ret pe_bl)) pss_nil)
      (pss_cons (ps_for PassesOwn.never rfl (pi_range1 (by rfl) (T.free (a_free_range T.c)) (pa_cons pe_int pa_nil)) (pg_name (i := 10) nd rfl (.inl rfl))
        (pss_cons (ps_set (i := 11) nd rfl (.inl rfl) (pv 9))
        (pss_cons (ps_if (pt_cmpR op_eq (pe_call (ok_next T) (hr.mono (by decide)) (by rfl) (T.glo (a_glo_law_next T.c)) (F_law_next T.c).kp (B_law_next T.c) .nil pass0 (pa_cons (pv 1) (pa_cons pe_int pa_nil))) pe_int (nomark _)) (pss_one (ps_set (i := 11) nd rfl (.inl rfl) (pe_call okPp (hr.mono (by decide)) (by rfl) (T.glo (a_glo_rank_paper T.c)) (F_rank_paper T.c).kp (B_rank_paper T.c) .nil pass0 (pa_cons
            (pe_make (He.mkr_ok (a_mkr_Matrix T.c)) okMi (hr.mono (by decide)) (by rfl) (T.glo (a_glo_Matrix T.c)) (B_M_init T.c) .nil pass0 (pa_cons (pv 3) (pa_cons (pe_call (ok_matrix T) (hr.mono (by decide)) (by rfl) (T.glo (a_glo_law_matrix T.c)) (F_law_matrix T.c).kp (B_law_matrix T.c) .nil pass0 (pa_cons (pv 1) (pa_cons (pv 4) (pa_cons (pv 5) pa_nil)))) (pa_cons (pv 5) pa_nil)))) pa_nil)))) pss_nil)
        (pss_cons (ps_for PassesOwn.never rfl (pi_range1 (by rfl) (T.free (a_free_range T.c)) (pa_cons (pe_op op_add pe_int (pe_call (ok_next T) (hr.mono (by decide)) (by rfl) (T.glo (a_glo_law_next T.c)) (F_law_next T.c).kp (B_law_next T.c) .nil pass0 (pa_cons (pv 1) (pa_cons pe_int pa_nil)))) pa_nil)) (pg_name (i := 12) nd rfl (.inl rfl))
          (pss_one (ps_set (i := 11) nd rfl (.inl rfl) (pe_call okBe hr (by rfl) (T.glo (a_glo_law_bend T.c)) (F_law_bend T.c).kp (B_law_bend T.c) .nil pass0 (pa_cons (pv 1) (pa_cons (pv 3) (pa_cons (pv 11) (pa_cons pe_int pa_nil))))))))
        (pss_cons (ps_set (i := 13) nd rfl (.inl rfl) (pe_call okTa hr (by rfl) (T.glo (a_glo_takes_rank T.c)) (F_takes_rank T.c).kp (B_takes_rank T.c) .nil pass0 (pa_cons (pv 7) (pa_cons (pv 11) pa_nil))))
        (pss_one (ps_if (PW.pt (pw_or (PW.pt (pw_and (pt_cmpR op_notBl (pv 13) pe_bl (nomark _)) (pw_and1 (pt_cmpR op_notBl (pv 13) pe_bl (nomark _))))) (pw_or1 (pt_cmpR op_ne (pv 13) (pe_call okHo (hr.mono (by decide)) (by rfl) (T.glo (a_glo_law_rank_holds T.c)) (F_law_rank_holds T.c).kp (B_law_rank_holds T.c) .nil pass0 (pa_cons (pv 2) (pa_cons (pv 3) (pa_cons (pv 8) (pa_cons (pv 5) (pa_cons (pv 11) pa_nil)))))) (nomark _))))) (pss_one (ps_ret pe_bl)) pss_nil)))))))
      (pss_cons (ps_set (i := 14) nd rfl (.inl rfl) (pe_ix (ixT (K := K) rfl) (pv 9) pe_int (fun _ _ => rfl)))
      (pss_one (ps_ret (pe_and (pe_cmpR op_isBl (pe_call okTa hr (by rfl) (T.glo (a_glo_takes_rank T.c)) (F_takes_rank T.c).kp (B_takes_rank T.c) .nil pass0 (pa_cons (pv 7) (pa_cons (pe_op op_catA (pe_tup (pa_cons pe_str (pa_cons (pe_op op_add (pv 14) pe_int) pa_nil))) (pe_slice sl_tupA (pv 9) (po_some pe_int) po_none)) pa_nil))) pe_bl (nomark _))
        (pe_one (pe_cmpR op_isBl (pe_call okTa hr (by rfl) (T.glo (a_glo_takes_rank T.c)) (F_takes_rank T.c).kp (B_takes_rank T.c) .nil pass0 (pa_cons (pv 7) (pa_cons (pe_op op_catA (pv 9) (pe_tup (pa_cons pe_non pa_nil))) pa_nil))) pe_bl (nomark _)))))))))))))))))), ?_⟩
    refine ⟨_, rfl, a, ss, rfl, hS, hz, fun L H1 s1 hN1 nL => ?_⟩
    refine ⟨_, rfl, L, rfl, hN1, fun p H2 hp kp2 hN2 => ?_⟩
    obtain ⟨i, hi⟩ := gg_ex hp
    subst hi
    refine ⟨_, rfl, i.G.p, rfl, hp, fun g H3 s3 hg3 => ?_⟩
    have hN3 := hN2.mono s3
    refine ⟨_, rfl, L, 4, rfl, by decide, hN3, fun k1 H4 a1 a2 kp4 hN4 => ?_⟩
    obtain ⟨h, rfl⟩ := Int.eq_ofNat_of_zero_le a1
    refine ⟨_, rfl, L, 4, rfl, by decide, hN4, fun k2 H5 b1 b2 kp5 hN5 => ?_⟩
    obtain ⟨wd, rfl⟩ := Int.eq_ofNat_of_zero_le b1
    have hh3 : h ≤ 3 := by omega
    have hw3 : wd ≤ 3 := by omega
    refine ⟨_, rfl, _, rfl, _, rfl, L, h, wd, rfl, hh3, hw3, hN5, fun rv rows H6 kp6 hN6 hT6 hlen hrow hdr => ?_⟩
    have hg6 := hg3.kp hN3.l ((kp4.trans kp5).trans kp6)
    -- what the drawn rows give
    have mfacts : ∀ rows : List (List Int), rows.length = h → (∀ r, r ∈ rows → r.length = wd) → (∀ r, r ∈ rows → ∀ x, x ∈ r → Drawn x) → (rows.map fun r => r.map i.G.ic).length = h ∧ (∀ r, r ∈ (rows.map fun r => r.map i.G.ic) → r.length = wd) ∧ bd1 i.G (rows.map fun r => r.map i.G.ic) ∧ ∀ r, r ∈ rows → ∀ x, x ∈ r → x.natAbs ≤ 2 ^ 100 := fun rows h1 h2 h3 => by
      have hab : ∀ r, r ∈ rows → ∀ x, x ∈ r → x.natAbs ≤ 2 := fun r hr x hx => by
        have := h3 r hr x hx
        unfold Drawn at this
        omega
      refine ⟨by rw [List.length_map]; exact h1, fun r hr => ?_, fun r hr x hx => ?_, fun r hr x hx => Nat.le_trans (hab r hr x hx) (by decide)⟩
      · obtain ⟨r0, h0, rfl⟩ := List.mem_map.mp hr
        rw [List.length_map]
        exact h2 r0 h0
      · obtain ⟨r0, h0, rfl⟩ := List.mem_map.mp hr
        obtain ⟨x0, hx0, rfl⟩ := List.mem_map.mp hx
        exact bd_ic (a := 1) (hab r0 h0 x0 hx0)
    obtain ⟨hMl, hMr, hMb, hsm⟩ := mfacts rows hlen hrow hdr
    generalize hMdef : (rows.map fun r => r.map i.G.ic) = M at hMl hMr hMb
    refine ⟨_, rfl, _, rfl, _, rfl, ?_⟩
    dsimp only [tNil]
    refine fun xm dxm n1 n2 n3 => ⟨i, ?_⟩
    show spMinit K i.G true (.ref xm :: ([g, rv, .int wd] ++ [])) (upd (upd H6 dxm (.own xm)) xm (.ins (He.ga K "Matrix") dxm [])) _ _
    refine mk_M2 (K := K) (k := true) (v := rv) (M := M) (Q := fun y Hy => gName 7 (.ref y) _ Hy _) hg6 (by rw [← hMdef]; exact ITab.tk hT6 hsm) (by omega) (by omega) hMr (fun x H7 s7 hm7 => ?_) xm dxm n1 n2 n3
    have hN7 := hN6.mono s7
    refine ⟨_, rfl, _, rfl, i, rv, rows, rfl, mo_itab _ _ _ _ s7 hT6, by omega, fun r hr => by rw [hrow r hr]; omega, fun ov H8 s8 hO8 => ?_⟩
    have hO8 := hO8 L (by
      obtain ⟨ns, e⟩ := hN7
      rw [e]
      exact fun z => nomatch z)
    rw [hMdef] at hO8
    have hm8 := hm7.mono s8
    refine ⟨_, rfl, i, _, M, wd, rfl, hm8, by omega, by omega, hMr, hMb, fun pw H9 s9 hp9 => ?_⟩
    have hm9 := hm8.mono s9
    have hO9 := hO8.mono s9
    have s79 := (s7.trans s8).trans s9
    have hg9 := hg6.mono s79
    have hT9 := mo_itab _ _ _ _ s79 hT6
    have hLp := paper_lim (G := i.G) hMr (by omega) hw3 hMb
    have hLp2 : Lim i.G 242 8 (paperD i.G M wd) := hLp.mono (by decide) (by decide)
    obtain ⟨pa, us, rfl, hpa9, alp⟩ := RepD.al (a := 0) hp9
    obtain ⟨u0, u1, u2, u3, u4, u5, rfl, r0, r1, r2, r3, r4, r5⟩ := al6 alp
    have eu1 : u1 = .int ((redN i.G.inv M wd).fp.length : Nat) := r1.plain rfl
    subst eu1
    have hholds := paper_holds (G := i.G) hMr
    refine ⟨_, rfl, _, rfl, _, rfl, _, rfl, _, rfl, i, g, ov, _, M, _, wd, rfl, hg9, hO9.t, by omega, hw3, hMr, hMb, hp9, hLp2, fun H10 s10 => ⟨_, rfl, ?_⟩⟩
    rw [hholds]
    refine iteF ?_
    refine ⟨_, rfl, pa, _, _, _, rfl, rfl, SqT.of (s10 _ _ hpa9), rfl, _, rfl, _, rfl, _, rfl, i, rv, rows, wd, rfl, mo_itab _ _ _ _ s10 hT9, by omega, hw3, hrow, hdr, fun H11 s11 => ⟨rfl, _, rfl, ?_⟩⟩
    rw [hMdef, decide_eq_true rfl]
    refine iteF ?_
    have s911 := s10.trans s11
    refine ⟨_, rfl, _, rfl, i, _, _, M, _, wd, rfl, hm9.mono s911, by omega, hw3, hMr, hMb, hp9.mono s911, hLp2, fun Hb s12 => ⟨_, _, rfl, rfl, _, rfl, ?_⟩⟩
    rw [hholds]
    refine iteF ?_
    have s9b := s911.trans s12
    have hmb := hm9.mono s9b
    have hOb := hO9.mono s9b
    have hgb := hg9.mono s9b
    have hpb := hp9.mono s9b
    have hpab := s9b _ _ hpa9
    have hNb := hN7.mono ((s8.trans s9).trans s9b)
    have r2b := r2.mono s9b
    have r3b := r3.mono s9b
    have r4b := r4.mono s9b
    have r5b := r5.mono s9b
    clear hpa9 alp hm9 hO9 hg9 hp9 hm8 hO8 hm7
    refine ⟨3, rfl, by decide, by decide, ?_⟩
    refine for_range (lo := 0) (n := 3) (fun _ σ H' => Kp L Hb H' ∧ Nums H' L ∧ ∃ y10 y11 y12 y13, σ = [some (.ref a), some (.ref L), some (.int i.G.p), some g, some (.int h), some (.int wd), some rv, some (.ref x), some ov, some (.ref pa), y10, y11, y12, y13, none])
      ⟨kp_refl, hNb, none, none, none, none, rfl⟩ (fun t σ H' ht hP => ?_) fun σ H' hP => ?_
    · obtain ⟨kpA, hNA, y10, y11, y12, y13, rfl⟩ := hP
      dsimp only [gName]
      refine ⟨_, rfl, ?_⟩
      refine ⟨_, rfl, L, 4, rfl, by decide, hNA, fun k Hx0 c1 c2 kpB hNB => ⟨rfl, _, rfl, ?_⟩⟩
      have kpAB := kpA.trans kpB
      refine ite2 (fun _ => ?_) (fun _ => ?_)
      · refine p_asg ?_
        refine p_call ?_
        refine p_cons ?_
        refine ⟨_, rfl, _, rfl, _, rfl, _, rfl, L, h, wd, rfl, hh3, hw3, hNB, fun rv2 rows2 H7 kpC hNC hTC hlen2 hrow2 hdr2 => ?_⟩
        obtain ⟨hMl2, hMr2, hMb2, hsm2⟩ := mfacts rows2 hlen2 hrow2 hdr2
        have kpC' := kpAB.trans kpC
        refine ⟨_, rfl, ?_⟩
        dsimp only [tNil]
        refine fun xm2 dxm2 m1 m2 m3 => ⟨i, ?_⟩
        show spMinit K i.G true (.ref xm2 :: ([g, rv2, .int wd] ++ [])) (upd (upd H7 dxm2 (.own xm2)) xm2 (.ins (He.ga K "Matrix") dxm2 [])) _ _
        refine mk_M2 (K := K) (k := true) (v := rv2) (M := rows2.map fun r => r.map i.G.ic) (Q := fun y Hy => spA (fun i => spPaper K i.G) ([.ref y] ++ []) Hy _ E0) (hgb.kp hNb.l kpC') (ITab.tk hTC hsm2) (by omega) (by omega) hMr2 (fun x2 H8 s8 hm8 => ?_) xm2 dxm2 m1 m2 m3
        refine ⟨i, _, rows2.map fun r => r.map i.G.ic, wd, rfl, hm8, by omega, by omega, hMr2, hMb2, fun dv Hx s9 hdx => ?_⟩
        have hLx := paper_lim (G := i.G) hMr2 (by omega) hw3 hMb2
        have kpx := (kpC'.trans (Same.kp L s8)).trans (Same.kp L s9)
        have hNx := (hNC.mono s8).mono s9
        refine ⟨_, rfl, L, 2, rfl, by decide, hNx, fun k2 H3 d1 d2 kp3 hN3 => ⟨_, _, rfl, rfl, _, rfl, by omega, by omega, ?_⟩⟩
        have kpx3 := kpx.trans kp3
        refine for_range (lo := 0) (n := ((1 : Int) + k2).toNat) (fun j σ H' => Kp L Hb H' ∧ Nums H' L ∧ ∃ y12 y13 dv d, σ = [some (.ref a), some (.ref L), some (.int i.G.p), some g, some (.int h), some (.int wd), some rv, some (.ref x), some ov, some (.ref pa), some (.int (0 + (t : Int))), some dv, y12, y13, none] ∧ RepD K i.G H' dv d ∧ Lim i.G (240 + j) (6 + j) d)
          ⟨kpx3, hN3, y12, y13, _, _, rfl, hdx.kp hNx.l kp3, hLx⟩ (fun j σ H' hj hP => ?_) fun σ H' hP => ?_
        · obtain ⟨kpj, hNj, y12', y13', dv2, dd, rfl, hdj, hLj⟩ := hP
          dsimp only [gName]
          refine ⟨_, rfl, _, rfl, _, rfl, i, L, g, dv2, dd, 240 + j, 6 + j, rfl, hNj, hp, hgb.kp hNb.l kpj, hdj, hLj, by omega, by omega, fun u d' H4 kp4 hN4 hr4 hl4 => ?_⟩
          exact ⟨kpj.trans kp4, hN4, some (.int (0 + (j : Int))), y13', u, d', rfl, hr4, hl4⟩
        · obtain ⟨kpj, hNj, y12', y13', dv2, dd, rfl, hdj, hLj⟩ := hP
          have hLj2 : Lim i.G 242 8 dd := hLj.mono (by omega) (by omega)
          have hmj := hmb.kp hNb.l kpj
          have hgj := hgb.kp hNb.l kpj
          have hOj := hOb.kp hNb.l kpj
          refine ⟨_, rfl, _, rfl, i, _, _, M, dd, wd, rfl, hmj, by omega, hw3, hMr, hMb, hdj, hLj2, fun H4 s4 => ?_⟩
          refine ⟨_, rfl, _, _, rfl, rfl, _, rfl, ?_⟩
          have fin : ∀ H5, Same H' H5 → Kp L Hb H5 ∧ Nums H5 L := fun H5 s5 => ⟨kpj.trans (Same.kp L s5), hNj.mono s5⟩
          cases hh : holdsD M.length wd M dd with
          | true =>
            refine iteF ?_
            refine iteF ?_
            refine ⟨_, rfl, _, rfl, _, rfl, _, rfl, _, rfl, _, rfl, i, g, ov, _, M, dd, wd, rfl, hgj.mono s4, (hOj.mono s4).t, by omega, hw3, hMr, hMb, hdj.mono s4, hLj2, fun H5 s5 => ?_⟩
            rw [hh]
            refine ⟨rfl, _, rfl, ?_⟩
            refine iteF ?_
            refine p_next ?_
            exact ⟨(fin H5 (s4.trans s5)).1, (fin H5 (s4.trans s5)).2, _, _, _, _, rfl⟩
          | false =>
            refine iteT ?_
            refine ⟨_, rfl, _, _, rfl, rfl, _, rfl, ?_⟩
            refine iteF ?_
            refine ⟨_, rfl, _, rfl, _, rfl, _, rfl, _, rfl, _, rfl, i, g, ov, _, M, dd, wd, rfl, hgj.mono s4, (hOj.mono s4).t, by omega, hw3, hMr, hMb, hdj.mono s4, hLj2, fun H5 s5 => ?_⟩
            rw [hh]
            refine ⟨rfl, _, rfl, ?_⟩
            refine iteF ?_
            refine p_next ?_
            exact ⟨(fin H5 (s4.trans s5)).1, (fin H5 (s4.trans s5)).2, _, _, _, _, rfl⟩
      · have hdx := hpb.kp hNb.l kpAB
        have hLx := hLp
        have kpx := kpAB
        have hNx := hNB
        refine p_next ?_
        dsimp only
        refine ⟨_, rfl, L, 2, rfl, by decide, hNx, fun k2 H3 d1 d2 kp3 hN3 => ⟨_, _, rfl, rfl, _, rfl, by omega, by omega, ?_⟩⟩
        have kpx3 := kpx.trans kp3
        refine for_range (lo := 0) (n := ((1 : Int) + k2).toNat) (fun j σ H' => Kp L Hb H' ∧ Nums H' L ∧ ∃ y12 y13 dv d, σ = [some (.ref a), some (.ref L), some (.int i.G.p), some g, some (.int h), some (.int wd), some rv, some (.ref x), some ov, some (.ref pa), some (.int (0 + (t : Int))), some dv, y12, y13, none] ∧ RepD K i.G H' dv d ∧ Lim i.G (240 + j) (6 + j) d)
          ⟨kpx3, hN3, y12, y13, _, _, rfl, hdx.kp hNx.l kp3, hLx⟩ (fun j σ H' hj hP => ?_) fun σ H' hP => ?_
        · obtain ⟨kpj, hNj, y12', y13', dv2, dd, rfl, hdj, hLj⟩ := hP
          dsimp only [gName]
          refine ⟨_, rfl, _, rfl, _, rfl, i, L, g, dv2, dd, 240 + j, 6 + j, rfl, hNj, hp, hgb.kp hNb.l kpj, hdj, hLj, by omega, by omega, fun u d' H4 kp4 hN4 hr4 hl4 => ?_⟩
          exact ⟨kpj.trans kp4, hN4, some (.int (0 + (j : Int))), y13', u, d', rfl, hr4, hl4⟩
        · obtain ⟨kpj, hNj, y12', y13', dv2, dd, rfl, hdj, hLj⟩ := hP
          have hLj2 : Lim i.G 242 8 dd := hLj.mono (by omega) (by omega)
          have hmj := hmb.kp hNb.l kpj
          have hgj := hgb.kp hNb.l kpj
          have hOj := hOb.kp hNb.l kpj
          refine ⟨_, rfl, _, rfl, i, _, _, M, dd, wd, rfl, hmj, by omega, hw3, hMr, hMb, hdj, hLj2, fun H4 s4 => ?_⟩
          refine ⟨_, rfl, _, _, rfl, rfl, _, rfl, ?_⟩
          have fin : ∀ H5, Same H' H5 → Kp L Hb H5 ∧ Nums H5 L := fun H5 s5 => ⟨kpj.trans (Same.kp L s5), hNj.mono s5⟩
          cases hh : holdsD M.length wd M dd with
          | true =>
            refine iteF ?_
            refine iteF ?_
            refine ⟨_, rfl, _, rfl, _, rfl, _, rfl, _, rfl, _, rfl, i, g, ov, _, M, dd, wd, rfl, hgj.mono s4, (hOj.mono s4).t, by omega, hw3, hMr, hMb, hdj.mono s4, hLj2, fun H5 s5 => ?_⟩
            rw [hh]
            refine ⟨rfl, _, rfl, ?_⟩
            refine iteF ?_
            refine p_next ?_
            exact ⟨(fin H5 (s4.trans s5)).1, (fin H5 (s4.trans s5)).2, _, _, _, _, rfl⟩
          | false =>
            refine iteT ?_
            refine ⟨_, rfl, _, _, rfl, rfl, _, rfl, ?_⟩
            refine iteF ?_
            refine ⟨_, rfl, _, rfl, _, rfl, _, rfl, _, rfl, _, rfl, i, g, ov, _, M, dd, wd, rfl, hgj.mono s4, (hOj.mono s4).t, by omega, hw3, hMr, hMb, hdj.mono s4, hLj2, fun H5 s5 => ?_⟩
            rw [hh]
            refine ⟨rfl, _, rfl, ?_⟩
            refine iteF ?_
            refine p_next ?_
            exact ⟨(fin H5 (s4.trans s5)).1, (fin H5 (s4.trans s5)).2, _, _, _, _, rfl⟩
    · obtain ⟨kpA, hNA, y10, y11, y12, y13, rfl⟩ := hP
      have hpaA := kpA.at_ hNb.l hpab (fun xs z => by cases z)
      have hmA := hmb.kp hNb.l kpA
      have r2A := r2b.kp hNb.l kpA
      have r3A := r3b.kp hNb.l kpA
      have r4A := r4b.kp hNb.l kpA
      have r5A := r5b.kp hNb.l kpA
      have hpA := hpb.kp hNb.l kpA
      refine ⟨_, rfl, pa, _, _, _, rfl, rfl, SqT.of hpaA, rfl, ?_⟩
      refine ⟨_, rfl, _, rfl, _, _, rfl, rfl, (by show 2 ≤ sizeLine; decide), fun t nt => ?_⟩
      have st : Same H' (upd H' t (.tup [.str (Str.ofString "rank"), .int (((redN i.G.inv M wd).fp.length : Nat) + 1)])) := same_upd nt
      refine ⟨_, rfl, _, rfl, pa, _, rfl, SqT.of (st _ _ hpaA), fun z => absurd z.1 (by show ¬ (2 = 0); decide), fun _ p np => ?_⟩
      have sp := st.trans (same_upd (o := .tup (cutV [u0, .int ((redN i.G.inv M wd).fp.length : Nat), u2, u3, u4, u5] (some 2) none)) np)
      refine ⟨t, p, _, _, rfl, rfl, SqT.of ((same_upd np) _ _ upd_same), SqT.of upd_same, (by show 2 + 4 ≤ sizeLine; decide), fun z => absurd z (by intro z; cases z), fun _ z => absurd z (by intro z; cases z), fun _ _ p2 np2 => ?_⟩
      have s2 := sp.trans (same_upd (o := .tup ([.str (Str.ofString "rank"), .int (((redN i.G.inv M wd).fp.length : Nat) + 1)] ++ cutV [u0, .int ((redN i.G.inv M wd).fp.length : Nat), u2, u3, u4, u5] (some 2) none)) np2)
      have hL2 := more_lim (G := i.G) hMr (by omega) hw3 hMb
      refine ⟨i, _, _, M, _, wd, rfl, hmA.mono s2, by omega, hw3, hMr, hMb, .tupA upd_same (.cons (RepD.rk _) (.cons (.int _) (.cons (r2A.mono s2) (.cons (r3A.mono s2) (.cons (r4A.mono s2) (.cons (r5A.mono s2) .nil)))))), hL2.mono (by decide) (by decide), fun H20 s20 => ⟨_, _, rfl, rfl, _, rfl, ?_⟩⟩
      rw [paper_more (G := i.G) hMr]
      refine iteT ?_
      have s220 := s2.trans s20
      refine ⟨_, rfl, _, rfl, (by show 1 ≤ sizeLine; decide), fun t3 nt3 => ?_⟩
      have s3 := s220.trans (same_upd (o := .tup [.non]) nt3)
      refine ⟨pa, t3, _, _, rfl, rfl, SqT.of (s3 _ _ hpaA), SqT.of upd_same, (by show 6 + 1 ≤ sizeLine; decide), fun z => absurd z (by intro z; cases z), fun _ z => absurd z (by intro z; cases z), fun _ _ p4 np4 => ?_⟩
      have s4 := s3.trans (same_upd (o := .tup ([u0, .int ((redN i.G.inv M wd).fp.length : Nat), u2, u3, u4, u5] ++ [.non])) np4)
      obtain ⟨pa', us', e1, e2, alp'⟩ := RepD.al (a := 0) (hpA.mono s4)
      cases e1
      rw [s4 _ _ hpaA] at e2
      cases e2
      refine ⟨i, _, _, M, _, wd, rfl, hmA.mono s4, by omega, hw3, hMr, hMb, .tupA upd_same (alp'.app (.cons .non .nil)), .tup (by show 6 + 1 ≤ 8; decide) fun d hd => ?_, fun H30 s30 => ⟨_, _, rfl, rfl, ?_⟩⟩
      · rcases List.mem_append.mp hd with hd | hd
        · exact hLp2.mem hd
        · rw [List.mem_singleton.mp hd]
          exact .non
      · rw [holds_len (by show ¬ (6 + 1 = 6); decide)]
        exact q H30
end
end K51

set_option Elab.async false
set_option linter.all false
set_option maxRecDepth 100000
set_option maxHeartbeats 0
namespace K51
open PySem PySem.Spec PyProof.Rows L2
abbrev RW : PySem.W.OpenRow := PySem.W.OpenLaw.row PySem.Challenge.rw_similarforms_k51_whole_papers_of_ranks
abbrev hkZ : PySem.W.Hook := hookZ fa fn ex
def obZ (s : PySem.W.SharedT) : He.AlD × Bool := (He.obsD fa fn (kT s), ex.all fun f => f (kT s))
theorem obZ_eq (s : PySem.W.SharedT) : obZ s = hkZ.obs s.abs := by
  have e : HandSHeadRun.getT s = s.abs.heap.get? := funext (HandSHeadRun.getT_eq s)
  unfold obZ kT
  rw [e]
  rfl
theorem runZ (w : World) : HandSHeadRun.RunEqI RW (PySem.W.view RW.prog [0, 69]) hkZ obZ 8000 loose w := by
  unfold HandSHeadRun.RunEqI
  kernel_rfl
theorem factsZ {P : Program} {w : World} {K : PySem.W.Frag} {h : Heap} {mg : Str → Option Value} {f : Addr} (X : K.In h) (G : h.Ns mainGlobals mg) (hfa : mg ("law" : Str) = some (.ref f)) (c : He.SaysD fa fn K) (cx : (ex.all fun f => f K) = true) :
    ∃ fd : FuncData, (∀ (s : Shared) (v : Value), BindsTo s fd ⟨[v], []⟩ [("_law_script", v)]) ∧ ∀ base : Heap, K.In base → base.Ns mainGlobals mg → FnOk P w K mg base CX0 16 f fd ["_law_script"] (spLaw K) := by
  have T : Tx K mg := ⟨c, cx, h, X, G⟩
  have F := F_law c
  have e := hfa.symm.trans (T.glo (a_glo_law c))
  cases e
  have b := FunD.bindsA (ps := ["_law_script"]) F fun _ _ _ _ _ _ us hl => match us, hl with | [_], _ => rfl
  exact ⟨_, fun s v => b s [v] rfl, fun base _ _ => ok_law T⟩
end K51
open PySem PySem.W PySem.Calls PyProof.Rows
theorem PySem.Challenge.cw_similarforms_k51_whole_papers_of_ranks_holds : PySem.Challenge.rw_similarforms_k51_whole_papers_of_ranks.Holds := by
  w_on; o_law
  refine HandSHeadRun.head_imp (r := OpenLaw.row PySem.Challenge.rw_similarforms_k51_whole_papers_of_ranks) (q := view (OpenLaw.row PySem.Challenge.rw_similarforms_k51_whole_papers_of_ranks).prog [0, 69]) (H := K51.hkZ) (ob := K51.obZ) (M := 8000) (loose := K51.loose) (d := HandSHeadRun.topDef (OpenLaw.row PySem.Challenge.rw_similarforms_k51_whole_papers_of_ranks).prog 69) (kwd := []) K51.obZ_eq
    K51.runZ (by kernel_rfl) (by kernel_rfl) (by kernel_rfl) (by rfl) (by first | assumption | decide +kernel) (by decide +kernel) ⟨rfl, rfl, rfl, rfl, rfl, by decide +kernel⟩ ?hw ?hc
  case hw => w_witness2
  case hc =>
    refine L2.walk_ofE (l := PySem.Challenge.rw_similarforms_k51_whole_papers_of_ranks) (n := 63) (k := 16) (x := "_law_script") (CX := L2.CX0) rfl (by decide) (by kernel_rfl) ⟨rfl, by decide, by decide⟩ ?F (fun _ _ _ _ z => z)
    intro w mg fa h Y G hmg0
    obtain ⟨K, KX, c, cx⟩ := Y
    have hmg : mg ("law" : PySem.Str) = some (.ref fa) := by
      have e : (HandSHeadRun.topDef (OpenLaw.row PySem.Challenge.rw_similarforms_k51_whole_papers_of_ranks).prog 69).name = ("law" : PySem.Str) := by kernel_rfl
      rw [← e]
      exact hmg0
    obtain ⟨fd, hb, hF⟩ := K51.factsZ (P := (PySem.Challenge.rw_similarforms_k51_whole_papers_of_ranks).prog) (w := w) KX G hmg c cx
    exact ⟨K, fd, K51.spLaw K, KX, hb, fun H a ns hl _ hS => ⟨a, ns, rfl, hS, hl, fun _ => rfl⟩, hF⟩

