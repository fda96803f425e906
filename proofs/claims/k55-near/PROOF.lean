import PyProof.Rows.All
import Wide.All
import OpenK.AllK
import Wide.FinOn
import HandS.ForMost
import HandS.Wide
import HandS.Defaults
import HandS.IsInst
import HandS.Zip
import HandS.Conv
import PySem.Challenge.RW_flowtokens_k55_whole_come_as_near_as_wis
import KE.KStateDown
import Lean
import HandS.Head0
import HandS.Head1
import HandS.Head2
import HandS.HeadEnd
import HandS.HeadHook1
import HandS.HeadHook2
import HandS.ClsMeth
import HandS.ExcField
import HandS.Codes
import HandS.ExcInit
import HandS.SetFor
import HandS.Strs
import HandS.ExcIs
import HandS.ExcOwn
import HandS.ExcValue
import KE.KExcIs
import PyProof.ReprRoads
import PyProof.Rows.RegStrFacts
import HandS.Ends
section
set_option linter.all false
/-! Plain facts of fractions. -/
namespace Tk
theorem fmod_nat (x y : Nat) : (x : Int).fmod (y : Int) = ((x % y : Nat) : Int) := by
  rw [Int.fmod_eq_emod_of_nonneg _ (by omega)]
  rfl
theorem fdiv_neg_of_dvd {a g : Int} (hg : 0 < g) (h : g ∣ a) : a.fdiv (-g) = (-a) / g := by
  obtain ⟨k, rfl⟩ := h
  have e : (g * k).fdiv (-g) = -k := by
    have e1 : g * k = (-g) * (-k) := (Int.neg_mul_neg g k).symm
    rw [e1, Int.mul_fdiv_cancel_left _ (by omega)]
  rw [e]
  have e2 : -(g * k) = g * (-k) := (Int.mul_neg g k).symm
  rw [e2, Int.mul_ediv_cancel_left _ (by omega)]
theorem gcd_pos_of {a b : Int} (h : b ≠ 0) : 0 < (Int.gcd a b : Int) := by
  have := Int.gcd_pos_iff.mpr (.inr h : a ≠ 0 ∨ b ≠ 0)
  omega
theorem divInt_pos {a b : Int} (h : 0 < b) : (Rat.divInt a b).num = a.fdiv (Int.gcd a b) ∧ ((Rat.divInt a b).den : Int) = b.fdiv (Int.gcd a b) := by
  have hg := gcd_pos_of (a := a) (show b ≠ 0 by omega)
  rw [Int.fdiv_eq_ediv_of_nonneg _ (by omega), Int.fdiv_eq_ediv_of_nonneg _ (by omega), Rat.num_divInt, Rat.den_divInt, if_neg (by omega), Int.gcd_comm b a, Int.sign_eq_one_of_pos h, Int.one_mul]
  refine ⟨rfl, ?_⟩
  rw [Int.natCast_ediv]
  have e : (b.natAbs : Int) = b := by omega
  rw [e]
theorem divInt_neg {a b : Int} (h : b < 0) : (Rat.divInt a b).num = a.fdiv (0 - (Int.gcd a b : Int)) ∧ ((Rat.divInt a b).den : Int) = b.fdiv (0 - (Int.gcd a b : Int)) := by
  have hg := gcd_pos_of (a := a) (show b ≠ 0 by omega)
  have d1 : (Int.gcd a b : Int) ∣ a := Int.gcd_dvd_left ..
  have d2 : (Int.gcd a b : Int) ∣ b := Int.gcd_dvd_right ..
  rw [Int.zero_sub, fdiv_neg_of_dvd hg d1, fdiv_neg_of_dvd hg d2, Rat.num_divInt, Rat.den_divInt, if_neg (by omega), Int.gcd_comm b a, Int.sign_eq_neg_one_of_neg h]
  refine ⟨by rw [Int.neg_one_mul], ?_⟩
  rw [Int.natCast_ediv]
  have e : (b.natAbs : Int) = -b := by omega
  rw [e]
theorem add_divInt (x y : Rat) : x + y = Rat.divInt (x.num * y.den + y.num * x.den) (x.den * y.den) := by
  rw [Rat.add_def', ← Rat.divInt_ofNat]
  simp
theorem sub_divInt (x y : Rat) : x - y = Rat.divInt (x.num * y.den - y.num * x.den) (x.den * y.den) := by
  rw [Rat.sub_def', ← Rat.divInt_ofNat]
  simp
theorem mul_divInt (x y : Rat) : x * y = Rat.divInt (x.num * y.num) (x.den * y.den) := by
  rw [Rat.mul_def', ← Rat.divInt_ofNat]
  simp
theorem div_divInt (x y : Rat) : x / y = Rat.divInt (x.num * y.den) (x.den * y.num) := by
  rw [Rat.div_def, Rat.inv_def]
  conv => lhs; rw [← Rat.num_divInt_den x]
  rw [Rat.divInt_mul_divInt]
theorem den_pos (x : Rat) : 0 < (x.den : Int) := by
  have := x.den_pos
  omega
theorem num_pos {x : Rat} : 0 < x.num ↔ 0 < x := by
  have h1 := @Rat.num_nonneg x
  have h2 := @Rat.num_eq_zero x
  constructor
  · intro h
    have h3 : 0 ≤ x := h1.mp (by omega)
    have h4 : x ≠ 0 := fun e => by rw [h2.mpr e] at h; omega
    grind
  · intro h
    have h3 : 0 ≤ x.num := h1.mpr (by grind)
    have h4 : x.num ≠ 0 := fun e => by have := h2.mp e; grind
    omega
theorem num_neg {x : Rat} : x.num < 0 ↔ x < 0 := by
  have h1 := @Rat.num_nonneg x
  constructor
  · intro h
    have h3 : ¬ 0 ≤ x := fun z => by have := h1.mpr z; omega
    grind
  · intro h
    have h3 : ¬ 0 ≤ x.num := fun z => by have := h1.mp z; grind
    omega
theorem lt_num (x y : Rat) : x.num * (y.den : Int) < y.num * (x.den : Int) ↔ x < y := (Rat.lt_iff x y).symm
/-- x is a whole number of D-th parts, at most B of them -/
def Ov (D B : Nat) (x : Rat) : Prop := ∃ k : Int, x * (D : Rat) = (k : Rat) ∧ k.natAbs ≤ B
theorem natc (n : Nat) : ((n : Int) : Rat) = (n : Rat) := Rat.intCast_natCast n
theorem Ov.add {D B C : Nat} {x y : Rat} (hx : Ov D B x) (hy : Ov D C y) : Ov D (B + C) (x + y) := by
  obtain ⟨k, e, h⟩ := hx
  obtain ⟨l, f, g⟩ := hy
  exact ⟨k + l, by rw [Rat.add_mul, e, f, Rat.intCast_add], by omega⟩
theorem Ov.neg {D B : Nat} {x : Rat} (hx : Ov D B x) : Ov D B (-x) := by
  obtain ⟨k, e, h⟩ := hx
  exact ⟨-k, by rw [Rat.neg_mul, e, Rat.intCast_neg], by omega⟩
theorem Ov.sub {D B C : Nat} {x y : Rat} (hx : Ov D B x) (hy : Ov D C y) : Ov D (B + C) (x - y) := by
  rw [Rat.sub_eq_add_neg]
  exact hx.add hy.neg
theorem Ov.mul {D E B C : Nat} {x y : Rat} (hx : Ov D B x) (hy : Ov E C y) : Ov (D * E) (B * C) (x * y) := by
  obtain ⟨k, e, h⟩ := hx
  obtain ⟨l, f, g⟩ := hy
  refine ⟨k * l, ?_, ?_⟩
  · rw [Rat.intCast_mul, ← e, ← f, Rat.natCast_mul]
    grind
  · rw [Int.natAbs_mul]
    exact Nat.mul_le_mul h g
theorem Ov.up {D B : Nat} {x : Rat} (hx : Ov D B x) (E : Nat) : Ov (D * E) (B * E) x := by
  have h : Ov E E (1 : Rat) := ⟨(E : Int), by rw [Rat.one_mul, natc], by omega⟩
  have q := hx.mul h
  rw [Rat.mul_one] at q
  exact q
theorem Ov.mono {D B C : Nat} {x : Rat} (hx : Ov D B x) (h : B ≤ C) : Ov D C x := by
  obtain ⟨k, e, g⟩ := hx
  exact ⟨k, e, by omega⟩
theorem Ov.zero (D B : Nat) : Ov D B 0 := ⟨0, by rw [Rat.zero_mul] <;> rfl, by simp⟩
theorem Ov.self (x : Rat) : Ov x.den x.num.natAbs x := by
  refine ⟨x.num, ?_, Nat.le_refl _⟩
  have h : (x.den : Rat) ≠ 0 := fun z => x.den_nz (by
    have := Rat.natCast_eq_zero_iff.mp z
    exact this)
  have e : x = (x.num : Rat) / (x.den : Rat) := by
    have q := Rat.num_divInt_den x
    rw [Rat.divInt_eq_div, natc] at q
    exact q.symm
  have q := Rat.div_mul_cancel (a := (x.num : Rat)) h
  rw [← e] at q
  exact q
/-- its parts are no greater -/
theorem Ov.den {D B : Nat} {x : Rat} (hD : 0 < D) (hx : Ov D B x) : x.den ∣ D ∧ x.num.natAbs ≤ B := by
  obtain ⟨k, e, h⟩ := hx
  have hD' : (D : Rat) ≠ 0 := fun z => by
    have := Rat.natCast_eq_zero_iff.mp z
    omega
  have ex : x = Rat.divInt k D := by
    rw [Rat.divInt_eq_div, natc, ← e, Rat.mul_div_cancel hD']
  have e1 : x.num * (D : Int) = k * (x.den : Int) := by
    have q := ex
    conv at q => lhs; rw [← Rat.num_divInt_den x]
    rw [Rat.divInt_eq_divInt_iff (by have := x.den_pos; omega) (by omega)] at q
    exact q
  have hc : Nat.Coprime x.num.natAbs x.den := x.reduced
  have hd : x.den ∣ D := by
    have h2 : (x.den : Int) ∣ x.num * (D : Int) := ⟨k, by rw [e1, Int.mul_comm]⟩
    have h3 : x.den ∣ x.num.natAbs * D := by
      have := Int.natAbs_dvd_natAbs.mpr h2
      rw [Int.natAbs_mul] at this
      simpa using this
    exact hc.symm.dvd_of_dvd_mul_left h3
  refine ⟨hd, ?_⟩
  obtain ⟨q, rfl⟩ := hd
  have hq : 0 < q := by
    rcases Nat.eq_zero_or_pos q with z | z
    · subst z; omega
    · exact z
  have e2 : x.num * (q : Int) = k := by
    have hdp := den_pos x
    rw [Int.natCast_mul] at e1
    have : (x.den : Int) * (x.num * (q : Int)) = (x.den : Int) * k := by
      rw [← Int.mul_assoc, Int.mul_comm (x.den : Int) x.num, Int.mul_assoc, e1, Int.mul_comm]
    exact Int.eq_of_mul_eq_mul_left (by omega) this
  have e3 : x.num.natAbs * q = k.natAbs := by
    rw [← e2, Int.natAbs_mul]
    rfl
  calc x.num.natAbs ≤ x.num.natAbs * q := Nat.le_mul_of_pos_right _ hq
    _ = k.natAbs := e3
    _ ≤ B := h
end Tk
end
section
set_option linter.all false
set_option maxRecDepth 100000
/-! Plain vectors, nets, what deeds do. -/
namespace Tk
def sumN (f : Nat → Rat) : Nat → Rat
  | 0 => 0
  | n + 1 => sumN f n + f n
def updN (v : Nat → Rat) (i : Nat) (x : Rat) : Nat → Rat := fun j => if j = i then x else v j
theorem updN_same (v : Nat → Rat) (i : Nat) (x : Rat) : updN v i x i = x := if_pos rfl
theorem updN_ne {v : Nat → Rat} {i j : Nat} {x : Rat} (h : j ≠ i) : updN v i x j = v j := if_neg h
theorem sumN_congr {f g : Nat → Rat} : ∀ {n : Nat}, (∀ i, i < n → f i = g i) → sumN f n = sumN g n
  | 0, _ => rfl
  | n + 1, h => by
    show sumN f n + f n = sumN g n + g n
    rw [sumN_congr fun i hi => h i (by omega), h n (by omega)]
theorem sumN_add (f g : Nat → Rat) : ∀ n, sumN (fun i => f i + g i) n = sumN f n + sumN g n
  | 0 => by show (0 : Rat) = 0 + 0; rw [Rat.add_zero]
  | n + 1 => by
    show sumN (fun i => f i + g i) n + (f n + g n) = sumN f n + f n + (sumN g n + g n)
    rw [sumN_add f g n]
    grind
theorem sumN_mul (c : Rat) (f : Nat → Rat) : ∀ n, sumN (fun i => c * f i) n = c * sumN f n
  | 0 => by show (0 : Rat) = c * 0; rw [Rat.mul_zero]
  | n + 1 => by
    show sumN (fun i => c * f i) n + c * f n = c * (sumN f n + f n)
    rw [sumN_mul c f n, Rat.mul_add]
theorem sumN_zero : ∀ n, sumN (fun _ => 0) n = 0
  | 0 => rfl
  | n + 1 => by
    show sumN (fun _ => 0) n + 0 = 0
    rw [sumN_zero n, Rat.add_zero]
theorem sumN_comm (f : Nat → Nat → Rat) (m : Nat) : ∀ n, sumN (fun i => sumN (fun j => f i j) m) n = sumN (fun j => sumN (fun i => f i j) n) m
  | 0 => by
    show (0 : Rat) = sumN (fun j => 0) m
    rw [sumN_zero]
  | n + 1 => by
    show sumN (fun i => sumN (fun j => f i j) m) n + sumN (fun j => f n j) m = sumN (fun j => sumN (fun i => f i j) n + f n j) m
    rw [sumN_comm f m n, sumN_add]
theorem sumN_nonneg {f : Nat → Rat} : ∀ {n : Nat}, (∀ i, i < n → 0 ≤ f i) → 0 ≤ sumN f n
  | 0, _ => Rat.le_refl
  | n + 1, h => Rat.add_nonneg (sumN_nonneg fun i hi => h i (by omega)) (h n (by omega))
theorem sumN_ov {D B : Nat} {f : Nat → Rat} : ∀ {n : Nat}, (∀ i, i < n → Ov D B (f i)) → Ov D (n * B) (sumN f n)
  | 0, _ => Ov.zero D _
  | n + 1, h => by
    rw [Nat.add_mul, Nat.one_mul]
    exact (sumN_ov fun i hi => h i (by omega)).add (h n (by omega))
/-! ### nets -/
abbrev Side := List (Nat × Rat)
structure Net where
  many : Nat
  deeds : List (Side × Side)
def amt : Side → Nat → Rat
  | [], _ => 0
  | (q, a) :: r, p => (if q = p then a else 0) + amt r p
def addS (c : Rat) (s : Side) (v : Nat → Rat) : Nat → Rat := s.foldl (fun u e => updN u e.1 (u e.1 + c * e.2)) v
theorem addS_eq (c : Rat) : ∀ (s : Side) (v : Nat → Rat) (p : Nat), addS c s v p = v p + c * amt s p
  | [], v, p => by
    show v p = v p + c * 0
    rw [Rat.mul_zero, Rat.add_zero]
  | (q, a) :: r, v, p => by
    show addS c r (updN v q (v q + c * a)) p = v p + c * ((if q = p then a else 0) + amt r p)
    rw [addS_eq c r]
    by_cases h : q = p
    · subst h
      rw [updN_same, if_pos rfl]
      grind
    · rw [updN_ne (fun z => h z.symm), if_neg h]
      grind
theorem addS_snoc (c : Rat) (s : Side) (e : Nat × Rat) (v : Nat → Rat) : addS c (s ++ [e]) v = updN (addS c s v) e.1 (addS c s v e.1 + c * e.2) := by
  unfold addS
  rw [List.foldl_append]
  rfl
def setS (s : Side) (v : Nat → Rat) : Nat → Rat := s.foldl (fun u e => updN u e.1 e.2) v
theorem setS_snoc (s : Side) (e : Nat × Rat) (v : Nat → Rat) : setS (s ++ [e]) v = updN (setS s v) e.1 e.2 := by
  unfold setS
  rw [List.foldl_append]
  rfl
theorem amt_none : ∀ {s : Side} {p : Nat}, p ∉ s.map (·.1) → amt s p = 0
  | [], _, _ => rfl
  | (q, a) :: r, p, h => by
    have h1 : q ≠ p := fun z => h (by rw [z]; exact List.mem_cons_self)
    show (if q = p then a else 0) + amt r p = 0
    rw [if_neg h1, amt_none fun z => h (List.mem_cons_of_mem _ z), Rat.add_zero]
theorem setS_eq : ∀ {s : Side} {v : Nat → Rat} {p : Nat}, (s.map (·.1)).Nodup → setS s v p = if p ∈ s.map (·.1) then amt s p else v p
  | [], v, p, _ => rfl
  | (q, a) :: r, v, p, h => by
    have h1 : q ∉ r.map (·.1) ∧ (r.map (·.1)).Nodup := by
      rw [List.map_cons] at h
      exact List.nodup_cons.mp h
    show setS r (updN v q a) p = if p ∈ q :: r.map (·.1) then amt ((q, a) :: r) p else v p
    rw [setS_eq h1.2]
    by_cases hp : p ∈ r.map (·.1)
    · have hq : q ≠ p := fun z => h1.1 (by rw [z]; exact hp)
      rw [if_pos hp, if_pos (List.mem_cons_of_mem _ hp)]
      show amt r p = (if q = p then a else 0) + amt r p
      rw [if_neg hq, Rat.zero_add]
    · rw [if_neg hp]
      by_cases hq : q = p
      · subst hq
        rw [updN_same, if_pos List.mem_cons_self]
        show a = (if q = q then a else 0) + amt r q
        rw [if_pos rfl, amt_none hp, Rat.add_zero]
      · rw [updN_ne (fun z => hq z.symm), if_neg (fun z => by
          rcases List.mem_cons.mp z with z | z
          · exact hq z.symm
          · exact hp z)]
theorem setS_zero {s : Side} (h : (s.map (·.1)).Nodup) (p : Nat) : setS s (fun _ => 0) p = amt s p := by
  rw [setS_eq h]
  by_cases hp : p ∈ s.map (·.1)
  · rw [if_pos hp]
  · rw [if_neg hp, amt_none hp]
/-- what a deed changes -/
def chg (d : Side × Side) (p : Nat) : Rat := amt d.2 p - amt d.1 p
theorem addS_ov {D B C : Nat} {c : Rat} : ∀ {s : Side} {v : Nat → Rat} {p : Nat}, (Ov D B (v p)) → (∀ e ∈ s, Ov D C (c * e.2)) → Ov D (B + s.length * C) (addS c s v p)
  | [], v, p, h, _ => by
    rw [List.length_nil, Nat.zero_mul]
    exact h
  | (q, a) :: r, v, p, h, hs => by
    have h1 := hs (q, a) List.mem_cons_self
    have e : B + ((q, a) :: r).length * C = (B + C) + r.length * C := by
      rw [List.length_cons, Nat.add_mul]
      omega
    rw [e]
    show Ov D _ (addS c r (updN v q (v q + c * a)) p)
    refine addS_ov ?_ fun e he => hs e (List.mem_cons_of_mem _ he)
    by_cases hq : p = q
    · subst hq
      rw [updN_same]
      exact h.add h1
    · rw [updN_ne hq]
      exact h.mono (by omega)
end Tk
end
section
set_option Elab.async false
set_option linter.all false
set_option maxRecDepth 100000
set_option maxHeartbeats 4000000
/-! A layer of my own over HandS: values as data, stores of data, readings without heaps. -/
namespace Tk
open PySem PySem.Spec PyProof.Rows L2

/-! ### data that stand in a heap -/
mutual
inductive DD (K : PySem.W.Frag) (F : Hp) : V → PyData → Prop
  | non : DD K F V.non PyData.none
  | bl (b : Bool) : DD K F (V.bl b) (PyData.bool b)
  | int (i : Int) : DD K F (V.int i) (PyData.int i)
  | str (x : Str) : DD K F (V.str x) (PyData.str x)
  | lst {a : Addr} {vs : List V} {ds : List PyData} (h : F a = some (HO.lst vs)) (hs : DDs K F vs ds) : DD K F (V.ref a) (PyData.list ds)
  | tup {a : Addr} {vs : List V} {ds : List PyData} (h : SqT K F a vs) (hs : DDs K F vs ds) : DD K F (V.ref a) (PyData.tuple ds)
inductive DDs (K : PySem.W.Frag) (F : Hp) : List V → List PyData → Prop
  | nil : DDs K F [] []
  | cons {v : V} {vs : List V} {d : PyData} {ds : List PyData} (h : DD K F v d) (hs : DDs K F vs ds) : DDs K F (v :: vs) (d :: ds)
end
theorem sameT {K : PySem.W.Frag} {F F' : Hp} {a : Addr} {vs : List V} (e : Same F F') (h : SqT K F a vs) : SqT K F' a vs := by
  rcases h with (h | ⟨o, h⟩) | h
  · exact Or.inl (Or.inl (e _ _ h))
  · exact Or.inl (Or.inr ⟨o, e _ _ h⟩)
  · exact Or.inr h
mutual
theorem DD.mono {K : PySem.W.Frag} {F F' : Hp} (e : Same F F') : ∀ {v : V} {d : PyData}, DD K F v d → DD K F' v d
  | _, _, .non => .non
  | _, _, .bl b => .bl b
  | _, _, .int i => .int i
  | _, _, .str x => .str x
  | _, _, .lst h hs => .lst (e _ _ h) (DDs.mono e hs)
  | _, _, .tup h hs => .tup (sameT e h) (DDs.mono e hs)
theorem DDs.mono {K : PySem.W.Frag} {F F' : Hp} (e : Same F F') : ∀ {vs : List V} {ds : List PyData}, DDs K F vs ds → DDs K F' vs ds
  | _, _, .nil => .nil
  | _, _, .cons h hs => .cons (DD.mono e h) (DDs.mono e hs)
end
mutual
theorem DD.dp {K : PySem.W.Frag} {F : Hp} : ∀ {v : V} {d : PyData}, DD K F v d → Dp K F v d
  | _, _, .non => .non
  | _, _, .bl b => .bl b
  | _, _, .int i => .int i
  | _, _, .str x => .str x
  | _, _, .lst h hs => .lst (SqL.of h) (DDs.dp hs)
  | _, _, .tup h hs => .tup h (DDs.dp hs)
theorem DDs.dp {K : PySem.W.Frag} {F : Hp} : ∀ {vs : List V} {ds : List PyData}, DDs K F vs ds → DpAll K F vs ds
  | _, _, .nil => .nil
  | _, _, .cons h hs => .cons (DD.dp h) (DDs.dp hs)
end
section
variable {K : PySem.W.Frag} {F : Hp}
theorem DDs.len : ∀ {vs : List V} {ds : List PyData}, DDs K F vs ds → vs.length = ds.length
  | _, _, .nil => rfl
  | _, _, .cons _ hs => congrArg Nat.succ (DDs.len hs)
theorem DDs.get : ∀ {vs : List V} {ds : List PyData} {i : Nat} {d : PyData}, DDs K F vs ds → ds[i]? = some d → ∃ v, vs[i]? = some v ∧ DD K F v d
  | _, _, _, _, .nil, e => by simp at e
  | _, _, 0, _, .cons h _, e => by
    have q := Option.some.inj e
    subst q
    exact ⟨_, rfl, h⟩
  | _, _, i + 1, d, .cons _ hs, e => DDs.get (i := i) (d := d) hs e
theorem DDs.getV : ∀ {vs : List V} {ds : List PyData} {i : Nat} {v : V}, DDs K F vs ds → vs[i]? = some v → ∃ d, ds[i]? = some d ∧ DD K F v d
  | _, _, _, _, .nil, e => by simp at e
  | _, _, 0, _, .cons h _, e => by
    have q := Option.some.inj e
    subst q
    exact ⟨_, rfl, h⟩
  | _, _, i + 1, d, .cons _ hs, e => DDs.getV (i := i) (v := d) hs e
theorem DDs.set {v : V} {d : PyData} (q : DD K F v d) : ∀ {vs : List V} {ds : List PyData} (i : Nat), DDs K F vs ds → DDs K F (vs.set i v) (ds.set i d)
  | _, _, _, .nil => .nil
  | _, _, 0, .cons _ hs => .cons q hs
  | _, _, i + 1, .cons h hs => .cons h (DDs.set q i hs)
theorem DDs.app : ∀ {vs ws : List V} {ds es : List PyData}, DDs K F vs ds → DDs K F ws es → DDs K F (vs ++ ws) (ds ++ es)
  | _, _, _, _, .nil, h => h
  | _, _, _, _, .cons h hs, g => .cons h (DDs.app hs g)
theorem DDs.ints : ∀ ns : List Int, DDs K F (ns.map V.int) (ns.map PyData.int)
  | [] => .nil
  | n :: r => .cons (.int n) (DDs.ints r)
theorem DDs.int_of : ∀ {vs : List V} {ns : List Int}, DDs K F vs (ns.map PyData.int) → vs = ns.map V.int
  | _, [], .nil => rfl
  | _, n :: r, .cons h hs => by
    cases h
    rw [DDs.int_of hs] <;> rfl
theorem DDs.bool_of : ∀ {vs : List V} {ns : List Bool}, DDs K F vs (ns.map PyData.bool) → vs = ns.map V.bl
  | _, [], .nil => rfl
  | _, n :: r, .cons h hs => by
    cases h
    rw [DDs.bool_of hs] <;> rfl
theorem atI_DDs {vs : List V} {ds : List PyData} {i : Int} {d : PyData} (h : DDs K F vs ds) (e : atI ds i = some d) : ∃ v, atI vs i = some v ∧ DD K F v d := by
  unfold atI at e ⊢
  rw [h.len]
  cases q : ixN ds.length i with
  | none => rw [q] at e; cases e
  | some j =>
    rw [q] at e
    exact h.get (show ds[j]? = some d from e)
end

/-! ### how heaps grow -/
structure Gr (F H F' H' : Hp) : Prop where
  hh : Same H H'
  ff : Same F F'
  fh : Same F' H'
  nw : ∀ a, F a = none → H a ≠ none → F' a = none
section
variable {F H F' H' F2 H2 : Hp}
theorem Gr.refl (e : Same F H) : Gr F H F H := ⟨Same.refl H, Same.refl F, e, fun _ h _ => h⟩
theorem Gr.trans (g : Gr F H F' H') (k : Gr F' H' F2 H2) : Gr F H F2 H2 := ⟨g.hh.trans k.hh, g.ff.trans k.ff, k.fh, fun a h n => k.nw a (g.nw a h n) fun z => n (g.hh.free z)⟩
theorem same_new {H : Hp} {p : Addr} {o : HO} (h : H p = none) : Same H (upd H p o) := fun b x e => by
  rw [upd_ne (ne_of_none e h)]
  exact e
theorem same_both {F H : Hp} {p : Addr} {o : HO} (e : Same F H) : Same (upd F p o) (upd H p o) := fun b x h => by
  by_cases hb : b = p
  · subst hb
    rw [upd_same] at h ⊢
    exact h
  · rw [upd_ne hb] at h ⊢
    exact e b x h
theorem Gr.new {p : Addr} {o : HO} (e : Same F H) (h : H p = none) : Gr F H (upd F p o) (upd H p o) := ⟨same_new h, same_new (e.free h), same_both e, fun a z n => by
  rw [upd_ne (fun q => n (by rw [q]; exact h))]
  exact z⟩
/-- a new thing that is not frozen -/
theorem Gr.laid {p : Addr} {o : HO} (e : Same F H) (h : H p = none) : Gr F H F (upd H p o) := ⟨same_new h, Same.refl F, e.trans (same_new h), fun a z _ => z⟩
end

/-! ### stores -/
/-- an exception with a dict of its own, held by a name -/
def ExcO (a C d : Addr) : HO := .ext fun h => ∃ (oe : Obj) (vs : Array Value), h.get? a = some oe ∧ oe.cls = .ref C ∧ oe.dict = some d ∧ oe.data = .fields vs
inductive Slot where
  | no
  | fz (d : PyData)
  | mu (own : Bool) (ds : List PyData)
  | rw (v : V)
  /-- an own object that stands as it stood: its class, its fields -/
  | ob (C : Addr) (fs : List (Str × PyData))
  /-- the script: a list of ints that stands as it stood -/
  | sc (xs : List Int)
  /-- an exception of the class at C that is held -/
  | ex (C : Addr)
abbrev Sto := List Slot
def SlotOk (K : PySem.W.Frag) (M : Addr → Prop) (H0 F H : Hp) (o : Option (Option V)) : Slot → Prop
  | .no => True
  | .fz d => ∃ v, o = some (some v) ∧ DD K F v d
  | .mu own ds => ∃ p vs, o = some (some (.ref p)) ∧ H p = some (.lst vs) ∧ F p = none ∧ (if own = true then H0 p = none else M p) ∧ DDs K F vs ds
  | .rw v => o = some (some v)
  | .ex C => ∃ a d fs, o = some (some (.ref a)) ∧ H0 a = some (ExcO a C d) ∧ H0 d = some (.xd fs) ∧ ¬ M a ∧ ¬ M d
  | .sc xs => ∃ a, o = some (some (.ref a)) ∧ SqL K H0 a (xs.map V.int) ∧ ¬ M a
  | .ob C fs => ∃ a dx vs, o = some (some (.ref a)) ∧ H0 a = some (.ins C dx vs) ∧ ¬ M a ∧ ∀ x d, fs.lookup x = some d → ∃ v, vs.lookup x = some v ∧ DD K F v d
structure Rp (K : PySem.W.Frag) (M : Addr → Prop) (F0 H0 : Hp) (A : Sto) (σ : L2.St) (F H : Hp) : Prop where
  keep : ∀ a o, H0 a = some o → ¬ M a → H a = some o
  dom : ∀ a, H a = none → H0 a = none
  fz : Same F0 F
  sub : Same F H
  new : ∀ a, F0 a = none → H0 a ≠ none → F a = none
  len : A.length = σ.length
  slot : ∀ (i : Nat) (s : Slot), A[i]? = some s → SlotOk K M H0 F H (σ[i]?) s
  inj : ∀ (i j : Nat) (p : Addr) (o u : Bool) (ds es : List PyData), A[i]? = some (.mu o ds) → A[j]? = some (.mu u es) → σ[i]? = some (some (.ref p)) → σ[j]? = some (some (.ref p)) → i = j
def MutA (A : Sto) (σ : L2.St) (a : Addr) : Prop := ∃ (i : Nat) (o : Bool) (ds : List PyData), A[i]? = some (.mu o ds) ∧ σ[i]? = some (some (.ref a))
structure Ev (K : PySem.W.Frag) (M : Addr → Prop) (F0 H0 : Hp) (σ : L2.St) (A : Sto) (F H : Hp) (A' : Sto) (F' H' : Hp) : Prop where
  rp : Rp K M F0 H0 A' σ F' H'
  ff : Same F F'
  kp : ∀ a o, H a = some o → ¬ MutA A σ a → H' a = some o
  mm : ∀ a, MutA A' σ a → MutA A σ a
  dm : ∀ a, H' a = none → H a = none
  nw : ∀ a, F a = none → H a ≠ none → ¬ MutA A σ a → F' a = none
section
variable {K : PySem.W.Frag} {M : Addr → Prop} {F0 H0 F H F' H' F2 H2 : Hp} {A A' A2 : Sto} {σ : L2.St}
theorem SlotOk.mono {o : Option (Option V)} {s : Slot} (g : Gr F H F' H') (h : SlotOk K M H0 F H o s) : SlotOk K M H0 F' H' o s := by
  cases s with
  | no => trivial
  | fz d =>
    obtain ⟨v, e, q⟩ := h
    exact ⟨v, e, q.mono g.ff⟩
  | mu own ds =>
    obtain ⟨p, vs, e, hp, fp, m, q⟩ := h
    exact ⟨p, vs, e, g.hh _ _ hp, g.nw p fp (by rw [hp]; exact fun z => by cases z), m, q.mono g.ff⟩
  | rw v => exact h
  | sc xs => exact h
  | ex C => exact h
  | ob C fs =>
    obtain ⟨a, dx, vs, e, h0, m, q⟩ := h
    exact ⟨a, dx, vs, e, h0, m, fun x d l => let ⟨v, e, z⟩ := q x d l; ⟨v, e, z.mono g.ff⟩⟩
theorem Rp.grow (r : Rp K M F0 H0 A σ F H) (g : Gr F H F' H') : Rp K M F0 H0 A σ F' H' :=
  ⟨fun a o h m => g.hh _ _ (r.keep a o h m), fun a h => r.dom a (g.hh.free h), r.fz.trans g.ff, g.fh, fun a h n => g.nw a (r.new a h n) fun z => n (r.dom a z), r.len, fun i s e => (r.slot i s e).mono g, r.inj⟩
theorem Ev.refl (r : Rp K M F0 H0 A σ F H) : Ev K M F0 H0 σ A F H A F H := ⟨r, Same.refl F, fun _ _ h _ => h, fun _ h => h, fun _ h => h, fun _ h _ _ => h⟩
theorem Ev.trans (x : Ev K M F0 H0 σ A F H A' F' H') (y : Ev K M F0 H0 σ A' F' H' A2 F2 H2) : Ev K M F0 H0 σ A F H A2 F2 H2 :=
  ⟨y.rp, x.ff.trans y.ff, fun a o h n => y.kp a o (x.kp a o h n) fun z => n (x.mm a z), fun a z => x.mm a (y.mm a z), fun a z => x.dm a (y.dm a z), fun a h n m => y.nw a (x.nw a h n m) (fun z => n (x.dm a z)) fun z => m (x.mm a z)⟩
theorem Ev.grow (r : Rp K M F0 H0 A σ F H) (g : Gr F H F' H') : Ev K M F0 H0 σ A F H A F' H' := ⟨r.grow g, g.ff, fun a o h _ => g.hh a o h, fun _ h => h, fun _ z => g.hh.free z, fun a h n _ => g.nw a h n⟩
/-- a slot is set -/
theorem getset {α : Type} {l : List α} {i j : Nat} {a b : α} (h : (l.set i a)[j]? = some b) : (i = j ∧ b = a) ∨ (i ≠ j ∧ l[j]? = some b) := by
  by_cases e : i = j
  · subst e
    left
    refine ⟨rfl, ?_⟩
    by_cases hl : i < l.length
    · rw [List.getElem?_set_self hl] at h
      exact (Option.some.inj h).symm
    · rw [List.getElem?_eq_none (by rw [List.length_set]; omega)] at h
      cases h
  · right
    rw [List.getElem?_set_ne e] at h
    exact ⟨e, h⟩
theorem lt_of_get {α : Type} {l : List α} {i : Nat} {b : α} (h : l[i]? = some b) : i < l.length := (List.getElem?_eq_some_iff.mp h).1
theorem Rp.setS {i : Nat} {v : V} {s : Slot} (r : Rp K M F0 H0 A σ F H) (hs : SlotOk K M H0 F H (some (some v)) s) (hi : ∀ (p : Addr) (o : Bool) (ds : List PyData), s = .mu o ds → v = .ref p → ∀ (j : Nat) (u : Bool) (es : List PyData), A[j]? = some (.mu u es) → σ[j]? = some (some (.ref p)) → j = i) :
    Rp K M F0 H0 (A.set i s) (σ.set i (some v)) F H := by
  have nd : ∀ j, i ≠ j → (σ.set i (some v))[j]? = σ[j]? := fun j e => List.getElem?_set_ne e
  refine ⟨r.keep, r.dom, r.fz, r.sub, r.new, by rw [List.length_set, List.length_set]; exact r.len, fun j t e => ?_, fun j k p o u ds es e1 e2 e3 e4 => ?_⟩
  · rcases getset e with ⟨ej, et⟩ | ⟨ne, e⟩
    · subst ej
      subst et
      have hl : i < σ.length := by
        have := lt_of_get e
        rw [List.length_set, r.len] at this
        exact this
      rw [List.getElem?_set_self hl]
      exact hs
    · rw [nd j ne]
      exact r.slot j t e
  · rcases getset e1 with ⟨ej, et⟩ | ⟨ne, e1⟩
    · rcases getset e2 with ⟨ek, _⟩ | ⟨nk, e2⟩
      · omega
      · rw [nd k nk] at e4
        subst ej
        rcases getset e3 with ⟨_, e3⟩ | ⟨z, _⟩
        · have q := hi p o ds et.symm (Option.some.inj e3).symm k u es e2 e4
          omega
        · exact absurd rfl z
    · rw [nd j ne] at e3
      rcases getset e2 with ⟨ek, et⟩ | ⟨nk, e2⟩
      · subst ek
        rcases getset e4 with ⟨_, e4⟩ | ⟨z, _⟩
        · have q := hi p u es et.symm (Option.some.inj e4).symm j o ds e1 e3
          omega
        · exact absurd rfl z
      · rw [nd k nk] at e4
        exact r.inj j k p o u ds es e1 e2 e3 e4
theorem Rp.set {i : Nat} {v : V} {d : PyData} (r : Rp K M F0 H0 A σ F H) (h : DD K F v d) : Rp K M F0 H0 (A.set i (.fz d)) (σ.set i (some v)) F H := r.setS ⟨v, rfl, h⟩ fun _ _ _ e => by cases e
theorem Rp.setRw {i : Nat} {v : V} (r : Rp K M F0 H0 A σ F H) : Rp K M F0 H0 (A.set i (.rw v)) (σ.set i (some v)) F H := r.setS rfl fun _ _ _ e => by cases e
/-- a new list is put into a slot -/
theorem Rp.setN {i : Nat} {p : Addr} {vs : List V} {ds : List PyData} (r : Rp K M F0 H0 A σ F H) (h0 : H0 p = none) (f0 : F p = none) (h : H p = some (.lst vs)) (q : DDs K F vs ds) (nm : ¬ MutA A σ p) :
    Rp K M F0 H0 (A.set i (.mu true ds)) (σ.set i (some (.ref p))) F H := r.setS ⟨p, vs, rfl, h, f0, h0, q⟩ fun p' o es e1 e2 j u gs e3 e4 => by
  injection e2 with e2
  subst e2
  exact absurd ⟨j, u, gs, e3, e4⟩ nm
/-- the slot of a list that may change, by its address -/
theorem Rp.mu_at {i : Nat} {o : Bool} {ds : List PyData} (r : Rp K M F0 H0 A σ F H) (e : A[i]? = some (.mu o ds)) : ∃ p vs, σ[i]? = some (some (.ref p)) ∧ H p = some (.lst vs) ∧ F p = none ∧ (if o = true then H0 p = none else M p) ∧ DDs K F vs ds := r.slot i _ e
theorem Rp.fz_at {i : Nat} {d : PyData} (r : Rp K M F0 H0 A σ F H) (e : A[i]? = some (.fz d)) : ∃ v, σ[i]? = some (some v) ∧ DD K F v d := r.slot i _ e
theorem Rp.rw_at {i : Nat} {v : V} (r : Rp K M F0 H0 A σ F H) (e : A[i]? = some (.rw v)) : σ[i]? = some (some v) := r.slot i _ e
theorem ref_inj {o : Option (Option V)} {a b : Addr} (h : o = some (some (V.ref a))) (g : o = some (some (V.ref b))) : a = b := by
  rw [h] at g
  injection g with g
  injection g with g
  injection g
/-- the list at slot i is changed -/
theorem Rp.mut {i : Nat} {o : Bool} {ds es : List PyData} {p : Addr} {ws : List V} (r : Rp K M F0 H0 A σ F H) (e : A[i]? = some (.mu o ds)) (hp : σ[i]? = some (some (.ref p))) (q : DDs K F ws es) :
    Rp K M F0 H0 (A.set i (.mu o es)) σ F (upd H p (.lst ws)) := by
  obtain ⟨p', vs, e1, h1, f1, m1, q1⟩ := r.mu_at e
  have ep : p' = p := ref_inj e1 hp
  subst ep
  refine ⟨fun a x h m => ?_, fun a h => ?_, r.fz, fun a x h => ?_, r.new, by rw [List.length_set]; exact r.len, fun j t ej => ?_, fun j k p2 o1 o2 d1 d2 j1 j2 j3 j4 => ?_⟩
  · have hk := r.keep a x h m
    have na : a ≠ p' := fun z => by
      subst z
      cases o with
      | true =>
        rw [if_pos rfl] at m1
        rw [h] at m1; cases m1
      | false =>
        rw [if_neg Bool.false_ne_true] at m1
        exact m m1
    rw [upd_ne na]
    exact hk
  · by_cases ha : a = p'
    · rw [ha, upd_same] at h
      cases h
    · rw [upd_ne ha] at h
      exact r.dom a h
  · rw [upd_ne (fun z => by rw [z, f1] at h; cases h)]
    exact r.sub a x h
  · rcases getset ej with ⟨ij, et⟩ | ⟨ne, ej⟩
    · subst ij
      subst et
      exact ⟨p', ws, hp, upd_same, f1, m1, q⟩
    · have s := r.slot j t ej
      cases t with
      | no => trivial
      | fz d => exact s
      | rw v => exact s
      | sc xs => exact s
      | ex C => exact s
      | ob C fs => exact s
      | mu o2 d2 =>
        obtain ⟨p2, v2, g1, g2, g3, g4, g5⟩ := s
        refine ⟨p2, v2, g1, ?_, g3, g4, g5⟩
        rw [upd_ne (fun z => by subst z; exact ne (r.inj i j p2 o o2 ds d2 e ej hp g1))]
        exact g2
  · have h1' : ∃ z w, A[j]? = some (.mu z w) := by
      rcases getset j1 with ⟨z, _⟩ | ⟨_, z⟩
      · exact ⟨o, ds, z ▸ e⟩
      · exact ⟨_, _, z⟩
    have h2' : ∃ z w, A[k]? = some (.mu z w) := by
      rcases getset j2 with ⟨z, _⟩ | ⟨_, z⟩
      · exact ⟨o, ds, z ▸ e⟩
      · exact ⟨_, _, z⟩
    obtain ⟨z1, w1, g1⟩ := h1'
    obtain ⟨z2, w2, g2⟩ := h2'
    exact r.inj j k p2 z1 z2 w1 w2 g1 g2 j3 j4
theorem Ev.mut {i : Nat} {o : Bool} {ds es : List PyData} {p : Addr} {ws : List V} (r : Rp K M F0 H0 A σ F H) (e : A[i]? = some (.mu o ds)) (hp : σ[i]? = some (some (.ref p))) (q : DDs K F ws es) :
    Ev K M F0 H0 σ A F H (A.set i (.mu o es)) F (upd H p (.lst ws)) := by
  refine ⟨r.mut e hp q, Same.refl F, fun a x h n => ?_, fun a z => ?_, fun a z => ?_, fun a h _ _ => h⟩
  · rw [upd_ne (fun z => by subst z; exact n ⟨i, o, ds, e, hp⟩)]
    exact h
  · obtain ⟨j, u, gs, z1, z2⟩ := z
    rcases getset z1 with ⟨ij, _⟩ | ⟨_, z1⟩
    · exact ⟨i, o, ds, e, by rw [ij]; exact z2⟩
    · exact ⟨j, u, gs, z1, z2⟩
  · by_cases ha : a = p
    · rw [ha, upd_same] at z
      cases z
    · rw [upd_ne ha] at z
      exact z
/-- the list at slot i changes no more -/
theorem Rp.freeze {i : Nat} {ds : List PyData} (r : Rp K M F0 H0 A σ F H) (e : A[i]? = some (.mu true ds)) : ∃ p F', σ[i]? = some (some (.ref p)) ∧ DD K F' (.ref p) (.list ds) ∧ Ev K M F0 H0 σ A F H (A.set i (.fz (.list ds))) F' H := by
  obtain ⟨p, vs, e1, h1, f1, m1, q1⟩ := r.mu_at e
  have m0 : H0 p = none := by
    rw [if_pos rfl] at m1
    exact m1
  have sn : Same F (upd F p (.lst vs)) := same_new f1
  have dd : DD K (upd F p (.lst vs)) (.ref p) (.list ds) := .lst upd_same (q1.mono sn)
  have rp : Rp K M F0 H0 (A.set i (.fz (.list ds))) σ (upd F p (.lst vs)) H := by
    refine ⟨r.keep, r.dom, r.fz.trans sn, fun a o h => ?_, fun a h n => ?_, by rw [List.length_set]; exact r.len, fun j t ej => ?_, fun j k p2 o1 o2 d1 d2 j1 j2 j3 j4 => ?_⟩
    · by_cases ha : a = p
      · subst ha
        rw [upd_same] at h
        cases h
        exact h1
      · rw [upd_ne ha] at h
        exact r.sub a o h
    · rw [upd_ne (fun z => n (by rw [z]; exact m0))]
      exact r.new a h n
    · rcases getset ej with ⟨ij, et⟩ | ⟨ne, ej⟩
      · subst ij
        subst et
        exact ⟨_, e1, dd⟩
      · have s := r.slot j t ej
        cases t with
        | no => trivial
        | fz d =>
          obtain ⟨v, g1, g2⟩ := s
          exact ⟨v, g1, g2.mono sn⟩
        | rw v => exact s
        | sc xs => exact s
        | ex C => exact s
        | ob C fs =>
          obtain ⟨a', dx, vs', e, h0, m, q⟩ := s
          exact ⟨a', dx, vs', e, h0, m, fun x d l => let ⟨v, e, z⟩ := q x d l; ⟨v, e, z.mono sn⟩⟩
        | mu o2 d2 =>
          obtain ⟨p2, v2, g1, g2, g3, g4, g5⟩ := s
          refine ⟨p2, v2, g1, g2, ?_, g4, g5.mono sn⟩
          rw [upd_ne (fun z => by subst z; exact ne (r.inj i j p2 true o2 ds d2 e ej e1 g1))]
          exact g3
    · rcases getset j1 with ⟨_, z⟩ | ⟨_, j1⟩
      · cases z
      · rcases getset j2 with ⟨_, z⟩ | ⟨_, j2⟩
        · cases z
        · exact r.inj j k p2 o1 o2 d1 d2 j1 j2 j3 j4
  refine ⟨p, _, e1, dd, rp, sn, fun a o h _ => h, fun a z => ?_, fun _ z => z, fun a h n m => by rw [upd_ne (fun z => m ⟨i, true, ds, e, by rw [z]; exact e1⟩)]; exact h⟩
  obtain ⟨j, u, es, z1, z2⟩ := z
  rcases getset z1 with ⟨_, z⟩ | ⟨_, z1⟩
  · cases z
  · exact ⟨j, u, es, z1, z2⟩
end

/-! ### readings without heaps -/
abbrev AE := Sto → (PyData → Sto → Prop) → Prop
abbrev AL := Sto → (List PyData → Sto → Prop) → Prop
abbrev AT := Sto → (Bool → Sto → Prop) → Prop
structure AEnds where
  nx : Sto → Prop
  rt : PyData → Sto → Prop
  bk : Sto → Prop := fun _ => False
  ct : Sto → Prop := fun _ => False
abbrev AS := AEnds → Sto → Prop
abbrev AG := PyData → Sto → (Sto → Prop) → Prop
abbrev AGs := List PyData → Sto → (Sto → Prop) → Prop
section
variable (K : PySem.W.Frag)
def SoE (t : TE) (a : AE) : Prop := ∀ (M : Addr → Prop) (F0 H0 : Hp) (A : Sto) (σ : L2.St) (F H : Hp) (Qd : PyData → Sto → Prop) (Q : VK), Rp K M F0 H0 A σ F H → a A Qd →
  (∀ d v A' F' H', Qd d A' → Ev K M F0 H0 σ A F H A' F' H' → DD K F' v d → Q v H') → t σ H Q
def SoT (t : TT) (a : AT) : Prop := ∀ (M : Addr → Prop) (F0 H0 : Hp) (A : Sto) (σ : L2.St) (F H : Hp) (Qd : Bool → Sto → Prop) (Q : Bool → Hp → Prop), Rp K M F0 H0 A σ F H → a A Qd →
  (∀ b A' F' H', Qd b A' → Ev K M F0 H0 σ A F H A' F' H' → Q b H') → t σ H Q
def SoA (t : TA) (a : AL) : Prop := ∀ (M : Addr → Prop) (F0 H0 : Hp) (A : Sto) (σ : L2.St) (F H : Hp) (Qd : List PyData → Sto → Prop) (Q : List V → Hp → Prop), Rp K M F0 H0 A σ F H → a A Qd →
  (∀ ds vs A' F' H', Qd ds A' → Ev K M F0 H0 σ A F H A' F' H' → DDs K F' vs ds → Q vs H') → t σ H Q
/-- a new list, not yet frozen -/
def SoN (t : TE) (a : AL) : Prop := ∀ (M : Addr → Prop) (F0 H0 : Hp) (A : Sto) (σ : L2.St) (F H : Hp) (Qd : List PyData → Sto → Prop) (Q : VK), Rp K M F0 H0 A σ F H → a A Qd →
  (∀ ds p vs A' F' H', Qd ds A' → Ev K M F0 H0 σ A F H A' F' H' → H p = none → F' p = none → H' p = some (.lst vs) → DDs K F' vs ds → Q (.ref p) H') → t σ H Q
/-- what a statement's end gives -/
structure EndsOk (M : Addr → Prop) (F0 H0 F : Hp) (C : AEnds) (E : Ends) : Prop where
  nx : ∀ A σ F' H', C.nx A → Rp K M F0 H0 A σ F' H' → Same F F' → E.nx σ H'
  rt : ∀ d v A σ F' H', C.rt d A → Rp K M F0 H0 A σ F' H' → Same F F' → DD K F' v d → E.rt v H'
  bk : ∀ A σ F' H', C.bk A → Rp K M F0 H0 A σ F' H' → Same F F' → E.bk σ H'
  ct : ∀ A σ F' H', C.ct A → Rp K M F0 H0 A σ F' H' → Same F F' → E.ct σ H'
def SoS (t : TS) (a : AS) : Prop := ∀ (M : Addr → Prop) (F0 H0 : Hp) (A : Sto) (σ : L2.St) (F H : Hp) (C : AEnds) (E : Ends), Rp K M F0 H0 A σ F H → a C A → EndsOk K M F0 H0 F C E → t E σ H
def setsL (σ : L2.St) : List Nat → List V → L2.St
  | i :: is, v :: vs => setsL (σ.set i (some v)) is vs
  | _, _ => σ
def SoG (t : TG) (a : AG) (is : List Nat) : Prop := ∀ (M : Addr → Prop) (F0 H0 : Hp) (A : Sto) (σ : L2.St) (F H : Hp) (x : V) (d : PyData) (Qd : Sto → Prop) (Q : L2.St → Hp → Prop), Rp K M F0 H0 A σ F H → DD K F x d → a d A Qd →
  (∀ A' us, Qd A' → us.length = is.length → Rp K M F0 H0 A' (setsL σ is us) F H → (∀ i, i ∉ is → A'[i]? = A[i]?) → (∀ a, MutA A' (setsL σ is us) a → MutA A σ a) → Q (setsL σ is us) H) → t x σ H Q
def SoGs (t : TGs) (a : AGs) (is : List Nat) : Prop := ∀ (M : Addr → Prop) (F0 H0 : Hp) (A : Sto) (σ : L2.St) (F H : Hp) (xs : List V) (ds : List PyData) (Qd : Sto → Prop) (Q : L2.St → Hp → Prop), Rp K M F0 H0 A σ F H → DDs K F xs ds → a ds A Qd →
  (∀ A' us, Qd A' → us.length = is.length → Rp K M F0 H0 A' (setsL σ is us) F H → (∀ i, i ∉ is → A'[i]? = A[i]?) → (∀ a, MutA A' (setsL σ is us) a → MutA A σ a) → Q (setsL σ is us) H) → t xs σ H Q
/-- what an iterator walks -/
structure ItD (J : It) (F : Hp) (ds : List PyData) : Prop where
  go : ∀ i H, Same F H → i < ds.length → J.go i H
  yld : ∀ i F1 H x H' d, Same F F1 → Same F1 H → ds[i]? = some d → J.yld i H x H' → ∃ F', Gr F1 H F' H' ∧ DD K F' x d
  stop : ∀ i H, Same F H → ds.length ≤ i → J.stop i H
def SoI (t : TI) (a : AL) : Prop := ∀ (M : Addr → Prop) (F0 H0 : Hp) (A : Sto) (σ : L2.St) (F H : Hp) (Qd : List PyData → Sto → Prop) (R : It → Hp → Prop), Rp K M F0 H0 A σ F H → a A Qd →
  (∀ J ds A' F' H', Qd ds A' → Ev K M F0 H0 σ A F H A' F' H' → ItD K J F' ds → R J H') → t σ H R
end
structure SE (X : Cx) (e : Expr) (t : TE) (a : AE) : Prop where
  p : PE X e t
  s : SoE X.K t a
structure SN (X : Cx) (e : Expr) (t : TE) (a : AL) : Prop where
  p : PE X e t
  s : SoN X.K t a
structure ST (X : Cx) (e : Expr) (t : TT) (a : AT) : Prop where
  p : PT X e t
  s : SoT X.K t a
structure SW (X : Cx) (e : Expr) (t : TT) (a : AT) : Prop where
  p : PW X e t
  s : SoT X.K t a
structure SA (X : Cx) (es : List Expr) (t : TA) (a : AL) : Prop where
  p : PA X es t
  s : SoA X.K t a
structure SS (X : Cx) (st : Stmt) (t : TS) (a : AS) : Prop where
  p : PS X st t
  s : SoS X.K t a
structure SSs (X : Cx) (sts : List Stmt) (t : TS) (a : AS) : Prop where
  p : PSs X sts t
  s : SoS X.K t a
structure SG (X : Cx) (e : Expr) (t : TG) (a : AG) (is : List Nat) : Prop where
  p : PG X e t
  s : SoG X.K t a is
structure SGs (X : Cx) (es : List Expr) (t : TGs) (a : AGs) (is : List Nat) : Prop where
  p : PGs X es t
  s : SoGs X.K t a is
structure SI (X : Cx) (tg e : Expr) (t : TI) (a : AL) : Prop where
  p : PI X tg e t
  s : SoI X.K t a
end Tk
end
section
set_option Elab.async false
set_option linter.all false
set_option maxRecDepth 100000
set_option maxHeartbeats 4000000
namespace Tk
open PySem PySem.Spec PyProof.Rows L2

/-! ### inversions -/
section
variable {K : PySem.W.Frag} {F : Hp} {v : V}
theorem DD.int_v {i : Int} (h : DD K F v (.int i)) : v = .int i := by cases h; rfl
theorem DD.bool_v {b : Bool} (h : DD K F v (.bool b)) : v = .bl b := by cases h; rfl
theorem DD.str_v {x : Str} (h : DD K F v (.str x)) : v = .str x := by cases h; rfl
theorem DD.none_v (h : DD K F v .none) : v = .non := by cases h; rfl
theorem DD.list_v {ds : List PyData} (h : DD K F v (.list ds)) : ∃ a vs, v = .ref a ∧ F a = some (.lst vs) ∧ DDs K F vs ds := by
  cases h with
  | lst h hs => exact ⟨_, _, rfl, h, hs⟩
theorem DD.tup_v {ds : List PyData} (h : DD K F v (.tuple ds)) : ∃ a vs, v = .ref a ∧ SqT K F a vs ∧ DDs K F vs ds := by
  cases h with
  | tup h hs => exact ⟨_, _, rfl, h, hs⟩
end

/-! ### names, constants -/
def aVar (i : Nat) : AE := fun A Q => ∃ d, A[i]? = some (.fz d) ∧ Q d A
def aVarF (i : Nat) : AE := fun A Q => ∃ ds, A[i]? = some (.mu true ds) ∧ Q (.list ds) (A.set i (.fz (.list ds)))
def aC (d : PyData) : AE := fun A Q => Q d A
section
variable {X : Cx}
theorem so_var (K : PySem.W.Frag) (i : Nat) : SoE K (tVar i) (aVar i) := fun M F0 H0 A σ F H Qd Q r h k => by
  obtain ⟨d, e, q⟩ := h
  obtain ⟨v, ev, dd⟩ := r.fz_at e
  exact ⟨v, ev, k d v A F H q (Ev.refl r) dd⟩
theorem so_varF (K : PySem.W.Frag) (i : Nat) : SoE K (tVar i) (aVarF i) := fun M F0 H0 A σ F H Qd Q r h k => by
  obtain ⟨ds, e, q⟩ := h
  obtain ⟨p, F', e1, dd, ev⟩ := r.freeze e
  exact ⟨_, e1, k _ _ _ F' H q ev dd⟩
theorem so_c (K : PySem.W.Frag) {v : V} {d : PyData} (h : ∀ F, DD K F v d) : SoE K (tC v) (aC d) := fun M F0 H0 A σ F H Qd Q r q k => k d v A F H q (Ev.refl r) (h F)
theorem sv (i : Nat) {x : Str} {pos : Pos} (hN : X.N[i]? = some x := by rfl) (hv : Vis X.env.scope x := by first | exact Or.inl rfl | exact Or.inr (Or.inl rfl) | exact Or.inr (Or.inr rfl)) (hd : (x == ("__debug__" : Str)) = false := by decide)
    (hcd : (x == ("__classdict__" : Str)) = false := by decide) : SE X (.Name x pos) (tVar i) (aVar i) := ⟨pe_var hN hv hd hcd, so_var _ i⟩
theorem svf (i : Nat) {x : Str} {pos : Pos} (hN : X.N[i]? = some x := by rfl) (hv : Vis X.env.scope x := by first | exact Or.inl rfl | exact Or.inr (Or.inl rfl) | exact Or.inr (Or.inr rfl)) (hd : (x == ("__debug__" : Str)) = false := by decide)
    (hcd : (x == ("__classdict__" : Str)) = false := by decide) : SE X (.Name x pos) (tVar i) (aVarF i) := ⟨pe_var hN hv hd hcd, so_varF _ i⟩
theorem se_int {i : Int} {j pos} : SE X (.Constant (.int i) j pos) (tC (.int i)) (aC (.int i)) := ⟨pe_int, so_c _ fun _ => .int i⟩
theorem se_bl {b : Bool} {j pos} : SE X (.Constant (.bool b) j pos) (tC (.bl b)) (aC (.bool b)) := ⟨pe_bl, so_c _ fun _ => .bl b⟩
theorem se_non {j pos} : SE X (.Constant .none j pos) (tC .non) (aC .none) := ⟨pe_non, so_c _ fun _ => .non⟩
theorem se_str {x : Str} {j pos} : SE X (.Constant (.str x) j pos) (tC (.str x)) (aC (.str x)) := ⟨pe_str, so_c _ fun _ => .str x⟩
theorem se_glob {x : Str} {a : Addr} {d : PyData} {pos : Pos} (hg : Gl X x) (hm : X.mg x = some (.ref a)) (h : ∀ F, DD X.K F (.ref a) d) (hd : (x == ("__debug__" : Str)) = false := by decide) : SE X (.Name x pos) (tC (.ref a)) (aC d) :=
  ⟨pe_glob (v := .ref a) hg hm rfl hd, so_c _ h⟩
end

/-! ### operators -/
abbrev RD := PyData → PyData → (PyData → Prop) → Prop
def SoR (K : PySem.W.Frag) (r : R2) (rd : RD) : Prop := ∀ (F H : Hp) (x y : V) (dx dy : PyData) (Qd : PyData → Prop) (Q : VK), Same F H → DD K F x dx → DD K F y dy → rd dx dy Qd →
  (∀ d v F' H', Qd d → Gr F H F' H' → DD K F' v d → Q v H') → r x y H Q
def aOp (rd : RD) (a b : AE) : AE := fun A Q => a A fun x A1 => b A1 fun y A2 => rd x y fun d => Q d A2
section
variable {K : PySem.W.Frag} {r : R2} {rd : RD} {ta tb : TE} {aa ab : AE}
theorem so_op (hr : SoR K r rd) (ha : SoE K ta aa) (hb : SoE K tb ab) : SoE K (tOp r ta tb) (aOp rd aa ab) := fun M F0 H0 A σ F H Qd Q rp h k => by
  refine ha M F0 H0 A σ F H _ _ rp h fun d v A1 F1 H1 h1 e1 d1 => ?_
  refine hb M F0 H0 A1 σ F1 H1 _ _ e1.rp h1 fun d' v' A2 F2 H2 h2 e2 d2 => ?_
  exact hr F2 H2 v v' d d' _ _ e2.rp.sub (d1.mono e2.ff) d2 h2 fun dd vv F3 H3 h3 g3 d3 => k dd vv A2 F3 H3 h3 ((e1.trans e2).trans (Ev.grow e2.rp g3)) d3
/-- two ints in, a value without parts out -/
def rdI (C : Int → Int → Prop) (g : Int → Int → PyData) : RD := fun x y Q => ∃ i j, x = .int i ∧ y = .int j ∧ C i j ∧ Q (g i j)
def rdI0 (g : Int → Int → PyData) : RD := fun x y Q => ∃ i j, x = .int i ∧ y = .int j ∧ Q (g i j)
theorem sor_I {C : Int → Int → Prop} {f : Int → Int → V} {g : Int → Int → PyData} (h : ∀ F i j, DD K F (f i j) (g i j)) : SoR K (rI C f) (rdI C g) := fun F H x y dx dy Qd Q e hx hy q k => by
  obtain ⟨i, j, e1, e2, c, q⟩ := q
  subst e1
  subst e2
  exact ⟨i, j, hx.int_v, hy.int_v, c, k _ _ F H q (Gr.refl e) (h F i j)⟩
theorem sor_I0 {f : Int → Int → V} {g : Int → Int → PyData} (h : ∀ F i j, DD K F (f i j) (g i j)) : SoR K (rI0 f) (rdI0 g) := fun F H x y dx dy Qd Q e hx hy q k => by
  obtain ⟨i, j, e1, e2, q⟩ := q
  subst e1
  subst e2
  exact ⟨i, j, hx.int_v, hy.int_v, k _ _ F H q (Gr.refl e) (h F i j)⟩
abbrev rdAdd : RD := rdI0 fun i j => .int (i + j)
abbrev rdSub : RD := rdI0 fun i j => .int (i - j)
abbrev rdMul : RD := rdI CMulW fun i j => .int (i * j)
abbrev rdLt : RD := rdI0 fun i j => .bool (decide (i < j))
abbrev rdLe : RD := rdI0 fun i j => .bool (decide (i ≤ j))
abbrev rdGt : RD := rdI0 fun i j => .bool (decide (j < i))
abbrev rdGe : RD := rdI0 fun i j => .bool (decide (j ≤ i))
/-- ==, != of ints, of texts, of bools, with None -/
def scD : PyData → PyData → Option Bool
  | .int i, .int j => some (decide (i = j))
  | .str i, .str j => some (decide (i = j))
  | .bool i, .bool j => some (decide (i = j))
  | _, _ => none
def rdEq : RD := fun x y Q => ∃ b, scD x y = some b ∧ Q (.bool b)
def rdNe : RD := fun x y Q => ∃ b, scD x y = some b ∧ Q (.bool (!b))
theorem scD_ok {F : Hp} {x y : V} {dx dy : PyData} {b : Bool} (hx : DD K F x dx) (hy : DD K F y dy) (h : scD dx dy = some b) : scal x y = true ∧ decide (x = y) = b := by
  cases dx with
  | int i =>
    cases dy with
    | int j =>
      have e1 := hx.int_v
      have e2 := hy.int_v
      subst e1
      subst e2
      refine ⟨rfl, ?_⟩
      have h' : some (decide (i = j)) = some b := h
      rw [← Option.some.inj h']
      by_cases e : i = j
      · subst e; simp
      · simp [e]
    | _ => cases h
  | str i =>
    cases dy with
    | str j =>
      have e1 := hx.str_v
      have e2 := hy.str_v
      subst e1
      subst e2
      refine ⟨rfl, ?_⟩
      have h' : some (decide (i = j)) = some b := h
      rw [← Option.some.inj h']
      by_cases e : i = j
      · subst e; simp
      · simp [e]
    | _ => cases h
  | bool i =>
    cases dy with
    | bool j =>
      have e1 := hx.bool_v
      have e2 := hy.bool_v
      subst e1
      subst e2
      refine ⟨rfl, ?_⟩
      have h' : some (decide (i = j)) = some b := h
      rw [← Option.some.inj h']
      by_cases e : i = j
      · subst e; simp
      · simp [e]
    | _ => cases h
  | _ => cases h
theorem sor_eq : SoR K rEq rdEq := fun F H x y dx dy Qd Q e hx hy q k => by
  obtain ⟨b, hb, q⟩ := q
  obtain ⟨h1, h2⟩ := scD_ok hx hy hb
  refine ⟨h1, ?_⟩
  rw [h2]
  exact k _ _ F H q (Gr.refl e) (.bl b)
theorem sor_ne : SoR K rNe rdNe := fun F H x y dx dy Qd Q e hx hy q k => by
  obtain ⟨b, hb, q⟩ := q
  obtain ⟨h1, h2⟩ := scD_ok hx hy hb
  refine ⟨h1, ?_⟩
  rw [h2]
  exact k _ _ F H q (Gr.refl e) (.bl (!b))
/-- is None, is not None -/
def isN : PyData → Bool
  | .none => true
  | _ => false
def rdIsN : RD := fun x y Q => y = .none ∧ Q (.bool (isN x))
def rdNotN : RD := fun x y Q => y = .none ∧ Q (.bool (!isN x))
theorem isN_ok {F : Hp} {x : V} {dx : PyData} (h : DD K F x dx) : decide (x = .non) = isN dx := by
  cases h <;> first | rfl | exact decide_eq_false (fun z => by cases z)
theorem sor_isN : SoR K (fun x y H Q => y = .non ∧ Q (.bl (decide (x = .non))) H) rdIsN := fun F H x y dx dy Qd Q e hx hy q k => by
  obtain ⟨e2, q⟩ := q
  subst e2
  refine ⟨hy.none_v, ?_⟩
  rw [isN_ok hx]
  exact k _ _ F H q (Gr.refl e) (.bl _)
theorem sor_notN : SoR K (fun x y H Q => y = .non ∧ Q (.bl (!decide (x = .non))) H) rdNotN := fun F H x y dx dy Qd Q e hx hy q k => by
  obtain ⟨e2, q⟩ := q
  subst e2
  refine ⟨hy.none_v, ?_⟩
  rw [isN_ok hx]
  exact k _ _ F H q (Gr.refl e) (.bl _)
/-- t[i], xs[i] -/
def rdIxT : RD := fun x y Q => ∃ ds i d, x = .tuple ds ∧ y = .int i ∧ atI ds i = some d ∧ Q d
def rdIxL : RD := fun x y Q => ∃ ds i d, x = .list ds ∧ y = .int i ∧ atI ds i = some d ∧ Q d
theorem sor_ixT : SoR K (rIxT K) rdIxT := fun F H x y dx dy Qd Q e hx hy q k => by
  obtain ⟨ds, i, d, e1, e2, ha, q⟩ := q
  subst e1
  subst e2
  obtain ⟨a, vs, rfl, sq, hs⟩ := hx.tup_v
  obtain ⟨v, hv, dv⟩ := atI_DDs hs ha
  exact ⟨a, vs, i, v, rfl, hy.int_v, sameT e sq, hv, k d v F H q (Gr.refl e) dv⟩
theorem sor_ixL : SoR K (rIxL K) rdIxL := fun F H x y dx dy Qd Q e hx hy q k => by
  obtain ⟨ds, i, d, e1, e2, ha, q⟩ := q
  subst e1
  subst e2
  obtain ⟨a, vs, rfl, sq, hs⟩ := hx.list_v
  obtain ⟨v, hv, dv⟩ := atI_DDs hs ha
  exact ⟨a, vs, i, v, rfl, hy.int_v, SqL.of (e _ _ sq), hv, k d v F H q (Gr.refl e) dv⟩
/-- k in ns, of ints -/
def rdIn (neg : Bool) : RD := fun x y Q => ∃ (i : Int) (ns : List Int), x = .int i ∧ y = .list (ns.map .int) ∧ Q (.bool (if neg then !decide (i ∈ ns) else decide (i ∈ ns)))
theorem eqV_int (a b : Int) : eqV (.int a) (.int b) = decide (a = b) := by
  unfold eqV
  first | rfl | (simp [beq_eq_decide]; done) | (by_cases h : a = b <;> simp [h])
theorem inV_ints (i : Int) : ∀ ns : List Int, inV (.int i) (ns.map V.int) = decide (i ∈ ns)
  | [] => by simp [inV]
  | n :: r => by
    have ih := inV_ints i r
    unfold inV at ih ⊢
    rw [List.map_cons, List.any_cons, ih, eqV_int]
    by_cases h : n = i
    · subst h; simp
    · have h2 : ¬ i = n := fun z => h z.symm
      simp [h, h2]
theorem flat_ints : ∀ ns : List Int, (ns.map V.int).all flatV = true
  | [] => rfl
  | n :: r => by
    rw [List.map_cons, List.all_cons, flat_ints r]
    rfl
theorem sor_in {neg : Bool} : SoR K (rIn K neg) (rdIn neg) := fun F H x y dx dy Qd Q e hx hy q k => by
  obtain ⟨i, ns, e1, e2, q⟩ := q
  subst e1
  subst e2
  have ex := hx.int_v
  subst ex
  obtain ⟨a, vs, rfl, sq, hs⟩ := hy.list_v
  have ev := hs.int_of
  subst ev
  refine ⟨a, _, rfl, .inl (SqL.of (e _ _ sq)), rfl, flat_ints ns, ?_⟩
  rw [inV_ints]
  exact k _ _ F H q (Gr.refl e) (.bl _)
/-- == of data: what is asked here is the same data, or two lists of which one is empty -/
def rdEqD : RD := fun x y Q => SeqAt.shaped x = true ∧ SeqAt.shaped y = true ∧ Q (.bool (PyData.eqv x y))
def rdNeD : RD := fun x y Q => SeqAt.shaped x = true ∧ SeqAt.shaped y = true ∧ Q (.bool (!PyData.eqv x y))
end
section
variable {K : PySem.W.Frag}
theorem sor_eqD : SoR K (rEqD K) rdEqD := fun F H x y dx dy Qd Q e hx hy q k =>
  ⟨dx, dy, (hx.mono e).dp, (hy.mono e).dp, q.1, q.2.1, k _ _ F H q.2.2 (Gr.refl e) (.bl _)⟩
theorem sor_neD : SoR K (rNeD K) rdNeD := fun F H x y dx dy Qd Q e hx hy q k =>
  ⟨dx, dy, (hx.mono e).dp, (hy.mono e).dp, q.1, q.2.1, k _ _ F H q.2.2 (Gr.refl e) (.bl _)⟩
/-- xs + ys: a new list -/
def rdCat : PyData → PyData → (List PyData → Prop) → Prop := fun x y Q => ∃ ds es, x = .list ds ∧ y = .list es ∧ ds.length + es.length ≤ sizeLine ∧ Q (ds ++ es)
def rdRep : PyData → PyData → (List PyData → Prop) → Prop := fun x y Q => ∃ ds k, x = .list ds ∧ y = .int k ∧ -(2 ^ 63) ≤ k ∧ k < 2 ^ 63 ∧ ds.length * k.toNat ≤ sizeLine ∧ Q (List.replicate k.toNat ds).flatten
def SoRN (K : PySem.W.Frag) (r : R2) (rd : PyData → PyData → (List PyData → Prop) → Prop) : Prop := ∀ (F H : Hp) (x y : V) (dx dy : PyData) (Qd : List PyData → Prop) (Q : VK), Same F H → DD K F x dx → DD K F y dy → rd dx dy Qd →
  (∀ ds vs p, Qd ds → H p = none → DDs K F vs ds → Q (.ref p) (upd H p (.lst vs))) → r x y H Q
theorem sorn_cat : SoRN K rCat rdCat := fun F H x y dx dy Qd Q e hx hy q k => by
  obtain ⟨ds, es, e1, e2, hl, q⟩ := q
  subst e1
  subst e2
  obtain ⟨a, vs, rfl, sa, ha⟩ := hx.list_v
  obtain ⟨b, ws, rfl, sb, hb⟩ := hy.list_v
  exact ⟨a, b, vs, ws, rfl, rfl, e _ _ sa, e _ _ sb, by rw [ha.len, hb.len]; exact hl, fun p hp => k _ _ p q hp (ha.app hb)⟩
theorem DDs.rep {F : Hp} {vs : List V} {ds : List PyData} (h : DDs K F vs ds) : ∀ k : Nat, DDs K F (List.replicate k vs).flatten (List.replicate k ds).flatten
  | 0 => .nil
  | k + 1 => by
    rw [List.replicate_succ, List.replicate_succ, List.flatten_cons, List.flatten_cons]
    exact h.app (DDs.rep h k)
theorem sorn_rep : SoRN K rRep rdRep := fun F H x y dx dy Qd Q e hx hy q k => by
  obtain ⟨ds, n, e1, e2, h1, h2, h3, q⟩ := q
  subst e1
  subst e2
  obtain ⟨a, vs, rfl, sa, ha⟩ := hx.list_v
  exact ⟨a, n, vs, rfl, hy.int_v, e _ _ sa, h1, h2, by rw [ha.len]; exact h3, fun p hp => k _ _ p q hp (ha.rep _)⟩
def aOpN (rd : PyData → PyData → (List PyData → Prop) → Prop) (a b : AE) : AL := fun A Q => a A fun x A1 => b A1 fun y A2 => rd x y fun d => Q d A2
theorem Ev.laid {M : Addr → Prop} {F0 H0 F H : Hp} {A : Sto} {σ : L2.St} {p : Addr} {o : HO} (r : Rp K M F0 H0 A σ F H) (hp : H p = none) : Ev K M F0 H0 σ A F H A F (upd H p o) := Ev.grow r (Gr.laid r.sub hp)
theorem Ev.hn {M : Addr → Prop} {F0 H0 F H F' H' : Hp} {A A' : Sto} {σ : L2.St} {p : Addr} (e : Ev K M F0 H0 σ A F H A' F' H') (hp : H' p = none) : H p = none := e.dm p hp
theorem so_opN {r : R2} {rd : PyData → PyData → (List PyData → Prop) → Prop} {ta tb : TE} {aa ab : AE} (hr : SoRN K r rd) (ha : SoE K ta aa) (hb : SoE K tb ab) : SoN K (tOp r ta tb) (aOpN rd aa ab) := fun M F0 H0 A σ F H Qd Q rp h k => by
  refine ha M F0 H0 A σ F H _ _ rp h fun d v A1 F1 H1 h1 e1 d1 => ?_
  refine hb M F0 H0 A1 σ F1 H1 _ _ e1.rp h1 fun d' v' A2 F2 H2 h2 e2 d2 => ?_
  refine hr F2 H2 v v' d d' _ _ e2.rp.sub (d1.mono e2.ff) d2 h2 fun ds vs p h3 hp d3 => ?_
  exact k ds p vs A2 F2 _ h3 ((e1.trans e2).trans (Ev.laid e2.rp hp)) (e1.hn (e2.hn hp)) (e2.rp.sub.free hp) upd_same d3
/-- a new list, frozen at once -/
def aOfN (a : AL) : AE := fun A Q => a A fun ds A1 => Q (.list ds) A1
theorem so_ofN {t : TE} {a : AL} (h : SoN K t a) : SoE K t (aOfN a) := fun M F0 H0 A σ F H Qd Q rp q k => by
  refine h M F0 H0 A σ F H _ _ rp q fun ds p vs A' F' H' hq e hp fp hp' dd => ?_
  have sn : Same F' (upd F' p (.lst vs)) := same_new fp
  have h0 : H0 p = none := rp.dom p hp
  have fh : Same (upd F' p (.lst vs)) H' := fun a o z => by
    by_cases ha : a = p
    · subst ha
      rw [upd_same] at z
      cases z
      exact hp'
    · rw [upd_ne ha] at z
      exact e.rp.sub a o z
  refine k (.list ds) (.ref p) A' (upd F' p (.lst vs)) H' hq ⟨?_, e.ff.trans sn, e.kp, e.mm, e.dm, fun a h n m => by rw [upd_ne (fun z => n (by rw [z]; exact hp))]; exact e.nw a h n m⟩ (.lst upd_same (dd.mono sn))
  have r' := e.rp
  refine ⟨r'.keep, r'.dom, r'.fz.trans sn, fh, fun a z n => ?_, r'.len, fun i s es => ?_, r'.inj⟩
  · rw [upd_ne (fun q => n (by rw [q]; exact h0))]
    exact r'.new a z n
  · have so := r'.slot i s es
    cases s with
    | no => trivial
    | fz d =>
      obtain ⟨v, z1, z2⟩ := so
      exact ⟨v, z1, z2.mono sn⟩
    | rw v => exact so
    | sc xs => exact so
    | ex C => exact so
    | ob C fs =>
      obtain ⟨a', dx, vs', e', h0', m', q'⟩ := so
      exact ⟨a', dx, vs', e', h0', m', fun x d l => let ⟨v, e, z⟩ := q' x d l; ⟨v, e, z.mono sn⟩⟩
    | mu o d2 =>
      obtain ⟨p2, v2, z1, z2, z3, z4, z5⟩ := so
      have np : p2 ≠ p := fun z => by
        obtain ⟨i', o', d', y1, y2⟩ := e.mm p2 ⟨i, o, d2, es, z1⟩
        obtain ⟨p3, v3, y3, y4, _⟩ := rp.mu_at y1
        have : p3 = p2 := ref_inj y3 y2
        rw [this, z, hp] at y4
        cases y4
      refine ⟨p2, v2, z1, z2, ?_, z4, z5.mono sn⟩
      rw [upd_ne np]
      exact z3
end

/-! ### the expressions' rules -/
section
variable {X : Cx} {a b c : Expr} {ta tb tc : TE} {aa ab ac : AE} {pos : Pos}
theorem se_ofN {t : TE} {al : AL} (h : SN X a t al) : SE X a t (aOfN al) := ⟨h.p, so_ofN h.s⟩
theorem se_bin {op : Operator} {r : R2} {rd : RD} (ho : OpR X (binaryOp op) r) (hr : SoR X.K r rd) (ha : SE X a ta aa) (hb : SE X b tb ab) : SE X (.BinOp a op b pos) (tOp r ta tb) (aOp rd aa ab) := ⟨pe_op ho ha.p hb.p, so_op hr ha.s hb.s⟩
theorem se_add (ha : SE X a ta aa) (hb : SE X b tb ab) : SE X (.BinOp a .Add b pos) (tOp (rI0 fun i j => .int (i + j)) ta tb) (aOp rdAdd aa ab) := se_bin op_add (sor_I0 fun _ _ _ => .int _) ha hb
theorem se_sub (ha : SE X a ta aa) (hb : SE X b tb ab) : SE X (.BinOp a .Sub b pos) (tOp (rI0 fun i j => .int (i - j)) ta tb) (aOp rdSub aa ab) := se_bin op_sub (sor_I0 fun _ _ _ => .int _) ha hb
theorem se_mul (ha : SE X a ta aa) (hb : SE X b tb ab) : SE X (.BinOp a .Mult b pos) (tOp (rI CMulW fun i j => .int (i * j)) ta tb) (aOp rdMul aa ab) := se_bin op_mulW (sor_I fun _ _ _ => .int _) ha hb
abbrev rdMod : RD := rdI (fun _ j => j ≠ 0) fun i j => .int (i.fmod j)
theorem se_mod (ha : SE X a ta aa) (hb : SE X b tb ab) : SE X (.BinOp a .Mod b pos) (tOp (rI (fun _ j => j ≠ 0) fun i j => .int (i.fmod j)) ta tb) (aOp rdMod aa ab) := se_bin op_modN (sor_I fun _ _ _ => .int _) ha hb
abbrev rdPow : RD := rdI CPow fun i j => .int (i ^ j.toNat)
theorem se_pow (ha : SE X a ta aa) (hb : SE X b tb ab) : SE X (.BinOp a .Pow b pos) (tOp (rI CPow fun i j => .int (i ^ j.toNat)) ta tb) (aOp rdPow aa ab) := se_bin op_pow (sor_I fun _ _ _ => .int _) ha hb
theorem sn_cat (ha : SE X a ta aa) (hb : SE X b tb ab) : SN X (.BinOp a .Add b pos) (tOp rCat ta tb) (aOpN rdCat aa ab) := ⟨pe_op op_cat ha.p hb.p, so_opN sorn_cat ha.s hb.s⟩
theorem sn_rep (ha : SE X a ta aa) (hb : SE X b tb ab) : SN X (.BinOp a .Mult b pos) (tOp rRep ta tb) (aOpN rdRep aa ab) := ⟨pe_op op_rep ha.p hb.p, so_opN sorn_rep ha.s hb.s⟩
theorem se_cat (ha : SE X a ta aa) (hb : SE X b tb ab) : SE X (.BinOp a .Add b pos) (tOp rCat ta tb) (aOfN (aOpN rdCat aa ab)) := se_ofN (sn_cat ha hb)
theorem se_rep (ha : SE X a ta aa) (hb : SE X b tb ab) : SE X (.BinOp a .Mult b pos) (tOp rRep ta tb) (aOfN (aOpN rdRep aa ab)) := se_ofN (sn_rep ha hb)
/-- a comparison as a value -/
theorem se_cmpR {op : CmpOp} {r : R2} {rd : RD} (ho : OpR X (compareOp op) r) (hr : SoR X.K r rd) (ha : SE X a ta aa) (hb : SE X b tb ab) (hm : behindInMarks op b = false) : SE X (.Compare a [op] [b] pos) (tOp r ta tb) (aOp rd aa ab) :=
  ⟨pe_cmpR ho ha.p hb.p hm, so_op hr ha.s hb.s⟩
def aTest (a : AE) : AT := fun A Q => a A fun d A1 => ∃ k, d = .bool k ∧ Q k A1
theorem so_test {K : PySem.W.Frag} {t : TE} {a : AE} (h : SoE K t a) : SoT K (tTest t) (aTest a) := fun M F0 H0 A σ F H Qd Q rp q k => by
  refine h M F0 H0 A σ F H _ _ rp q fun d v A' F' H' hq e dd => ?_
  obtain ⟨b, e2, hq⟩ := hq
  subst e2
  exact ⟨b, dd.bool_v, k b A' F' H' hq e⟩
theorem so_tB {K : PySem.W.Frag} {t : TE} {a : AE} (h : SoE K t a) : SoT K (tB t) (aTest a) := so_test h
theorem st_cmpR {op : CmpOp} {r : R2} {rd : RD} (ho : OpR X (compareOp op) r) (hr : SoR X.K r rd) (ha : SE X a ta aa) (hb : SE X b tb ab) (hm : behindInMarks op b = false) : ST X (.Compare a [op] [b] pos) (tTest (tOp r ta tb)) (aTest (aOp rd aa ab)) :=
  ⟨pt_cmpR ho ha.p hb.p hm, so_test (so_op hr ha.s hb.s)⟩
theorem st_val (h : SE X a ta aa) (he : ∀ whole, isTrue a X.env whole = (do let v ← whole; standAt a.pos; holding [v] (truthy v)) := by intro _; rfl) : ST X a (tB ta) (aTest aa) := ⟨pt_val h.p he, so_tB h.s⟩
theorem st_lt (ha : SE X a ta aa) (hb : SE X b tb ab) : ST X (.Compare a [.Lt] [b] pos) (tTest (tOp (rI0 fun i j => .bl (decide (i < j))) ta tb)) (aTest (aOp rdLt aa ab)) := st_cmpR op_lt (sor_I0 fun _ _ _ => .bl _) ha hb (nomark _)
theorem st_le (ha : SE X a ta aa) (hb : SE X b tb ab) : ST X (.Compare a [.LtE] [b] pos) (tTest (tOp (rI0 fun i j => .bl (decide (i ≤ j))) ta tb)) (aTest (aOp rdLe aa ab)) := st_cmpR op_le (sor_I0 fun _ _ _ => .bl _) ha hb (nomark _)
theorem st_gt (ha : SE X a ta aa) (hb : SE X b tb ab) : ST X (.Compare a [.Gt] [b] pos) (tTest (tOp (rI0 fun i j => .bl (decide (j < i))) ta tb)) (aTest (aOp rdGt aa ab)) := st_cmpR op_gt (sor_I0 fun _ _ _ => .bl _) ha hb (nomark _)
theorem st_ge (ha : SE X a ta aa) (hb : SE X b tb ab) : ST X (.Compare a [.GtE] [b] pos) (tTest (tOp (rI0 fun i j => .bl (decide (j ≤ i))) ta tb)) (aTest (aOp rdGe aa ab)) := st_cmpR op_ge (sor_I0 fun _ _ _ => .bl _) ha hb (nomark _)
theorem st_eq (ha : SE X a ta aa) (hb : SE X b tb ab) : ST X (.Compare a [.Eq] [b] pos) (tTest (tOp rEq ta tb)) (aTest (aOp rdEq aa ab)) := st_cmpR op_eq sor_eq ha hb (nomark _)
theorem st_ne (ha : SE X a ta aa) (hb : SE X b tb ab) : ST X (.Compare a [.NotEq] [b] pos) (tTest (tOp rNe ta tb)) (aTest (aOp rdNe aa ab)) := st_cmpR op_ne sor_ne ha hb (nomark _)
theorem st_isN {j p} (ha : SE X a ta aa) : ST X (.Compare a [.Is] [.Constant .none j p] pos) (tTest (tOp (fun x y H Q => y = .non ∧ Q (.bl (decide (x = .non))) H) ta (tC .non))) (aTest (aOp rdIsN aa (aC .none))) := st_cmpR op_isN sor_isN ha se_non (nomark _)
theorem st_notN {j p} (ha : SE X a ta aa) : ST X (.Compare a [.IsNot] [.Constant .none j p] pos) (tTest (tOp (fun x y H Q => y = .non ∧ Q (.bl (!decide (x = .non))) H) ta (tC .non))) (aTest (aOp rdNotN aa (aC .none))) := st_cmpR op_notN sor_notN ha se_non (nomark _)
theorem st_in {K : PySem.W.Frag} (ha : SE X a ta aa) (hb : SE X b tb ab) (hm : behindInMarks .In b = false := by rfl) (hK : X.K = K := by rfl) : ST X (.Compare a [.In] [b] pos) (tTest (tOp (rIn K false) ta tb)) (aTest (aOp (rdIn false) aa ab)) := by
  subst hK
  exact st_cmpR op_in_seq sor_in ha hb hm
theorem st_notIn {K : PySem.W.Frag} (ha : SE X a ta aa) (hb : SE X b tb ab) (hm : behindInMarks .NotIn b = false := by rfl) (hK : X.K = K := by rfl) : ST X (.Compare a [.NotIn] [b] pos) (tTest (tOp (rIn K true) ta tb)) (aTest (aOp (rdIn true) aa ab)) := by
  subst hK
  exact st_cmpR op_notIn_seq sor_in ha hb hm
theorem se_in {K : PySem.W.Frag} (ha : SE X a ta aa) (hb : SE X b tb ab) (hm : behindInMarks .In b = false := by rfl) (hK : X.K = K := by rfl) : SE X (.Compare a [.In] [b] pos) (tOp (rIn K false) ta tb) (aOp (rdIn false) aa ab) := by
  subst hK
  exact se_cmpR op_in_seq sor_in ha hb hm
theorem se_lt (ha : SE X a ta aa) (hb : SE X b tb ab) : SE X (.Compare a [.Lt] [b] pos) (tOp (rI0 fun i j => .bl (decide (i < j))) ta tb) (aOp rdLt aa ab) := se_cmpR op_lt (sor_I0 fun _ _ _ => .bl _) ha hb (nomark _)
theorem se_le (ha : SE X a ta aa) (hb : SE X b tb ab) : SE X (.Compare a [.LtE] [b] pos) (tOp (rI0 fun i j => .bl (decide (i ≤ j))) ta tb) (aOp rdLe aa ab) := se_cmpR op_le (sor_I0 fun _ _ _ => .bl _) ha hb (nomark _)
theorem se_eq (ha : SE X a ta aa) (hb : SE X b tb ab) : SE X (.Compare a [.Eq] [b] pos) (tOp rEq ta tb) (aOp rdEq aa ab) := se_cmpR op_eq sor_eq ha hb (nomark _)
theorem se_eqD {K : PySem.W.Frag} (hu : X.A.units + 64 < cLine) (ha : SE X a ta aa) (hb : SE X b tb ab) (hK : X.K = K := by rfl) : SE X (.Compare a [.Eq] [b] pos) (tOp (rEqD K) ta tb) (aOp rdEqD aa ab) := by
  subst hK
  exact se_cmpR (op_eqD hu) sor_eqD ha hb (nomark _)
theorem st_eqD {K : PySem.W.Frag} (hu : X.A.units + 64 < cLine) (ha : SE X a ta aa) (hb : SE X b tb ab) (hK : X.K = K := by rfl) : ST X (.Compare a [.Eq] [b] pos) (tTest (tOp (rEqD K) ta tb)) (aTest (aOp rdEqD aa ab)) := by
  subst hK
  exact st_cmpR (op_eqD hu) sor_eqD ha hb (nomark _)
theorem st_neD {K : PySem.W.Frag} (hu : X.A.units + 64 < cLine) (ha : SE X a ta aa) (hb : SE X b tb ab) (hK : X.K = K := by rfl) : ST X (.Compare a [.NotEq] [b] pos) (tTest (tOp (rNeD K) ta tb)) (aTest (aOp rdNeD aa ab)) := by
  subst hK
  exact st_cmpR (op_neD hu) sor_neD ha hb (nomark _)
/-- lo <= x < hi -/
def aChain (rd rd' : RD) (a b c : AE) : AE := fun A Q => a A fun x A1 => b A1 fun y A2 => rd x y fun z => ∃ k, z = .bool k ∧ (if k = true then c A2 fun w A3 => rd' y w fun d => Q d A3 else Q (.bool false) A2)
theorem so_chain {K : PySem.W.Frag} {r r' : R2} {rd rd' : RD} (hr : SoR K r rd) (hr' : SoR K r' rd') (ha : SoE K ta aa) (hb : SoE K tb ab) (hc : SoE K tc ac) : SoE K (tChain r r' ta tb tc) (aChain rd rd' aa ab ac) := fun M F0 H0 A σ F H Qd Q rp h k => by
  refine ha M F0 H0 A σ F H _ _ rp h fun d v A1 F1 H1 h1 e1 d1 => ?_
  refine hb M F0 H0 A1 σ F1 H1 _ _ e1.rp h1 fun d' v' A2 F2 H2 h2 e2 d2 => ?_
  refine hr F2 H2 v v' d d' _ _ e2.rp.sub (d1.mono e2.ff) d2 h2 fun dd vv F3 H3 h3 g3 d3 => ?_
  obtain ⟨kk, e3, h3⟩ := h3
  subst e3
  have e4 : Ev K M F0 H0 σ A F H A2 F3 H3 := (e1.trans e2).trans (Ev.grow e2.rp g3)
  refine ⟨kk, d3.bool_v, ?_⟩
  cases kk with
  | false =>
    rw [if_neg Bool.false_ne_true] at h3 ⊢
    exact k _ _ A2 F3 H3 h3 e4 (.bl false)
  | true =>
    rw [if_pos rfl] at h3 ⊢
    refine hc M F0 H0 A2 σ F3 H3 _ _ e4.rp h3 fun d5 v5 A5 F5 H5 h5 e5 dd5 => ?_
    exact hr' F5 H5 v' v5 d' d5 _ _ e5.rp.sub ((d2.mono g3.ff).mono e5.ff) dd5 h5 fun d6 v6 F6 H6 h6 g6 dd6 => k d6 v6 A5 F6 H6 h6 ((e4.trans e5).trans (Ev.grow e5.rp g6)) dd6
theorem st_between (ha : SE X a ta aa) (hb : SE X b tb ab) (hc : SE X c tc ac) (hm : lastMarks [.LtE, .Lt] [b, c] = false := by with_unfolding_all rfl) :
    ST X (.Compare a [.LtE, .Lt] [b, c] pos) (tTest (tChain (rI0 fun i j => .bl (decide (i ≤ j))) (rI0 fun i j => .bl (decide (i < j))) ta tb tc)) (aTest (aChain rdLe rdLt aa ab ac)) :=
  ⟨pt_chain op_le op_lt ha.p hb.p hc.p hm, so_test (so_chain (sor_I0 fun _ _ _ => .bl _) (sor_I0 fun _ _ _ => .bl _) ha.s hb.s hc.s)⟩
/-- -n -/
def aNeg (a : AE) : AE := fun A Q => a A fun d A1 => ∃ i, d = .int i ∧ Q (.int (-i)) A1
theorem se_neg (ha : SE X a ta aa) : SE X (.UnaryOp .USub a pos) (tUn (rU fun i => .int (-i)) ta) (aNeg aa) := ⟨pe_un un_neg ha.p, fun M F0 H0 A σ F H Qd Q rp h k => by
  refine ha.s M F0 H0 A σ F H _ _ rp h fun d v A1 F1 H1 h1 e1 d1 => ?_
  obtain ⟨i, e, h1⟩ := h1
  subst e
  exact ⟨i, d1.int_v, k _ _ A1 F1 H1 h1 e1 (.int _)⟩⟩
theorem se_ixT {K : PySem.W.Frag} (ha : SE X a ta aa) (hb : SE X b tb ab) (hs : PlainIx b := by intro _ _; rfl) (hK : X.K = K := by rfl) : SE X (.Subscript a b pos) (tOp (rIxT K) ta tb) (aOp rdIxT aa ab) := by
  subst hK
  exact ⟨pe_ix ix_tup ha.p hb.p hs, so_op sor_ixT ha.s hb.s⟩
theorem se_ixL {K : PySem.W.Frag} (ha : SE X a ta aa) (hb : SE X b tb ab) (hs : PlainIx b := by intro _ _; rfl) (hK : X.K = K := by rfl) : SE X (.Subscript a b pos) (tOp (rIxL K) ta tb) (aOp rdIxL aa ab) := by
  subst hK
  exact ⟨pe_ix ix_list ha.p hb.p hs, so_op sor_ixL ha.s hb.s⟩
/-- xs[i] of a list that may change -/
def aIxM (i : Nat) (b : AE) : AE := fun A Q => ∃ o0 ds0, A[i]? = some (.mu o0 ds0) ∧ b A fun y A1 => ∃ o ds k d, A1[i]? = some (.mu o ds) ∧ y = .int k ∧ atI ds k = some d ∧ Q d A1
theorem so_ixM {K : PySem.W.Frag} {i : Nat} (hb : SoE K tb ab) : SoE K (tOp (rIxL K) (tVar i) tb) (aIxM i ab) := fun M F0 H0 A σ F H Qd Q rp h k => by
  obtain ⟨o, ds, e0, h⟩ := h
  obtain ⟨p, vs, e1, _⟩ := rp.mu_at e0
  refine ⟨.ref p, e1, ?_⟩
  refine hb M F0 H0 A σ F H _ _ rp h fun d v A1 F1 H1 h1 ev d1 => ?_
  obtain ⟨o', es, j, dd, g1, g2, g3, g4⟩ := h1
  subst g2
  obtain ⟨p', ws, f1, f2, f3, f4, f5⟩ := ev.rp.mu_at g1
  have ep : p' = p := ref_inj f1 e1
  subst ep
  obtain ⟨u, hu, du⟩ := atI_DDs f5 g3
  exact ⟨p', ws, j, u, rfl, d1.int_v, SqL.of f2, hu, k dd u A1 F1 H1 g4 ev du⟩
theorem se_ixM {K : PySem.W.Frag} (i : Nat) {x : Str} {px : Pos} (hb : SE X b tb ab) (hs : PlainIx b := by intro _ _; rfl) (hN : X.N[i]? = some x := by rfl) (hv : Vis X.env.scope x := by first | exact Or.inl rfl | exact Or.inr (Or.inl rfl) | exact Or.inr (Or.inr rfl)) (hd : (x == ("__debug__" : Str)) = false := by decide)
    (hcd : (x == ("__classdict__" : Str)) = false := by decide) (hK : X.K = K := by rfl) : SE X (.Subscript (.Name x px) b pos) (tOp (rIxL K) (tVar i) tb) (aIxM i ab) := by
  subst hK
  exact ⟨pe_ix ix_list (pe_var hN hv hd hcd) hb.p hs, so_ixM hb.s⟩
/-- k in xs, a list that may change -/
def aInM (neg : Bool) (i : Nat) (a : AE) : AE := fun A Q => a A fun x A1 => ∃ (o : Bool) (ns : List Int) (k : Int), A1[i]? = some (.mu o (ns.map .int)) ∧ x = .int k ∧ Q (.bool (if neg then !decide (k ∈ ns) else decide (k ∈ ns))) A1
theorem so_inM {K : PySem.W.Frag} {neg : Bool} {i : Nat} (ha : SoE K ta aa) : SoE K (tOp (rIn K neg) ta (tVar i)) (aInM neg i aa) := fun M F0 H0 A σ F H Qd Q rp h k => by
  refine ha M F0 H0 A σ F H _ _ rp h fun d v A1 F1 H1 h1 ev d1 => ?_
  obtain ⟨o, ns, j, g1, g2, g4⟩ := h1
  subst g2
  obtain ⟨p, ws, f1, f2, f3, f4, f5⟩ := ev.rp.mu_at g1
  have ew := f5.int_of
  subst ew
  have ex := d1.int_v
  subst ex
  refine ⟨_, f1, p, _, rfl, .inl (SqL.of f2), rfl, flat_ints ns, ?_⟩
  rw [inV_ints]
  exact k _ _ A1 F1 H1 g4 ev (.bl _)
theorem st_notInM {K : PySem.W.Frag} (i : Nat) {x : Str} {px : Pos} (ha : SE X a ta aa) (hN : X.N[i]? = some x := by rfl) (hv : Vis X.env.scope x := by first | exact Or.inl rfl | exact Or.inr (Or.inl rfl) | exact Or.inr (Or.inr rfl)) (hd : (x == ("__debug__" : Str)) = false := by decide)
    (hcd : (x == ("__classdict__" : Str)) = false := by decide) (hm : behindInMarks .NotIn (.Name x px) = false := by rfl) (hK : X.K = K := by rfl) : ST X (.Compare a [.NotIn] [.Name x px] pos) (tTest (tOp (rIn K true) ta (tVar i))) (aTest (aInM true i aa)) := by
  subst hK
  exact ⟨pt_cmpR op_notIn_seq ha.p (pe_var hN hv hd hcd) hm, so_test (so_inM ha.s)⟩
end
end Tk
end
section
set_option Elab.async false
set_option linter.all false
set_option maxRecDepth 100000
set_option maxHeartbeats 4000000
namespace Tk
open PySem PySem.Spec PyProof.Rows L2

/-! ### arguments, displays -/
def aNil : AL := fun A Q => Q [] A
def aCons (a : AE) (b : AL) : AL := fun A Q => a A fun d A1 => b A1 fun ds A2 => Q (d :: ds) A2
def aTup (a : AL) : AE := fun A Q => a A fun ds A1 => ds.length ≤ 1000 ∧ Q (.tuple ds) A1
def aLst (a : AL) : AL := fun A Q => a A fun ds A1 => ds.length ≤ 1000 ∧ Q ds A1
theorem le_line {n : Nat} (h : n ≤ 1000) : n ≤ sizeLine := Nat.le_of_lt (small1000 h)
section
variable {X : Cx} {e : Expr} {es : List Expr} {te : TE} {t : TA} {ae : AE} {al : AL} {pos : Pos}
theorem sa_nil : SA X [] tNil aNil := ⟨pa_nil, fun M F0 H0 A σ F H Qd Q rp h k => k [] [] A F H h (Ev.refl rp) .nil⟩
theorem sa_cons (ha : SE X e te ae) (hr : SA X es t al) (hs : starEach (e :: es) X.env = (false, eval e X.env) :: starEach es X.env := by rfl) : SA X (e :: es) (tCons te t) (aCons ae al) :=
  ⟨pa_cons ha.p hr.p hs, fun M F0 H0 A σ F H Qd Q rp h k => by
    refine ha.s M F0 H0 A σ F H _ _ rp h fun d v A1 F1 H1 h1 e1 d1 => ?_
    refine hr.s M F0 H0 A1 σ F1 H1 _ _ e1.rp h1 fun ds vs A2 F2 H2 h2 e2 d2 => ?_
    exact k (d :: ds) (v :: vs) A2 F2 H2 h2 (e1.trans e2) (.cons (d1.mono e2.ff) d2)⟩
theorem se_tup {j} (h : SA X es t al) : SE X (.Tuple es j pos) (tTup t) (aTup al) := ⟨pe_tup h.p, fun M F0 H0 A σ F H Qd Q rp h' k => by
  refine h.s M F0 H0 A σ F H _ _ rp h' fun ds vs A1 F1 H1 h1 e1 d1 => ?_
  refine ⟨by rw [d1.len]; exact le_line h1.1, fun p hp => ?_⟩
  have g : Gr F1 H1 (upd F1 p (.tup vs)) (upd H1 p (.tup vs)) := Gr.new e1.rp.sub hp
  exact k _ _ A1 _ _ h1.2 (e1.trans (Ev.grow e1.rp g)) (.tup (SqT.of upd_same) (d1.mono g.ff))⟩
theorem sn_lst (h : SA X es t al) : SN X (.List es pos) (tLst t) (aLst al) := ⟨pe_lst h.p, fun M F0 H0 A σ F H Qd Q rp h' k => by
  refine h.s M F0 H0 A σ F H _ _ rp h' fun ds vs A1 F1 H1 h1 e1 d1 => ?_
  refine ⟨by rw [d1.len]; exact le_line h1.1, fun p hp => ?_⟩
  exact k ds p vs A1 F1 _ h1.2 (e1.trans (Ev.laid e1.rp hp)) (e1.hn hp) (e1.rp.sub.free hp) upd_same d1⟩
theorem se_lst (h : SA X es t al) : SE X (.List es pos) (tLst t) (aOfN (aLst al)) := se_ofN (sn_lst h)
end

/-! ### calls -/
abbrev RC := List PyData → (PyData → Prop) → Prop
/-- a promise about data: R tells what it gives -/
def spD (K : PySem.W.Frag) (R : RC) : Sp := fun vs H Q _ => ∃ (F : Hp) (ds : List PyData) (P : PyData → Prop), Same F H ∧ DDs K F vs ds ∧ R ds P ∧ ∀ d v F' H', P d → Gr F H F' H' → DD K F' v d → Q v H'
/-- a def by its name: where it stands, and that it keeps its promise at level k -/
def Fn (P : Program) (w : World) (K : PySem.W.Frag) (mg : Str → Option Value) (base : Heap) (x : Str) (k : Nat) (sp : Sp) : Prop :=
  ∃ f fd ps, FnOk P w K mg base CX0 k f fd ps sp ∧ mg x = some (.ref f) ∧ PySem.W.keepIn K (.ref f) = true ∧ Binds K fd ps []
def aCall (R : RC) (a : AL) : AE := fun A Q => a A fun ds A1 => R ds fun d => Q d A1
section
variable {X : Cx} {e : Expr} {es : List Expr} {te : TE} {t : TA} {ae : AE} {al : AL} {pos p : Pos} {x : Str} {R : RC}
theorem so_call {K : PySem.W.Frag} (ha : SoA K t al) : SoE K (tCall (spD K R) [] E0 t) (aCall R al) := fun M F0 H0 A σ F H Qd Q rp h k => by
  refine ha M F0 H0 A σ F H _ _ rp h fun ds vs A1 F1 H1 h1 e1 d1 => ?_
  refine ⟨F1, ds, _, e1.rp.sub, by rw [List.append_nil]; exact d1, h1, fun d v F' H' hd g dd => ?_⟩
  exact k d v A1 F' H' hd (e1.trans (Ev.grow e1.rp g)) dd
theorem se_call {K : PySem.W.Frag} {j k : Nat} (G : Fn X.prog X.w X.K X.mg X.base x j (spD K R)) (hr : Room k X.A) (ha : SA X (e :: es) t al) (hj : j ≤ k := by decide) (hg : Gl X x := by rfl) (hdb : (x == ("__debug__" : Str)) = false := by decide)
    (he : starEach (e :: es) X.env = (false, eval e X.env) :: starEach es X.env := by rfl) (hpl : (backTo pos (starEach es X.env)).any (·.1) = false := by rfl) (hK : X.K = K := by rfl) : SE X (.Call (.Name x p) (e :: es) [] pos) (tCall (spD K R) [] E0 t) (aCall R al) := by
  subst hK
  exact ⟨by
    obtain ⟨f, fd, ps, F, hm, kp, b⟩ := G
    exact pe_call F (hr.mono hj) hg hm kp b .nil pass0 ha.p hdb he hpl, so_call ha.s⟩
/-- built-ins -/
def SoC (K : PySem.W.Frag) (r : List V → Hp → VK → Prop) (rc : RC) : Prop := ∀ (F H : Hp) (vs : List V) (ds : List PyData) (Qd : PyData → Prop) (Q : VK), Same F H → DDs K F vs ds → rc ds Qd →
  (∀ d v F' H', Qd d → Gr F H F' H' → DD K F' v d → Q v H') → r vs H Q
theorem so_cb {K : PySem.W.Frag} {r : List V → Hp → VK → Prop} {rc : RC} (hr : SoC K r rc) (ha : SoA K t al) : SoE K (tCB r t) (aCall rc al) := fun M F0 H0 A σ F H Qd Q rp h k => by
  refine ha M F0 H0 A σ F H _ _ rp h fun ds vs A1 F1 H1 h1 e1 d1 => ?_
  exact hr F1 H1 vs ds _ _ e1.rp.sub d1 h1 fun d v F' H' hd g dd => k d v A1 F' H' hd (e1.trans (Ev.grow e1.rp g)) dd
theorem se_callB {id : String} {r : List V → Hp → VK → Prop} {rc : RC} (hc : CallR X (.builtin id) r) (hr : SoC X.K r rc) (hm : X.mg x = none) (ha : SA X (e :: es) t al) (hv : bootBuiltins x = some (.builtin id) := by decide +kernel) (hg : Gl X x := by rfl) (hn : x ≠ "__name__" := by decide) (hdb : (x == ("__debug__" : Str)) = false := by decide)
    (he : starEach (e :: es) X.env = (false, eval e X.env) :: starEach es X.env := by rfl) (hpl : (backTo pos (starEach es X.env)).any (·.1) = false := by rfl) : SE X (.Call (.Name x p) (e :: es) [] pos) (tCB r t) (aCall rc al) := ⟨pe_callB hc hg hm hv ha.p hn hdb he hpl, so_cb hr ha.s⟩
theorem se_callTy {T : String} {r : List V → Hp → VK → Prop} {rc : RC} (hc : CallR X (.type T) r) (hr : SoC X.K r rc) (hm : X.mg x = none) (ha : SA X (e :: es) t al) (hv : bootBuiltins x = some (.type T) := by decide +kernel) (hg : Gl X x := by rfl) (hn : x ≠ "__name__" := by decide) (hdb : (x == ("__debug__" : Str)) = false := by decide)
    (he : starEach (e :: es) X.env = (false, eval e X.env) :: starEach es X.env := by rfl) (hpl : (backTo pos (starEach es X.env)).any (·.1) = false := by rfl) : SE X (.Call (.Name x p) (e :: es) [] pos) (tCB r t) (aCall rc al) := ⟨pe_callTy hc hg hm hv ha.p hn hdb he hpl, so_cb hr ha.s⟩
end
/-- a list or a tuple, its length -/
def rcLen : RC := fun ds Q => ∃ es, (ds = [.list es] ∨ ds = [.tuple es]) ∧ Q (.int es.length)
section
variable {K : PySem.W.Frag}
theorem DDs.one {F : Hp} {vs : List V} {d : PyData} (h : DDs K F vs [d]) : ∃ v, vs = [v] ∧ DD K F v d := by
  cases h with
  | cons h hs =>
    cases hs
    exact ⟨_, rfl, h⟩
theorem DDs.two {F : Hp} {vs : List V} {d e : PyData} (h : DDs K F vs [d, e]) : ∃ v u, vs = [v, u] ∧ DD K F v d ∧ DD K F u e := by
  cases h with
  | cons h hs =>
    obtain ⟨u, rfl, h2⟩ := hs.one
    exact ⟨_, _, rfl, h, h2⟩
theorem soc_len : SoC K (fun xs H Q => ∃ p ys, xs = [.ref p] ∧ (SqL K H p ys ∨ SqT K H p ys) ∧ Q (.int ys.length) H) rcLen := fun F H vs ds Qd Q e dd h k => by
  obtain ⟨es, h1, q⟩ := h
  rcases h1 with h1 | h1
  · subst h1
    obtain ⟨v, rfl, d1⟩ := dd.one
    obtain ⟨a, ws, rfl, sq, hs⟩ := d1.list_v
    refine ⟨a, ws, rfl, .inl (SqL.of (e _ _ sq)), ?_⟩
    rw [hs.len]
    exact k _ _ F H q (Gr.refl e) (.int _)
  · subst h1
    obtain ⟨v, rfl, d1⟩ := dd.one
    obtain ⟨a, ws, rfl, sq, hs⟩ := d1.tup_v
    refine ⟨a, ws, rfl, .inr (sameT e sq), ?_⟩
    rw [hs.len]
    exact k _ _ F H q (Gr.refl e) (.int _)
def rcAbs : RC := fun ds Q => ∃ i, ds = [.int i] ∧ Q (.int (if i < 0 then -i else i))
theorem soc_abs : SoC K (fun xs H Q => ∃ i, xs = [.int i] ∧ Q (.int (if i < 0 then -i else i)) H) rcAbs := fun F H vs ds Qd Q e dd h k => by
  obtain ⟨i, rfl, q⟩ := h
  obtain ⟨v, rfl, d1⟩ := dd.one
  exact ⟨i, by rw [d1.int_v], k _ _ F H q (Gr.refl e) (.int _)⟩
def rcI2 (g : Int → Int → Int) : RC := fun ds Q => ∃ i j, ds = [.int i, .int j] ∧ Q (.int (g i j))
theorem soc_I2 {g : Int → Int → Int} : SoC K (fun xs H Q => ∃ i j, xs = [.int i, .int j] ∧ Q (.int (g i j)) H) (rcI2 g) := fun F H vs ds Qd Q e dd h k => by
  obtain ⟨i, j, rfl, q⟩ := h
  obtain ⟨v, u, rfl, d1, d2⟩ := dd.two
  exact ⟨i, j, by rw [d1.int_v, d2.int_v], k _ _ F H q (Gr.refl e) (.int _)⟩
/-- int(flag) -/
def rcIntB : RC := fun ds Q => ∃ b, ds = [.bool b] ∧ Q (.int (if b then 1 else 0))
theorem soc_intB : SoC K (fun xs H Q => (∃ i, xs = [.int i] ∧ Q (.int i) H) ∨ ∃ k, xs = [.bl k] ∧ Q (.int (if k then 1 else 0)) H) rcIntB := fun F H vs ds Qd Q e dd h k => by
  obtain ⟨b, rfl, q⟩ := h
  obtain ⟨v, rfl, d1⟩ := dd.one
  exact .inr ⟨b, by rw [d1.bool_v], k _ _ F H q (Gr.refl e) (.int _)⟩
/-- sum of ints -/
def rcSum : RC := fun ds Q => ∃ ns : List Int, ds = [.list (ns.map .int)] ∧ Q (.int ns.sum)
theorem soc_sum : SoC K (rSum K) rcSum := fun F H vs ds Qd Q e dd h k => by
  obtain ⟨ns, rfl, q⟩ := h
  obtain ⟨v, rfl, d1⟩ := dd.one
  obtain ⟨a, ws, rfl, sq, hs⟩ := d1.list_v
  have ew := hs.int_of
  subst ew
  exact ⟨a, ns, rfl, SqL.of (e _ _ sq), k _ _ F H q (Gr.refl e) (.int _)⟩
def rcAll : RC := fun ds Q => ∃ bs : List Bool, ds = [.list (bs.map .bool)] ∧ Q (.bool (bs.all id))
theorem soc_all : SoC K (rAll K) rcAll := fun F H vs ds Qd Q e dd h k => by
  obtain ⟨bs, rfl, q⟩ := h
  obtain ⟨v, rfl, d1⟩ := dd.one
  obtain ⟨a, ws, rfl, sq, hs⟩ := d1.list_v
  have ew := hs.bool_of
  subst ew
  exact ⟨a, bs, rfl, SqL.of (e _ _ sq), k _ _ F H q (Gr.refl e) (.bl _)⟩
/-- sorted of ints -/
def rcSorted : RC := fun ds Q => ∃ ns : List Int, ds = [.list (ns.map .int)] ∧ ns.length < 64 ∧ ∀ ms : List Int, ms.Perm ns → ms.Pairwise (· ≤ ·) → Q (.list (ms.map .int))
theorem soc_sorted : SoC K (rSorted K) rcSorted := fun F H vs ds Qd Q e dd h k => by
  obtain ⟨ns, rfl, hl, q⟩ := h
  obtain ⟨v, rfl, d1⟩ := dd.one
  obtain ⟨a, ws, rfl, sq, hs⟩ := d1.list_v
  have ew := hs.int_of
  subst ew
  exact ⟨a, ns, rfl, SqL.of (e _ _ sq), hl, fun ms p h1 h2 hp => k _ _ _ _ (q ms h1 h2) (Gr.new e hp) (.lst upd_same (DDs.ints ms))⟩
/-- list(xs): a new list -/
def SoCN (K : PySem.W.Frag) (r : List V → Hp → VK → Prop) (rc : List PyData → (List PyData → Prop) → Prop) : Prop := ∀ (F H : Hp) (vs : List V) (ds : List PyData) (Qd : List PyData → Prop) (Q : VK), Same F H → DDs K F vs ds → rc ds Qd →
  (∀ ds ws p, Qd ds → H p = none → DDs K F ws ds → Q (.ref p) (upd H p (.lst ws))) → r vs H Q
def aCallN (rc : List PyData → (List PyData → Prop) → Prop) (a : AL) : AL := fun A Q => a A fun ds A1 => rc ds fun d => Q d A1
theorem so_cbN {t : TA} {al : AL} {r : List V → Hp → VK → Prop} {rc : List PyData → (List PyData → Prop) → Prop} (hr : SoCN K r rc) (ha : SoA K t al) : SoN K (tCB r t) (aCallN rc al) := fun M F0 H0 A σ F H Qd Q rp h k => by
  refine ha M F0 H0 A σ F H _ _ rp h fun ds vs A1 F1 H1 h1 e1 d1 => ?_
  exact hr F1 H1 vs ds _ _ e1.rp.sub d1 h1 fun es ws p hd hp dd => k es p ws A1 F1 _ hd (e1.trans (Ev.laid e1.rp hp)) (e1.hn hp) (e1.rp.sub.free hp) upd_same dd
def rcList : List PyData → (List PyData → Prop) → Prop := fun ds Q => ∃ es, ds = [.list es] ∧ Q es
theorem soc_list : SoCN K (fun xs H Q => ∃ p ys, xs = [.ref p] ∧ (SqL K H p ys ∨ SqT K H p ys) ∧ ∀ l, H l = none → Q (.ref l) (upd H l (.lst ys))) rcList := fun F H vs ds Qd Q e dd h k => by
  obtain ⟨es, rfl, q⟩ := h
  obtain ⟨v, rfl, d1⟩ := dd.one
  obtain ⟨a, ws, rfl, sq, hs⟩ := d1.list_v
  exact ⟨a, ws, rfl, .inl (SqL.of (e _ _ sq)), fun l hl => k es ws l q hl hs⟩
end
section
variable {X : Cx} {e : Expr} {es : List Expr} {te : TE} {t : TA} {ae : AE} {al : AL} {pos p p2 : Pos}
theorem se_len {K : PySem.W.Frag} (hm : X.mg "len" = none) (ha : SE X e te ae) (hg : Gl X "len" := by rfl) (h1 : starEach [e] X.env = (false, eval e X.env) :: starEach [] X.env := by rfl) (h2 : (backTo pos (starEach [] X.env)).any (·.1) = false := by rfl) (hK : X.K = K := by rfl) :
    SE X (.Call (.Name "len" p) [e] [] pos) (tCB (fun xs H Q => ∃ p ys, xs = [.ref p] ∧ (SqL K H p ys ∨ SqT K H p ys) ∧ Q (.int ys.length) H) (tCons te tNil)) (aCall rcLen (aCons ae aNil)) := by
  subst hK
  exact se_callB call_len_seq soc_len hm (sa_cons ha sa_nil h1) PySem.boot_len hg (by decide) (by decide) h1 h2
theorem sn_listOf {K : PySem.W.Frag} (hm : X.mg "list" = none) (ha : SE X e te ae) (hg : Gl X "list" := by rfl) (h1 : starEach [e] X.env = (false, eval e X.env) :: starEach [] X.env := by rfl) (h2 : (backTo pos (starEach [] X.env)).any (·.1) = false := by rfl) (hK : X.K = K := by rfl) :
    SN X (.Call (.Name "list" p) [e] [] pos) (tCB (fun xs H Q => ∃ p ys, xs = [.ref p] ∧ (SqL K H p ys ∨ SqT K H p ys) ∧ ∀ l, H l = none → Q (.ref l) (upd H l (.lst ys))) (tCons te tNil)) (aCallN rcList (aCons ae aNil)) := by
  subst hK
  exact ⟨pe_callTy call_list_of hg hm PyProof.Rows.boot_list (pa_cons ha.p pa_nil h1) (by decide) (by decide) h1 h2, so_cbN soc_list (sa_cons ha sa_nil h1).s⟩
/-- list(range(n)) -/
def aListRg (a : AE) : AL := fun A Q => a A fun d A1 => ∃ n : Nat, d = .int n ∧ n ≤ 1000 ∧ Q ((List.range n).map fun i => PyData.int (i : Nat)) A1
theorem DDs.rg {K : PySem.W.Frag} {F : Hp} (n : Nat) : DDs K F (rgV 0 (n : Int)) ((List.range n).map fun i => PyData.int (i : Nat)) := by
  have e : rgV 0 (n : Int) = ((List.range n).map fun i => ((i : Nat) : Int)).map V.int := by
    unfold rgV
    rw [List.map_map, show ((n : Int) - 0).toNat = n by omega]
    refine List.map_congr_left fun i _ => ?_
    show V.int (0 + (i : Nat)) = V.int (i : Nat)
    rw [Int.zero_add]
  have e2 : ((List.range n).map fun i => PyData.int (i : Nat)) = ((List.range n).map fun i => ((i : Nat) : Int)).map PyData.int := by
    rw [List.map_map]
    rfl
  rw [e, e2]
  exact DDs.ints _
theorem sn_listRg (hm : X.mg "list" = none) (hm2 : X.mg "range" = none) (hc : X.calm = true) (ha : SE X e te ae) (hg : Gl X "list" := by rfl) (hg2 : Gl X "range" := by rfl) (h1 : starEach [e] X.env = (false, eval e X.env) :: starEach [] X.env := by rfl)
    (h3 : starEach [.Call (.Name "range" p2) [e] [] pos] X.env = (false, eval (.Call (.Name "range" p2) [e] [] pos) X.env) :: starEach [] X.env := by rfl) :
    SN X (.Call (.Name "list" p) [.Call (.Name "range" p2) [e] [] pos] [] pos) (tLstRg (tRg1 te)) (aListRg ae) :=
  ⟨pe_listRg hc hg hm (prg_1 hg2 hm2 ha.p h1) h3, fun M F0 H0 A σ F H Qd Q rp h k => by
    refine ha.s M F0 H0 A σ F H _ _ rp h fun d v A1 F1 H1 h1 e1 d1 => ?_
    obtain ⟨n, rfl, hn, q⟩ := h1
    refine ⟨(n : Int), d1.int_v, RgOk.of_le (by omega) (by omega) (by omega) (by omega), fun p hp => ?_⟩
    exact k _ p _ A1 F1 _ q (e1.trans (Ev.laid e1.rp hp)) (e1.hn hp) (e1.rp.sub.free hp) upd_same (DDs.rg n)⟩
/-- isinstance(x, T), T a built-in type -/
def kindD : PyData → String
  | .none => "NoneType"
  | .bool _ => "bool"
  | .int _ => "int"
  | .str _ => "str"
  | .list _ => "list"
  | .tuple _ => "tuple"
  | .dict _ => "dict"
def aIsi (T : String) (a : AE) : AE := fun A Q => a A fun d A1 => ∃ b, kitB (kindD d) T = some b ∧ Q (.bool b) A1
theorem tyx {K : PySem.W.Frag} {F H : Hp} {v : V} {d : PyData} (e : Same F H) (h : DD K F v d) : TyX K H v (.type (kindD d)) := by
  cases h with
  | non => exact .base .non
  | bl b => exact .base (.bl b)
  | int i => exact .base (.int i)
  | str x => exact .base (.str x)
  | lst h hs => exact .base (.lst (e _ _ h))
  | tup h hs =>
    rcases h with (h | ⟨o, h⟩) | ⟨o, its, n, h, h2, _⟩
    · exact .base (.tup (e _ _ h))
    · exact .fTuple (e _ _ h)
    · exact .kTuple h h2
theorem se_isi {K : PySem.W.Frag} {T : String} {p p2 pos : Pos} {e : Expr} {te : TE} {ae : AE} (hm : X.mg "isinstance" = none) (hm2 : X.mg (Str.ofString T) = none) (ha : SE X e te ae) (hv : bootBuiltins (Str.ofString T) = some (.type T) := by decide +kernel) (hg : Gl X "isinstance" := by rfl) (hg2 : Gl X (Str.ofString T) := by rfl)
    (hn : Str.ofString T ≠ "__name__" := by decide) (hd : (Str.ofString T == ("__debug__" : Str)) = false := by decide)
    (h1 : starEach [e, .Name (Str.ofString T) p2] X.env = (false, eval e X.env) :: starEach [.Name (Str.ofString T) p2] X.env := by rfl) (h3 : starEach [.Name (Str.ofString T) p2] X.env = (false, eval (.Name (Str.ofString T) p2) X.env) :: starEach [] X.env := by rfl) (h2 : (backTo pos (starEach [.Name (Str.ofString T) p2] X.env)).any (·.1) = false := by rfl) (hK : X.K = K := by rfl) :
    SE X (.Call (.Name "isinstance" p) [e, .Name (Str.ofString T) p2] [] pos) (tCB (rIsi K) (tCons te (tCons (tC (.ty T)) tNil))) (aIsi T ae) := by
  subst hK
  exact ⟨pe_callB call_isi hg hm (by decide +kernel) (pa_cons ha.p (pa_cons (pe_bltn (v := .ty T) hg2 hm2 hv rfl hn hd) pa_nil h3) h1) (by decide) (by decide) h1 h2, fun M F0 H0 A σ F H Qd Q rp h k => by
      refine ha.s M F0 H0 A σ F H _ _ rp h fun d v A1 F1 H1 h1 e1 d1 => ?_
      obtain ⟨b, hb, q⟩ := h1
      exact ⟨v, .ty T, .type (kindD d), .type T, b, rfl, .ty T, tyx e1.rp.sub d1, kit_ty hb, k _ _ A1 F1 H1 q e1 (.bl b)⟩⟩
variable {x : Str}
theorem se_sum {K : PySem.W.Frag} (hc : X.calm = true) (hm : X.mg "sum" = none) (ha : SE X e te ae) (hg : Gl X "sum" := by rfl) (h1 : starEach [e] X.env = (false, eval e X.env) :: starEach [] X.env := by rfl) (h2 : (backTo pos (starEach [] X.env)).any (·.1) = false := by rfl) (hK : X.K = K := by rfl) :
    SE X (.Call (.Name "sum" p) [e] [] pos) (tCB (rSum K) (tCons te tNil)) (aCall rcSum (aCons ae aNil)) := by
  subst hK
  exact se_callB (cr_sum hc) soc_sum hm (sa_cons ha sa_nil h1) (by decide +kernel) hg (by decide) (by decide) h1 h2
theorem se_all {K : PySem.W.Frag} (hc : X.calm = true) (hm : X.mg "all" = none) (ha : SE X e te ae) (hg : Gl X "all" := by rfl) (h1 : starEach [e] X.env = (false, eval e X.env) :: starEach [] X.env := by rfl) (h2 : (backTo pos (starEach [] X.env)).any (·.1) = false := by rfl) (hK : X.K = K := by rfl) :
    SE X (.Call (.Name "all" p) [e] [] pos) (tCB (rAll K) (tCons te tNil)) (aCall rcAll (aCons ae aNil)) := by
  subst hK
  exact se_callB (cr_all hc) soc_all hm (sa_cons ha sa_nil h1) (by decide +kernel) hg (by decide) (by decide) h1 h2
theorem se_sorted {K : PySem.W.Frag} (hm : X.mg "sorted" = none) (ha : SE X e te ae) (hg : Gl X "sorted" := by rfl) (h1 : starEach [e] X.env = (false, eval e X.env) :: starEach [] X.env := by rfl) (h2 : (backTo pos (starEach [] X.env)).any (·.1) = false := by rfl) (hK : X.K = K := by rfl) :
    SE X (.Call (.Name "sorted" p) [e] [] pos) (tCB (rSorted K) (tCons te tNil)) (aCall rcSorted (aCons ae aNil)) := by
  subst hK
  exact se_callB cr_sorted soc_sorted hm (sa_cons ha sa_nil h1) (by decide +kernel) hg (by decide) (by decide) h1 h2
end
end Tk
end
section
set_option Elab.async false
set_option linter.all false
set_option maxRecDepth 100000
set_option maxHeartbeats 4000000
namespace Tk
open PySem PySem.Spec PyProof.Rows L2

/-! ### tests joined -/
def aAnd (a b : AT) : AT := fun A Q => a A fun c A1 => if c = true then b A1 Q else Q false A1
def aOr (a b : AT) : AT := fun A Q => a A fun c A1 => if c = true then Q true A1 else b A1 Q
def aNot (a : AT) : AT := fun A Q => a A fun c A1 => Q (!c) A1
def aAndV (a b : AE) : AE := fun A Q => a A fun d A1 => ∃ c, d = .bool c ∧ if c = true then b A1 Q else Q (.bool false) A1
section
variable {X : Cx} {a b : Expr} {rest : List Expr} {ta tb : TT} {aa ab : AT} {pos : Pos}
theorem so_and {K : PySem.W.Frag} (ha : SoT K ta aa) (hb : SoT K tb ab) : SoT K (tAnd ta tb) (aAnd aa ab) := fun M F0 H0 A σ F H Qd Q rp h k => by
  refine ha M F0 H0 A σ F H _ _ rp h fun c A1 F1 H1 h1 e1 => ?_
  cases c with
  | true =>
    rw [if_pos rfl] at h1 ⊢
    exact hb M F0 H0 A1 σ F1 H1 _ _ e1.rp h1 fun c2 A2 F2 H2 h2 e2 => k c2 A2 F2 H2 h2 (e1.trans e2)
  | false =>
    rw [if_neg Bool.false_ne_true] at h1 ⊢
    exact k false A1 F1 H1 h1 e1
theorem so_or {K : PySem.W.Frag} (ha : SoT K ta aa) (hb : SoT K tb ab) : SoT K (tOr ta tb) (aOr aa ab) := fun M F0 H0 A σ F H Qd Q rp h k => by
  refine ha M F0 H0 A σ F H _ _ rp h fun c A1 F1 H1 h1 e1 => ?_
  cases c with
  | true =>
    rw [if_pos rfl] at h1 ⊢
    exact k true A1 F1 H1 h1 e1
  | false =>
    rw [if_neg Bool.false_ne_true] at h1 ⊢
    exact hb M F0 H0 A1 σ F1 H1 _ _ e1.rp h1 fun c2 A2 F2 H2 h2 e2 => k c2 A2 F2 H2 h2 (e1.trans e2)
theorem sw_and1 (ha : ST X a ta aa) : SW X (.BoolOp .And [a] pos) ta aa := ⟨pw_and1 ha.p, ha.s⟩
theorem sw_or1 (ha : ST X a ta aa) : SW X (.BoolOp .Or [a] pos) ta aa := ⟨pw_or1 ha.p, ha.s⟩
theorem sw_and (ha : ST X a ta aa) (hb : SW X (.BoolOp .And (b :: rest) pos) tb ab) : SW X (.BoolOp .And (a :: b :: rest) pos) (tAnd ta tb) (aAnd aa ab) := ⟨pw_and ha.p hb.p, so_and ha.s hb.s⟩
theorem sw_or (ha : ST X a ta aa) (hb : SW X (.BoolOp .Or (b :: rest) pos) tb ab) : SW X (.BoolOp .Or (a :: b :: rest) pos) (tOr ta tb) (aOr aa ab) := ⟨pw_or ha.p hb.p, so_or ha.s hb.s⟩
theorem SW.t (h : SW X a ta aa) : ST X a ta aa := ⟨h.p.pt, h.s⟩
theorem st_not (ha : ST X a ta aa) : ST X (.UnaryOp .Not a pos) (tNot ta) (aNot aa) := ⟨pt_not ha.p, fun M F0 H0 A σ F H Qd Q rp h k => ha.s M F0 H0 A σ F H _ _ rp h fun c A1 F1 H1 h1 e1 => k (!c) A1 F1 H1 h1 e1⟩
end
section
variable {X : Cx} {a b : Expr} {rest : List Expr} {ta tb : TE} {aa ab : AE} {pos : Pos}
theorem se_one {op} (ha : SE X a ta aa) : SE X (.BoolOp op [a] pos) ta aa := ⟨pe_one ha.p, ha.s⟩
theorem se_and (ha : SE X a ta aa) (hb : SE X (.BoolOp .And (b :: rest) pos) tb ab) : SE X (.BoolOp .And (a :: b :: rest) pos) (tAndV ta tb) (aAndV aa ab) := ⟨pe_and ha.p hb.p, fun M F0 H0 A σ F H Qd Q rp h k => by
  refine ha.s M F0 H0 A σ F H _ _ rp h fun d v A1 F1 H1 h1 e1 d1 => ?_
  obtain ⟨c, e, h1⟩ := h1
  subst e
  refine ⟨c, d1.bool_v, ?_⟩
  cases c with
  | true =>
    rw [if_pos rfl] at h1 ⊢
    exact hb.s M F0 H0 A1 σ F1 H1 _ _ e1.rp h1 fun c2 v2 A2 F2 H2 h2 e2 d2 => k c2 v2 A2 F2 H2 h2 (e1.trans e2) d2
  | false =>
    rw [if_neg Bool.false_ne_true] at h1 ⊢
    exact k _ _ A1 F1 H1 h1 e1 (.bl false)⟩
def aNotV (a : AE) : AE := fun A Q => a A fun d A1 => ∃ c, d = .bool c ∧ Q (.bool (!c)) A1
theorem se_not (ha : SE X a ta aa) : SE X (.UnaryOp .Not a pos) (tNotV ta) (aNotV aa) := ⟨pe_not ha.p, fun M F0 H0 A σ F H Qd Q rp h k => by
  refine ha.s M F0 H0 A σ F H _ _ rp h fun d v A1 F1 H1 h1 e1 d1 => ?_
  obtain ⟨c, e, h1⟩ := h1
  subst e
  exact ⟨c, d1.bool_v, k _ _ A1 F1 H1 h1 e1 (.bl _)⟩⟩
end

/-! ### statements -/
def aNext : AS := fun C A => C.nx A
def aSeq (a b : AS) : AS := fun C A => a { C with nx := b C } A
def aSet (i : Nat) (a : AE) : AS := fun C A => a A fun d A1 => C.nx (A1.set i (.fz d))
def aSetN (i : Nat) (a : AL) : AS := fun C A => a A fun ds A1 => C.nx (A1.set i (.mu true ds))
def aRet (a : AE) : AS := fun C A => a A fun d A1 => C.rt d A1
def aDrop (a : AE) : AS := fun C A => a A fun _ A1 => C.nx A1
def aIf (t : AT) (a b : AS) : AS := fun C A => t A fun c A1 => if c = true then a C A1 else b C A1
def aAsg (a : AE) (g : AG) : AS := fun C A => a A fun d A1 => g d A1 C.nx
def aNever : AS := fun _ _ => False
section
variable {X : Cx} {st : Stmt} {rest : List Stmt} {t u : TS} {a b : AS} {e : Expr} {te : TE} {ae : AE} {al : AL} {pos : Pos}
theorem EndsOk.from {K : PySem.W.Frag} {M : Addr → Prop} {F0 H0 F F' : Hp} {C : AEnds} {E : Ends} (k : EndsOk K M F0 H0 F C E) (s : Same F F') : EndsOk K M F0 H0 F' C E :=
  ⟨fun A σ F2 H2 h r q => k.nx A σ F2 H2 h r (s.trans q), fun d v A σ F2 H2 h r q => k.rt d v A σ F2 H2 h r (s.trans q), fun A σ F2 H2 h r q => k.bk A σ F2 H2 h r (s.trans q), fun A σ F2 H2 h r q => k.ct A σ F2 H2 h r (s.trans q)⟩
theorem sss_nil : SSs X [] tNext aNext := ⟨pss_nil, fun M F0 H0 A σ F H C E rp h k => k.nx A σ F H h rp (Same.refl F)⟩
theorem sss_one (h1 : SS X st t a) : SSs X [st] t a := ⟨pss_one h1.p, h1.s⟩
theorem sss_cons (h1 : SS X st t a) (h2 : SSs X rest u b) : SSs X (st :: rest) (tSeq t u) (aSeq a b) := ⟨pss_cons h1.p h2.p, fun M F0 H0 A σ F H C E rp h k =>
  h1.s M F0 H0 A σ F H { C with nx := b C } { E with nx := u E } rp h ⟨fun A' σ' F' H' h' r' s' => h2.s M F0 H0 A' σ' F' H' C E r' h' (k.from s'), k.rt, k.bk, k.ct⟩⟩
theorem ss_pass {p : Pos} : SS X (.Pass p) tNext aNext := ⟨ps_pass, sss_nil.s⟩
theorem ss_set (i : Nat) {x : Str} {p : Pos} (hN : X.N.Nodup) (he : SE X e te ae) (hi : X.N[i]? = some x := by rfl) (hx : Loc X.env.scope x := by first | exact Or.inl rfl | exact Or.inr rfl) (hs : swapsWith e (some (.Name x p)) pos.line X.env = pure false := by rfl)
    (hf : X.fn x = true ∨ X.env.scope.names.lookup x = some .local := by first | exact .inl rfl | exact .inr rfl) : SS X (.Assign [.Name x p] e pos) (tAsg te (gName i)) (aSet i ae) :=
  ⟨ps_set hN hi hx he.p hs hf, fun M F0 H0 A σ F H C E rp h k => he.s M F0 H0 A σ F H _ _ rp h fun d v A1 F1 H1 h1 e1 d1 => k.nx _ _ F1 H1 h1 (e1.rp.set d1) e1.ff⟩
theorem so_setN {K : PySem.W.Frag} {i : Nat} (he : SoN K te al) : SoS K (tAsg te (gName i)) (aSetN i al) := fun M F0 H0 A σ F H C E rp h k => by
  refine he M F0 H0 A σ F H _ _ rp h fun ds p vs A1 F1 H1 h1 e1 hp fp hp1 d1 => ?_
  refine k.nx _ _ F1 H1 h1 (e1.rp.setN (rp.dom p hp) fp hp1 d1 fun m => ?_) e1.ff
  obtain ⟨j, o, es, z1, z2⟩ := e1.mm p m
  obtain ⟨p', ws, y1, y2, _⟩ := rp.mu_at z1
  have : p' = p := ref_inj y1 z2
  rw [this, hp] at y2
  cases y2
/-- x = a new list, to be changed -/
theorem ss_setN (i : Nat) {x : Str} {p : Pos} (hN : X.N.Nodup) (he : SN X e te al) (hi : X.N[i]? = some x := by rfl) (hx : Loc X.env.scope x := by first | exact Or.inl rfl | exact Or.inr rfl) (hs : swapsWith e (some (.Name x p)) pos.line X.env = pure false := by rfl)
    (hf : X.fn x = true ∨ X.env.scope.names.lookup x = some .local := by first | exact .inl rfl | exact .inr rfl) : SS X (.Assign [.Name x p] e pos) (tAsg te (gName i)) (aSetN i al) := ⟨ps_set hN hi hx he.p hs hf, so_setN he.s⟩
theorem ss_expr (he : SE X e te ae) (hs : swapsWith e none pos.line X.env = pure false := by rfl) : SS X (.Expr e pos) (tDrop te) (aDrop ae) :=
  ⟨ps_expr he.p hs, fun M F0 H0 A σ F H C E rp h k => he.s M F0 H0 A σ F H _ _ rp h fun d v A1 F1 H1 h1 e1 d1 => k.nx _ _ F1 H1 h1 e1.rp e1.ff⟩
theorem ss_ret (he : SE X e te ae) : SS X (.Return (some e) pos) (tRet te) (aRet ae) :=
  ⟨ps_ret he.p, fun M F0 H0 A σ F H C E rp h k => he.s M F0 H0 A σ F H _ _ rp h fun d v A1 F1 H1 h1 e1 d1 => k.rt d v _ _ F1 H1 h1 e1.rp e1.ff d1⟩
theorem ss_if {c : Expr} {p q : List Stmt} {tc : TT} {ac : AT} (hc : ST X c tc ac) (ha : SSs X p t a) (hb : SSs X q u b) : SS X (.If c p q pos) (tIfS tc t u) (aIf ac a b) :=
  ⟨ps_if hc.p ha.p hb.p, fun M F0 H0 A σ F H C E rp h k => by
    refine hc.s M F0 H0 A σ F H _ _ rp h fun d A1 F1 H1 h1 e1 => ?_
    cases d with
    | true =>
      rw [if_pos rfl] at h1 ⊢
      exact ha.s M F0 H0 A1 σ F1 H1 C E e1.rp h1 (k.from e1.ff)
    | false =>
      rw [if_neg Bool.false_ne_true] at h1 ⊢
      exact hb.s M F0 H0 A1 σ F1 H1 C E e1.rp h1 (k.from e1.ff)⟩
theorem ss_never : SS X st tNever aNever := ⟨ps_never, fun M F0 H0 A σ F H C E rp h k => h.elim⟩
theorem sss_never {sts : List Stmt} : SSs X sts tNever aNever := ⟨pss_never, fun M F0 H0 A σ F H C E rp h k => h.elim⟩
/-! ### targets -/
def gaName (i : Nat) : AG := fun d A Q => Q (A.set i (.fz d))
def gaNil : AGs := fun ds A Q => ds = [] ∧ Q A
def gaCons (g : AG) (gs : AGs) : AGs := fun ds A Q => ∃ d r, ds = d :: r ∧ g d A fun A1 => gs r A1 Q
def gaTup (gs : AGs) : AG := fun d A Q => ∃ ds, d = .tuple ds ∧ gs ds A Q
theorem sg_name (i : Nat) {x : Str} {p : Pos} (hN : X.N.Nodup) (hi : X.N[i]? = some x := by rfl) (hx : Loc X.env.scope x := by first | exact Or.inl rfl | exact Or.inr rfl) (hf : X.fn x = true ∨ X.env.scope.names.lookup x = some .local := by first | exact .inl rfl | exact .inr rfl) :
    SG X (.Name x p) (gName i) (gaName i) [i] := ⟨pg_name hN hi hx hf, fun M F0 H0 A σ F H x d Qd Q rp dd h k => k (A.set i (.fz d)) [x] h rfl (rp.set dd) (fun j hj => List.getElem?_set_ne (fun z => hj (by rw [z]; exact List.mem_singleton.mpr rfl))) fun a m => by
  obtain ⟨j, o, es, z1, z2⟩ := m
  rcases getset z1 with ⟨_, z⟩ | ⟨ne, z1⟩
  · cases z
  · refine ⟨j, o, es, z1, ?_⟩
    have z3 : (σ.set i (some x))[j]? = some (some (V.ref a)) := z2
    rw [List.getElem?_set_ne ne] at z3
    exact z3⟩
theorem sgs_nil : SGs X [] gNil gaNil [] := ⟨pgs_nil, fun M F0 H0 A σ F H xs ds Qd Q rp dd h k => by
  obtain ⟨e, h⟩ := h
  subst e
  cases dd
  exact ⟨rfl, k A [] h rfl rp (fun _ _ => rfl) fun _ m => m⟩⟩
theorem setsL_app (σ : L2.St) : ∀ (is js : List Nat) (us ws : List V), us.length = is.length → setsL (setsL σ is us) js ws = setsL σ (is ++ js) (us ++ ws)
  | [], js, [], ws, _ => rfl
  | [], js, _ :: _, ws, h => by cases h
  | _ :: _, js, [], ws, h => by cases h
  | i :: is, js, u :: us, ws, h => setsL_app (σ.set i (some u)) is js us ws (Nat.succ.inj h)
theorem sgs_cons {e : Expr} {es : List Expr} {tg : TG} {tgs : TGs} {ag : AG} {ags : AGs} {is js : List Nat} (h1 : SG X e tg ag is) (h2 : SGs X es tgs ags js) (hs : (assignEach (e :: es) X.env).map (·.2) = assign e X.env :: (assignEach es X.env).map (·.2) := by rfl) :
    SGs X (e :: es) (gCons tg tgs) (gaCons ag ags) (is ++ js) := ⟨pgs_cons h1.p h2.p hs, fun M F0 H0 A σ F H xs ds Qd Q rp dd h k => by
  obtain ⟨d, r, ed, h⟩ := h
  subst ed
  cases dd with
  | cons d1 d2 =>
    refine ⟨_, _, rfl, ?_⟩
    refine h1.s M F0 H0 A σ F H _ d _ _ rp d1 h fun A1 us h3 l1 r1 f1 m1 => ?_
    refine h2.s M F0 H0 A1 _ F H _ r _ _ r1 d2 h3 fun A2 ws h4 l2 r2 f2 m2 => ?_
    have m3 : ∀ a, MutA A2 (setsL (setsL σ is us) js ws) a → MutA A σ a := fun a z => m1 a (m2 a z)
    rw [setsL_app σ is js us ws l1] at r2 m3 ⊢
    exact k A2 (us ++ ws) h4 (by rw [List.length_append, List.length_append, l1, l2]) r2 (fun i hi => (f2 i fun z => hi (List.mem_append_right _ z)).trans (f1 i fun z => hi (List.mem_append_left _ z))) m3⟩
theorem sg_tup {K : PySem.W.Frag} {es : List Expr} {j : Nat} {tgs : TGs} {ags : AGs} {is : List Nat} {n : Nat} (hc : X.calm = true) (h : SGs X es tgs ags is) (hl : ∀ (ds : List PyData) (A : Sto) (Q : Sto → Prop), ags ds A Q → ds.length = n) (hn : (assignEach es X.env).length = n := by rfl) (hst : (assignEach es X.env).findIdx? (·.1) = none := by rfl) (hK : X.K = K := by rfl) :
    SG X (.Tuple es j pos) (gTup K n tgs) (gaTup ags) is := by
  subst hK
  exact ⟨pg_tup hc h.p hn hst, fun M F0 H0 A σ F H x d Qd Q rp dd h' k => by
  obtain ⟨ds, ed, h'⟩ := h'
  subst ed
  obtain ⟨a, vs, rfl, sq, hs⟩ := dd.tup_v
  exact ⟨a, vs, rfl, sameT rp.sub sq, by rw [hs.len]; exact hl ds A Qd h', h.s M F0 H0 A σ F H vs ds _ _ rp hs h' k⟩⟩
theorem ga_len2 {g1 g2 : AG} (ds : List PyData) (A : Sto) (Q : Sto → Prop) (h : gaCons g1 (gaCons g2 gaNil) ds A Q) (hm : ∀ d A Q, g1 d A Q → ∃ A', Q A') (hm2 : ∀ d A Q, g2 d A Q → ∃ A', Q A') : ds.length = 2 := by
  obtain ⟨d, r, e, h⟩ := h
  obtain ⟨A1, d2, r2, e2, h⟩ := hm _ _ _ h
  obtain ⟨A2, e3, h⟩ := hm2 _ _ _ h
  subst e3
  subst e2
  subst e
  rfl
theorem ga_nm (i : Nat) (d : PyData) (A : Sto) (Q : Sto → Prop) (h : gaName i d A Q) : ∃ A', Q A' := ⟨_, h⟩
/-- x, y = a pair -/
theorem sg_two {K : PySem.W.Frag} (i j : Nat) {x y : Str} {px py : Pos} {n : Nat} (hc : X.calm = true) (hN : X.N.Nodup) (h1 : SG X (.Name x px) (gName i) (gaName i) [i]) (h2 : SG X (.Name y py) (gName j) (gaName j) [j]) (hs : (assignEach [.Name x px, .Name y py] X.env).map (·.2) = assign (.Name x px) X.env :: (assignEach [.Name y py] X.env).map (·.2) := by rfl)
    (hs2 : (assignEach [.Name y py] X.env).map (·.2) = assign (.Name y py) X.env :: (assignEach [] X.env).map (·.2) := by rfl) (hn : (assignEach [.Name x px, .Name y py] X.env).length = 2 := by rfl) (hst : (assignEach [.Name x px, .Name y py] X.env).findIdx? (·.1) = none := by rfl) (hK : X.K = K := by rfl) :
    SG X (.Tuple [.Name x px, .Name y py] n pos) (gTup K 2 (gCons (gName i) (gCons (gName j) gNil))) (gaTup (gaCons (gaName i) (gaCons (gaName j) gaNil))) [i, j] :=
  sg_tup hc (sgs_cons h1 (sgs_cons h2 sgs_nil hs2) hs) (fun ds A Q h => ga_len2 ds A Q h (ga_nm i) (ga_nm j)) hn hst hK
theorem ss_asg {tg : Expr} {g : TG} {ag : AG} {is : List Nat} (he : SE X e te ae) (hg : SG X tg g ag is) (hs : swapsWithSole [tg] e pos.line X.env = pure false := by rfl) (hw : swappedStores [tg] e X.env = pure none := by rfl) (h1 : (assignEach [tg] X.env).map (·.2) = [assign tg X.env] := by rfl) :
    SS X (.Assign [tg] e pos) (tAsg te g) (aAsg ae ag) := ⟨ps_asg he.p hg.p hs hw h1, fun M F0 H0 A σ F H C E rp h k =>
  he.s M F0 H0 A σ F H _ _ rp h fun d v A1 F1 H1 h2 e1 d1 => hg.s M F0 H0 A1 σ F1 H1 v d _ _ e1.rp d1 h2 fun A2 us h3 l2 r2 _ _ => k.nx _ _ F1 H1 h3 r2 e1.ff⟩
end
end Tk
end
section
set_option Elab.async false
set_option linter.all false
set_option maxRecDepth 100000
set_option maxHeartbeats 4000000
namespace Tk
open PySem PySem.Spec PyProof.Rows L2

/-! ### what is walked -/
section
variable {K : PySem.W.Frag}
theorem itd_list {F : Hp} {a : Addr} {vs : List V} {ds : List PyData} (h : F a = some (.lst vs)) (hs : DDs K F vs ds) : ItD K (Itl K a) F ds where
  go := fun i H e hi => by
    have hl := hs.len
    exact ⟨vs, vs[i]'(by omega), SqL.of (e _ _ h), by simp [show i < vs.length by omega]⟩
  yld := fun i F1 H x H' d e e1 hd y => by
    obtain ⟨rfl, y⟩ := y
    obtain ⟨v, hv, dv⟩ := hs.get hd
    have q := y vs (SqL.of (e1 _ _ (e _ _ h)))
    rw [hv] at q
    cases q
    exact ⟨F1, Gr.refl e1, dv.mono e⟩
  stop := fun i H e hi => ⟨vs, SqL.of (e _ _ h), by rw [hs.len]; exact hi⟩
def rgD (lo : Int) (n : Nat) : List PyData := (List.range n).map fun i => PyData.int (lo + (i : Nat))
theorem rgD_len (lo : Int) (n : Nat) : (rgD lo n).length = n := by
  unfold rgD
  rw [List.length_map, List.length_range]
theorem rgD_get {lo : Int} {n i : Nat} {d : PyData} (h : (rgD lo n)[i]? = some d) : i < n ∧ d = .int (lo + (i : Nat)) := by
  have hi : i < n := by
    have := lt_of_get h
    rw [rgD_len] at this
    exact this
  unfold rgD at h
  rw [List.getElem?_map, List.getElem?_range hi] at h
  exact ⟨hi, (Option.some.inj h).symm⟩
theorem itd_range (lo : Int) (n : Nat) {F : Hp} : ItD K (Itr lo n) F (rgD lo n) where
  go := fun i H e hi => by
    rw [rgD_len] at hi
    exact hi
  yld := fun i F1 H x H' d e e1 hd y => by
    obtain ⟨rfl, rfl⟩ := y
    obtain ⟨_, rfl⟩ := rgD_get hd
    exact ⟨F1, Gr.refl e1, .int _⟩
  stop := fun i H e hi => by
    rw [rgD_len] at hi
    exact hi
def pr (a b : PyData) : PyData := .tuple [a, b]
def zipD (ds es : List PyData) : List PyData := List.zipWith pr ds es
theorem zipD_len (ds es : List PyData) : (zipD ds es).length = min ds.length es.length := List.length_zipWith
theorem zipD_get {ds es : List PyData} {i : Nat} {d : PyData} (h : (zipD ds es)[i]? = some d) : ∃ x y, ds[i]? = some x ∧ es[i]? = some y ∧ d = pr x y := by
  unfold zipD at h
  rw [List.getElem?_zipWith] at h
  cases hx : ds[i]? with
  | none => rw [hx] at h; cases h
  | some x =>
    cases hy : es[i]? with
    | none => rw [hx, hy] at h; cases h
    | some y =>
      rw [hx, hy] at h
      exact ⟨x, y, rfl, rfl, (Option.some.inj h).symm⟩
theorem itd_zip {F : Hp} {a b : Addr} {vs ws : List V} {ds es : List PyData} (h : F a = some (.lst vs)) (hs : DDs K F vs ds) (g : F b = some (.lst ws)) (gs : DDs K F ws es) : ItD K (Itz K a b) F (zipD ds es) where
  go := fun i H e hi => by
    have hl := hs.len
    have gl := gs.len
    rw [zipD_len] at hi
    exact ⟨vs, ws, vs[i]'(by omega), ws[i]'(by omega), SqL.of (e _ _ h), SqL.of (e _ _ g), by simp [show i < vs.length by omega], by simp [show i < ws.length by omega]⟩
  yld := fun i F1 H x H' d e e1 hd y => by
    obtain ⟨T, u, v, rfl, hT, rfl, y1, y2⟩ := y
    obtain ⟨dx, dy, hx, hy, rfl⟩ := zipD_get hd
    obtain ⟨v1, hv1, d1⟩ := hs.get hx
    obtain ⟨v2, hv2, d2⟩ := gs.get hy
    have q1 := y1 vs (SqL.of (e1 _ _ (e _ _ h)))
    have q2 := y2 ws (SqL.of (e1 _ _ (e _ _ g)))
    rw [hv1] at q1
    rw [hv2] at q2
    cases q1
    cases q2
    have gr : Gr F1 H (upd F1 T (.tup [u, v])) (upd H T (.tup [u, v])) := Gr.new e1 hT
    exact ⟨_, gr, .tup (SqT.of upd_same) (.cons ((d1.mono e).mono gr.ff) (.cons ((d2.mono e).mono gr.ff) .nil))⟩
  stop := fun i H e hi => ⟨vs, ws, SqL.of (e _ _ h), SqL.of (e _ _ g), by
    rw [zipD_len] at hi
    have hl := hs.len
    have gl := gs.len
    omega⟩
def enumD (ds : List PyData) : List PyData := ds.mapIdx fun i d => pr (.int (i : Nat)) d
theorem enumD_len (ds : List PyData) : (enumD ds).length = ds.length := List.length_mapIdx
theorem enumD_get {ds : List PyData} {i : Nat} {d : PyData} (h : (enumD ds)[i]? = some d) : ∃ x, ds[i]? = some x ∧ d = pr (.int (i : Nat)) x := by
  unfold enumD at h
  rw [List.getElem?_mapIdx] at h
  cases hx : ds[i]? with
  | none => rw [hx] at h; cases h
  | some x =>
    rw [hx] at h
    exact ⟨x, rfl, (Option.some.inj h).symm⟩
theorem itd_enum {F : Hp} {a : Addr} {vs : List V} {ds : List PyData} (h : F a = some (.lst vs)) (hs : DDs K F vs ds) : ItD K (Ite K a) F (enumD ds) where
  go := fun i H e hi => by
    have hl := hs.len
    rw [enumD_len] at hi
    exact ⟨vs, vs[i]'(by omega), SqL.of (e _ _ h), by simp [show i < vs.length by omega]⟩
  yld := fun i F1 H x H' d e e1 hd y => by
    obtain ⟨T, u, rfl, hT, rfl, y⟩ := y
    obtain ⟨dx, hx, rfl⟩ := enumD_get hd
    obtain ⟨v1, hv1, d1⟩ := hs.get hx
    have q1 := y vs (SqL.of (e1 _ _ (e _ _ h)))
    rw [hv1] at q1
    cases q1
    have gr : Gr F1 H (upd F1 T (.tup [.int (i : Nat), u])) (upd H T (.tup [.int (i : Nat), u])) := Gr.new e1 hT
    exact ⟨_, gr, .tup (SqT.of upd_same) (.cons (.int _) (.cons ((d1.mono e).mono gr.ff) .nil))⟩
  stop := fun i H e hi => ⟨vs, SqL.of (e _ _ h), by rw [hs.len, ← enumD_len]; exact hi⟩
end
def aiList (a : AE) : AL := fun A Q => a A fun d A1 => ∃ ds, d = .list ds ∧ Q ds A1
def aiZip (a : AL) : AL := fun A Q => a A fun d A1 => ∃ ds es, d = [.list ds, .list es] ∧ Q (zipD ds es) A1
def aiEnum (a : AL) : AL := fun A Q => a A fun d A1 => ∃ ds, d = [.list ds] ∧ Q (enumD ds) A1
def aiRange (a : AL) : AL := fun A Q => a A fun d A1 => ∃ n : Nat, d = [.int (n : Int)] ∧ n ≤ 1000 ∧ Q (rgD 0 n) A1
def aiRange2 (a : AL) : AL := fun A Q => a A fun d A1 => ∃ lo n : Int, d = [.int lo, .int n] ∧ 0 ≤ lo ∧ lo ≤ 1000 ∧ 0 ≤ n ∧ n ≤ 1000 ∧ Q (rgD lo (n - lo).toNat) A1
section
variable {X : Cx} {tg e e2 : Expr} {te : TE} {ae : AE} {ta : TA} {aa : AL} {pos p : Pos}
theorem si_list {K : PySem.W.Frag} (h : SE X e te ae) (hK : X.K = K := by rfl) : SI X tg e (iList K te) (aiList ae) := by
  subst hK
  exact ⟨pi_list h.p, fun M F0 H0 A σ F H Qd R rp q k => by
    refine h.s M F0 H0 A σ F H _ _ rp q fun d v A1 F1 H1 h1 e1 d1 => ?_
    obtain ⟨ds, rfl, h1⟩ := h1
    obtain ⟨a, vs, rfl, sq, hs⟩ := d1.list_v
    exact ⟨a, rfl, ⟨vs, SqL.of (e1.rp.sub _ _ sq)⟩, k _ ds A1 F1 H1 h1 e1 (itd_list sq hs)⟩⟩
theorem si_zip {K : PySem.W.Frag} {elts : List Expr} {kk : Nat} {tpos : Pos} (hm : X.mg "zip" = none) (ha : SA X [e, e2] ta aa) (hg : Gl X "zip" := by rfl) (hs : starEach [e, e2] X.env = (false, eval e X.env) :: starEach [e2] X.env := by rfl) (hpl : (backTo pos (starEach [e2] X.env)).any (·.1) = false := by rfl) (hK : X.K = K := by rfl) :
    SI X (.Tuple elts kk tpos) (.Call (.Name "zip" p) [e, e2] [] pos) (iZip K ta) (aiZip aa) := by
  subst hK
  exact ⟨pi_zip hg hm ha.p hs hpl, fun M F0 H0 A σ F H Qd R rp q k => by
    refine ha.s M F0 H0 A σ F H _ _ rp q fun d vs A1 F1 H1 h1 e1 d1 => ?_
    obtain ⟨ds, es, rfl, h1⟩ := h1
    obtain ⟨v, u, rfl, dv, du⟩ := d1.two
    obtain ⟨a, vs, rfl, sa, ha⟩ := dv.list_v
    obtain ⟨b, ws, rfl, sb, hb⟩ := du.list_v
    exact ⟨a, b, vs, ws, rfl, SqL.of (e1.rp.sub _ _ sa), SqL.of (e1.rp.sub _ _ sb), k _ _ A1 F1 H1 h1 e1 (itd_zip sa ha sb hb)⟩⟩
theorem si_enum {K : PySem.W.Frag} {elts : List Expr} {kk : Nat} {tpos : Pos} (hm : X.mg "enumerate" = none) (ha : SA X [e] ta aa) (hg : Gl X "enumerate" := by rfl) (hs : starEach [e] X.env = [(false, eval e X.env)] := by rfl) (hK : X.K = K := by rfl) :
    SI X (.Tuple elts kk tpos) (.Call (.Name "enumerate" p) [e] [] pos) (iEnum K ta) (aiEnum aa) := by
  subst hK
  exact ⟨pi_enum hg hm ha.p hs, fun M F0 H0 A σ F H Qd R rp q k => by
    refine ha.s M F0 H0 A σ F H _ _ rp q fun d vs A1 F1 H1 h1 e1 d1 => ?_
    obtain ⟨ds, rfl, h1⟩ := h1
    obtain ⟨v, rfl, dv⟩ := d1.one
    obtain ⟨a, vs, rfl, sa, ha⟩ := dv.list_v
    exact ⟨a, vs, rfl, SqL.of (e1.rp.sub _ _ sa), k _ _ A1 F1 H1 h1 e1 (itd_enum sa ha)⟩⟩
theorem si_range (hm : X.mg "range" = none) (ha : SA X [e] ta aa) (hg : Gl X "range" := by rfl) (hs : starEach [e] X.env = [(false, eval e X.env)] := by rfl) : SI X tg (.Call (.Name "range" p) [e] [] pos) (iRng1 ta) (aiRange aa) := ⟨pi_range1 hg hm ha.p hs, fun M F0 H0 A σ F H Qd R rp q k => by
  refine ha.s M F0 H0 A σ F H _ _ rp q fun d vs A1 F1 H1 h1 e1 d1 => ?_
  obtain ⟨n, rfl, hn, h1⟩ := h1
  obtain ⟨v, rfl, dv⟩ := d1.one
  have q := k _ _ A1 F1 H1 h1 e1 (itd_range 0 n)
  exact ⟨n, by rw [dv.int_v], by omega, by omega, by rw [Int.toNat_natCast]; exact q⟩⟩
theorem si_range2 (hm : X.mg "range" = none) (ha : SA X [e, e2] ta aa) (hg : Gl X "range" := by rfl) (hs : starEach [e, e2] X.env = [(false, eval e X.env), (false, eval e2 X.env)] := by rfl) (hs2 : starEach [e2] X.env = [(false, eval e2 X.env)] := by rfl) :
    SI X tg (.Call (.Name "range" p) [e, e2] [] pos) (iRng2 ta) (aiRange2 aa) := ⟨pi_range2 hg hm ha.p hs hs2, fun M F0 H0 A σ F H Qd R rp q k => by
  refine ha.s M F0 H0 A σ F H _ _ rp q fun d vs A1 F1 H1 h1 e1 d1 => ?_
  obtain ⟨lo, n, rfl, h2, h3, h4, h5, h1⟩ := h1
  obtain ⟨v, u, rfl, dv, du⟩ := d1.two
  exact ⟨lo, n, by rw [dv.int_v, du.int_v], ⟨by omega, by omega, by omega, by omega⟩, k _ _ A1 F1 H1 h1 e1 (itd_range lo (n - lo).toNat)⟩⟩
end

/-! ### for -/
def aFor (ai : AL) (ag : AG) (ab : AS) : AS := fun C A => ai A fun ds A1 => ∃ Pv : Nat → Sto → Prop, Pv 0 A1 ∧
  (∀ i d A, ds[i]? = some d → Pv i A → ag d A fun A2 => ab { C with nx := Pv (i + 1), ct := Pv (i + 1), bk := C.nx } A2) ∧ ∀ A, Pv ds.length A → C.nx A
theorem so_for {K : PySem.W.Frag} {ti : TI} {tg : TG} {tb : TS} {ai : AL} {ag : AG} {ab : AS} {is : List Nat} (hi : SoI K ti ai) (hg : SoG K tg ag is) (hb : SoS K tb ab) : SoS K (tFor ti tg tb) (aFor ai ag ab) := fun M F0 H0 A σ F H C E rp h k => by
  refine hi M F0 H0 A σ F H _ _ rp h fun J ds A1 F1 H1 h1 e1 it => ?_
  obtain ⟨Pv, p0, ps, pd⟩ := h1
  refine ⟨fun i m σ' H' => m = ds.length - i ∧ i ≤ ds.length ∧ ∃ A' F', Pv i A' ∧ Rp K M F0 H0 A' σ' F' H' ∧ Same F1 F', ⟨ds.length, by omega, Nat.zero_le _, A1, F1, p0, e1.rp, Same.refl F1⟩, ?_⟩
  rintro i m σ' H' ⟨rfl, hle, A', F', pv, r', s'⟩
  by_cases hlt : i < ds.length
  · refine .inr ⟨it.go i H' (s'.trans r'.sub) hlt, fun σ2 H2 => ∃ A2 F2, Pv (i + 1) A2 ∧ Rp K M F0 H0 A2 σ2 F2 H2 ∧ Same F1 F2, fun σ2 H2 q => ⟨ds.length - (i + 1), by omega, rfl, hlt, q⟩, fun x H2 y => ?_⟩
    have hd : ds[i]? = some ds[i] := List.getElem?_eq_getElem hlt
    obtain ⟨F2, g2, d2⟩ := it.yld i F' H' x H2 _ s' r'.sub hd y
    refine hg M F0 H0 A' σ' F2 H2 x _ _ _ (r'.grow g2) d2 (ps i _ A' hd pv) fun A3 us h3 l3 r3 _ _ => ?_
    have s3 : Same F1 F2 := s'.trans g2.ff
    exact hb M F0 H0 A3 _ F2 H2 _ _ r3 h3 ⟨fun A4 σ4 F4 H4 q r q2 => ⟨A4, F4, q, r, s3.trans q2⟩, fun d v A4 σ4 F4 H4 q r q2 dd => k.rt d v A4 σ4 F4 H4 q r ((e1.ff.trans s3).trans q2) dd, fun A4 σ4 F4 H4 q r q2 => k.nx A4 σ4 F4 H4 q r ((e1.ff.trans s3).trans q2), fun A4 σ4 F4 H4 q r q2 => ⟨A4, F4, q, r, s3.trans q2⟩⟩
  · have e : i = ds.length := by omega
    subst e
    exact .inl ⟨it.stop _ H' (s'.trans r'.sub) (Nat.le_refl _), k.nx A' σ' F' H' (pd A' pv) r' (e1.ff.trans s')⟩
def aWhile (at_ : AT) (ab : AS) : AS := fun C A => ∃ W : Nat → Sto → Prop, (∃ m, W m A) ∧ ∀ m A, W m A → at_ A fun b A1 => if b = true then ab { C with nx := fun A' => ∃ m', m' < m ∧ W m' A', ct := fun A' => ∃ m', m' < m ∧ W m' A', bk := C.nx } A1 else C.nx A1
theorem so_while {K : PySem.W.Frag} {tc : TT} {tb : TS} {ac : AT} {ab : AS} (hc : SoT K tc ac) (hb : SoS K tb ab) : SoS K (tWhile tc tb) (aWhile ac ab) := fun M F0 H0 A σ F H C E rp h k => by
  obtain ⟨W, ⟨m0, w0⟩, turn⟩ := h
  refine ⟨fun m σ' H' => ∃ A' F', W m A' ∧ Rp K M F0 H0 A' σ' F' H' ∧ Same F F', ⟨m0, A, F, w0, rp, Same.refl F⟩, ?_⟩
  rintro m σ' H' ⟨A', F', w', r', s'⟩
  refine hc M F0 H0 A' σ' F' H' _ _ r' (turn m A' w') fun b A2 F2 H2 h2 e2 => ?_
  cases b with
  | true =>
    rw [if_pos rfl] at h2 ⊢
    have s2 : Same F F2 := s'.trans e2.ff
    refine ⟨fun σ3 H3 => ∃ m', m' < m ∧ ∃ A3 F3, W m' A3 ∧ Rp K M F0 H0 A3 σ3 F3 H3 ∧ Same F F3, fun σ3 H3 q => q, ?_⟩
    exact hb M F0 H0 A2 σ' F2 H2 _ _ e2.rp h2 ⟨fun A4 σ4 F4 H4 q r q2 => by
        obtain ⟨m', hm, w⟩ := q
        exact ⟨m', hm, A4, F4, w, r, s2.trans q2⟩, fun d v A4 σ4 F4 H4 q r q2 dd => k.rt d v A4 σ4 F4 H4 q r (s2.trans q2) dd, fun A4 σ4 F4 H4 q r q2 => k.nx A4 σ4 F4 H4 q r (s2.trans q2), fun A4 σ4 F4 H4 q r q2 => by
        obtain ⟨m', hm, w⟩ := q
        exact ⟨m', hm, A4, F4, w, r, s2.trans q2⟩⟩
  | false =>
    rw [if_neg Bool.false_ne_true] at h2 ⊢
    exact k.nx A2 σ' F2 H2 h2 e2.rp (s'.trans e2.ff)
section
variable {X : Cx} {e : Expr} {body : List Stmt} {te : TE} {ae : AE} {tb : TS} {ab : AS} {pos : Pos}
theorem ss_for {tg iter : Expr} {ti : TI} {g : TG} {ai : AL} {ag : AG} {is : List Nat} (hc : X.calm = true) (hp : PassesOwn (model X.prog X.w) X.A X.env X.xe) (hi : SI X tg iter ti ai) (hg : SG X tg g ag is) (hb : SSs X body tb ab) (hs : ∀ x, foldedSetIterable iter X.env x = pure x := by intro _; rfl) :
    SS X (.For tg iter body [] pos) (tFor ti g tb) (aFor ai ag ab) := ⟨ps_for hp hc hi.p hg.p hb.p hs, so_for hi.s hg.s hb.s⟩
theorem ss_while {c : Expr} {tc : TT} {ac : AT} (hp : PassesOwn (model X.prog X.w) X.A X.env X.xe) (hc : ST X c tc ac) (hb : SSs X body tb ab) : SS X (.While c body [] pos) (tWhile tc tb) (aWhile ac ab) := ⟨ps_while hp hc.p hb.p, so_while hc.s hb.s⟩
/-- x[i] = e, x a list that may change -/
def aSetIx (i : Nat) (ae ai : AE) : AS := fun C A => ae A fun d A1 => (∃ o0 ds0, A1[i]? = some (.mu o0 ds0)) ∧ ai A1 fun j A2 => ∃ o ds n m, A2[i]? = some (.mu o ds) ∧ j = .int n ∧ ixN ds.length n = some m ∧ C.nx (A2.set i (.mu o (ds.set m d)))
theorem ss_setIx (i : Nat) {x : Str} {px p2 : Pos} {ix : Expr} {ti : TE} {ai : AE} (he : SE X e te ae) (hi : SE X ix ti ai) (hN : X.N[i]? = some x := by rfl) (hv : Vis X.env.scope x := by first | exact Or.inl rfl | exact Or.inr (Or.inl rfl) | exact Or.inr (Or.inr rfl)) (hd : (x == ("__debug__" : Str)) = false := by decide)
    (hcd : (x == ("__classdict__" : Str)) = false := by decide) (hs : swapsWithSole [.Subscript (.Name x px) ix p2] e pos.line X.env = pure false := by rfl) (hw : swappedStores [.Subscript (.Name x px) ix p2] e X.env = pure none := by rfl) (h1 : (assignEach [.Subscript (.Name x px) ix p2] X.env).map (·.2) = [assign (.Subscript (.Name x px) ix p2) X.env] := by rfl)
    (ha : ∀ v, assign (.Subscript (.Name x px) ix p2) X.env v = (do
      let ov ← holding [v] (eval (.Name x px) X.env)
      let iv ← holding [v, ov] (eval ix X.env)
      standAt p2
      holding [v, ov, iv] (setItem ov iv v)
      release [v, ov, iv] []) := by intro _; rfl) :
    SS X (.Assign [.Subscript (.Name x px) ix p2] e pos) (tAsg te (gSub (tVar i) ti rSetL)) (aSetIx i ae ai) := ⟨ps_asg he.p (pg_sub (pe_var hN hv hd hcd) hi.p set_list ha) hs hw h1, fun M F0 H0 A σ F H C E rp h k => by
  refine he.s M F0 H0 A σ F H _ _ rp h fun d v A1 F1 H1 h1 e1 d1 => ?_
  obtain ⟨⟨o0, ds0, g0⟩, h1⟩ := h1
  obtain ⟨p, vs, f1, f2, _⟩ := e1.rp.mu_at g0
  refine ⟨.ref p, f1, ?_⟩
  refine hi.s M F0 H0 A1 σ F1 H1 _ _ e1.rp h1 fun j u A2 F2 H2 h2 e2 d2 => ?_
  obtain ⟨o, ds, n, m, g2, rfl, hm, q⟩ := h2
  obtain ⟨p', ws, y1, y2, y3, y4, y5⟩ := e2.rp.mu_at g2
  have ep : p' = p := ref_inj y1 f1
  subst ep
  refine ⟨p', ws, n, m, rfl, d2.int_v, y2, by rw [y5.len]; exact hm, ?_⟩
  exact k.nx _ _ F2 _ q (e2.rp.mut g2 y1 (y5.set (d1.mono e2.ff) m)) (e1.ff.trans e2.ff)⟩
/-- x.append(e) -/
def aApp (i : Nat) (ae : AE) : AS := fun C A => (∃ o0 ds0, A[i]? = some (.mu o0 ds0)) ∧ ae A fun d A1 => ∃ o ds, A1[i]? = some (.mu o ds) ∧ ds.length ≤ 1000 ∧ C.nx (A1.set i (.mu o (ds ++ [d])))
theorem ss_app {K : PySem.W.Frag} (i : Nat) {x : Str} {px p2 p3 : Pos} (he : SE X e te ae) (hN : X.N[i]? = some x := by rfl) (hv : Vis X.env.scope x := by first | exact Or.inl rfl | exact Or.inr (Or.inl rfl) | exact Or.inr (Or.inr rfl)) (hd : (x == ("__debug__" : Str)) = false := by decide)
    (hcd : (x == ("__classdict__" : Str)) = false := by decide) (h1 : starEach [e] X.env = (false, eval e X.env) :: starEach [] X.env := by rfl)
    (hpe : PE X (.Call (.Attribute (.Name x px) "append" p2) [e] [] p3) (tBM X.K "list" rAppend (tVar i) (tCons te tNil))) (hs : swapsWith (.Call (.Attribute (.Name x px) "append" p2) [e] [] p3) none pos.line X.env = pure false := by rfl) (hK : X.K = K := by rfl) :
    SS X (.Expr (.Call (.Attribute (.Name x px) "append" p2) [e] [] p3) pos) (tDrop (tBM K "list" rAppend (tVar i) (tCons te tNil))) (aApp i ae) := by
  subst hK
  exact ⟨ps_expr hpe hs, fun M F0 H0 A σ F H C E rp h k => by
    obtain ⟨⟨o0, ds0, g0⟩, h⟩ := h
    obtain ⟨p, vs, f1, f2, _⟩ := rp.mu_at g0
    refine ⟨.ref p, f1, .inl ⟨rfl, _, SqL.of f2⟩, ?_⟩
    refine he.s M F0 H0 A σ F H _ _ rp h fun d v A1 F1 H1 h1 e1 d1 => ?_
    obtain ⟨o, ds, g1, hl, q⟩ := h1
    obtain ⟨p', ws, y1, y2, y3, y4, y5⟩ := e1.rp.mu_at g1
    have ep : p' = p := ref_inj y1 f1
    subst ep
    refine ⟨p', ws, v, rfl, rfl, y2, by rw [y5.len]; exact small1000 hl, ?_⟩
    exact k.nx _ _ F1 _ q (e1.rp.mut g1 y1 (y5.app (.cons d1 .nil))) e1.ff⟩
/-- a, b = x, y -/
def aPar (i j : Nat) (a : AL) : AS := fun C A => a A fun ds A1 => ∃ d e, ds = [d, e] ∧ C.nx ((A1.set i (.fz d)).set j (.fz e))
theorem ss_par (i j : Nat) {x y : Str} {a b : Expr} {ta : TA} {aa : AL} {px py pt : Pos} {kt k2 pt2} (hc : X.calm = true) (hN : X.N.Nodup) (ha : SA X [a, b] ta aa) (hij : i ≠ j := by decide) (hi : X.N[i]? = some x := by rfl) (hj : X.N[j]? = some y := by rfl)
    (hx : X.env.scope.names.lookup x = some .local := by rfl) (hy : X.env.scope.names.lookup y = some .local := by rfl)
    (hw : swappedStores [.Tuple [.Name x px, .Name y py] kt pt] (.Tuple [a, b] k2 pt2) X.env = pure (some [x, y]) := by rfl)
    (hs : swapsWithSole [.Tuple [.Name x px, .Name y py] kt pt] (.Tuple [a, b] k2 pt2) pos.line X.env = pure false := by rfl) :
    SS X (.Assign [.Tuple [.Name x px, .Name y py] kt pt] (.Tuple [a, b] k2 pt2) pos) (tPar i j ta) (aPar i j aa) := ⟨ps_par hc hN hi hj hij hx hy ha.p hw hs, fun M F0 H0 A σ F H C E rp h k => by
  refine ha.s M F0 H0 A σ F H _ _ rp h fun ds vs A1 F1 H1 h1 e1 d1 => ?_
  obtain ⟨d, e, rfl, h1⟩ := h1
  obtain ⟨v, u, rfl, dv, du⟩ := d1.two
  exact ⟨v, u, rfl, k.nx _ _ F1 H1 h1 ((e1.rp.set dv).set du) e1.ff⟩⟩
end
end Tk
end
section
set_option Elab.async false
set_option linter.all false
set_option maxRecDepth 100000
set_option maxHeartbeats 4000000
namespace Tk
open PySem PySem.Spec PyProof.Rows L2

/-! ### list comprehensions -/
def wipeA (A : Sto) : List Nat → Sto
  | [] => A
  | v :: vs => (wipeA A vs).set v .no
theorem wipe_get (σ : L2.St) (k : Nat) : ∀ vs : List Nat, k ∉ vs → (wipe σ vs)[k]? = σ[k]?
  | [], _ => rfl
  | v :: vs, h => by
    unfold wipe
    rw [List.getElem?_set_ne (fun z => h (by rw [z]; exact List.mem_cons_self)), wipe_get σ k vs fun z => h (List.mem_cons_of_mem _ z)]
theorem wipe_in (σ : L2.St) (k : Nat) : ∀ vs : List Nat, k ∈ vs → k < σ.length → (wipe σ vs)[k]? = some none
  | [], h, _ => by cases h
  | v :: vs, h, hl => by
    unfold wipe
    by_cases e : v = k
    · subst e
      rw [List.getElem?_set_self (by rw [wipe_length]; exact hl)]
    · rw [List.getElem?_set_ne e]
      rcases List.mem_cons.mp h with z | z
      · exact absurd z.symm e
      · exact wipe_in σ k vs z hl
theorem wipe_eq {σ τ : L2.St} (vs : List Nat) (hl : σ.length = τ.length) (h : ∀ k, k ∉ vs → σ[k]? = τ[k]?) : wipe σ vs = wipe τ vs := by
  apply List.ext_getElem?
  intro k
  by_cases hk : k ∈ vs
  · by_cases hlt : k < σ.length
    · rw [wipe_in σ k vs hk hlt, wipe_in τ k vs hk (by omega)]
    · rw [List.getElem?_eq_none (by rw [wipe_length]; omega), List.getElem?_eq_none (by rw [wipe_length]; omega)]
  · rw [wipe_get σ k vs hk, wipe_get τ k vs hk]
    exact h k hk
theorem setsL_length : ∀ (is : List Nat) (us : List V) (σ : L2.St), (setsL σ is us).length = σ.length
  | [], _, _ => by cases ‹List V› <;> rfl
  | _ :: _, [], _ => rfl
  | i :: is, u :: us, σ => by
    show (setsL (σ.set i (some u)) is us).length = σ.length
    rw [setsL_length is us, List.length_set]
theorem setsL_get : ∀ (is : List Nat) (us : List V) (σ : L2.St) (k : Nat), k ∉ is → (setsL σ is us)[k]? = σ[k]?
  | [], us, σ, k, _ => by cases us <;> rfl
  | _ :: _, [], _, _, _ => rfl
  | i :: is, u :: us, σ, k, h => by
    show (setsL (σ.set i (some u)) is us)[k]? = σ[k]?
    rw [setsL_get is us _ k fun z => h (List.mem_cons_of_mem _ z), List.getElem?_set_ne (fun z => h (by rw [z]; exact List.mem_cons_self))]
theorem wipeA_get (A : Sto) (k : Nat) : ∀ vs : List Nat, k ∉ vs → (wipeA A vs)[k]? = A[k]?
  | [], _ => rfl
  | v :: vs, h => by
    unfold wipeA
    rw [List.getElem?_set_ne (fun z => h (by rw [z]; exact List.mem_cons_self)), wipeA_get A k vs fun z => h (List.mem_cons_of_mem _ z)]
theorem wipeA_mu (A : Sto) {k : Nat} {o : Bool} {ds : List PyData} : ∀ {vs : List Nat}, (wipeA A vs)[k]? = some (.mu o ds) → k ∉ vs ∧ A[k]? = some (.mu o ds)
  | [], h => ⟨by simp, h⟩
  | v :: vs, h => by
    unfold wipeA at h
    rcases getset h with ⟨_, z⟩ | ⟨ne, h⟩
    · cases z
    · obtain ⟨h1, h2⟩ := wipeA_mu A h
      exact ⟨by simp only [List.mem_cons, not_or]; exact ⟨fun z => ne z.symm, h1⟩, h2⟩
section
variable {K : PySem.W.Frag} {M : Addr → Prop} {F0 H0 F H F' H' : Hp} {A A' : Sto} {σ σ' : L2.St}
theorem Rp.forget (r : Rp K M F0 H0 A σ F H) (i : Nat) : Rp K M F0 H0 (A.set i .no) (σ.set i none) F H := by
  refine ⟨r.keep, r.dom, r.fz, r.sub, r.new, by rw [List.length_set, List.length_set]; exact r.len, fun j t e => ?_, fun j k p o u ds es e1 e2 e3 e4 => ?_⟩
  · rcases getset e with ⟨ej, et⟩ | ⟨ne, e⟩
    · subst et
      trivial
    · rw [List.getElem?_set_ne ne]
      exact r.slot j t e
  · rcases getset e1 with ⟨_, z⟩ | ⟨n1, e1⟩
    · cases z
    · rcases getset e2 with ⟨_, z⟩ | ⟨n2, e2⟩
      · cases z
      · rw [List.getElem?_set_ne n1] at e3
        rw [List.getElem?_set_ne n2] at e4
        exact r.inj j k p o u ds es e1 e2 e3 e4
theorem Rp.wiped (r : Rp K M F0 H0 A σ F H) : ∀ vs : List Nat, Rp K M F0 H0 (wipeA A vs) (wipe σ vs) F H
  | [] => r
  | v :: vs => (r.wiped vs).forget v
theorem MutA.wiped {vs : List Nat} {a : Addr} (h : MutA (wipeA A vs) (wipe σ vs) a) : MutA A σ a := by
  obtain ⟨i, o, ds, h1, h2⟩ := h
  obtain ⟨h3, h4⟩ := wipeA_mu A h1
  rw [wipe_get σ i vs h3] at h2
  exact ⟨i, o, ds, h4, h2⟩
/-- back from the block -/
theorem Rp.outer {vs : List Nat} (r : Rp K M F0 H0 A σ F H) (r' : Rp K M F0 H0 A' σ' F' H') (s : Same F F') (nm : ∀ j ∈ vs, ∀ o es, A[j]? ≠ some (.mu o es)) (ha : ∀ i, i ∉ vs → A'[i]? = A[i]?) (hs : ∀ i, i ∉ vs → σ'[i]? = σ[i]?) : Rp K M F0 H0 A σ F' H' := by
  refine ⟨r'.keep, r'.dom, r'.fz, r'.sub, r'.new, r.len, fun i t e => ?_, r.inj⟩
  have h0 := r.slot i t e
  cases t with
  | no => trivial
  | fz d =>
    obtain ⟨v, e1, q⟩ := h0
    exact ⟨v, e1, q.mono s⟩
  | rw v => exact h0
  | sc xs => exact h0
  | ex C => exact h0
  | ob C fs =>
    obtain ⟨a', dx, vs', e', h0', m', q'⟩ := h0
    exact ⟨a', dx, vs', e', h0', m', fun x d l => let ⟨v, e, z⟩ := q' x d l; ⟨v, e, z.mono s⟩⟩
  | mu o ds =>
    have hi : i ∉ vs := fun z => nm i z o ds e
    have h1 := r'.slot i (.mu o ds) (by rw [ha i hi]; exact e)
    rw [hs i hi] at h1
    exact h1
theorem Rp.untracked {D : Addr} {o : HO} (r : Rp K M F0 H0 A σ F H) (f : F D = none) (h0 : H0 D = none) (nm : ¬ MutA A σ D) : Rp K M F0 H0 A σ F (upd H D o) := by
  refine ⟨fun a x h m => ?_, fun a h => ?_, r.fz, fun a x h => ?_, r.new, r.len, fun i t e => ?_, r.inj⟩
  · rw [upd_ne (ne_of_none h h0)]
    exact r.keep a x h m
  · by_cases z : a = D
    · rw [z]
      exact h0
    · rw [upd_ne z] at h
      exact r.dom a h
  · rw [upd_ne (ne_of_none h f)]
    exact r.sub a x h
  · have q := r.slot i t e
    cases t with
    | no => trivial
    | fz d => exact q
    | rw v => exact q
    | sc xs => exact q
    | ex C => exact q
    | ob C fs => exact q
    | mu o2 ds =>
      obtain ⟨p, vs, q1, q2, q3, q4, q5⟩ := q
      refine ⟨p, vs, q1, ?_, q3, q4, q5⟩
      rw [upd_ne (fun z => nm ⟨i, o2, ds, e, by rw [← z]; exact q1⟩)]
      exact q2
end
def outs (out : Nat → Option PyData) (n : Nat) : List PyData := (List.range n).filterMap out
theorem outs_yes {out : Nat → Option PyData} {n : Nat} {y : PyData} (h : out n = some y) : outs out (n + 1) = outs out n ++ [y] := by
  unfold outs
  rw [List.range_succ, List.filterMap_append]
  simp [h]
theorem outs_no {out : Nat → Option PyData} {n : Nat} (h : out n = none) : outs out (n + 1) = outs out n := by
  unfold outs
  rw [List.range_succ, List.filterMap_append]
  simp [h]
theorem outs_len (out : Nat → Option PyData) (n : Nat) : (outs out n).length ≤ n := by
  unfold outs
  have h := List.length_filterMap_le out (List.range n)
  rw [List.length_range] at h
  exact h
/-- no list that may change stands in these slots -/
def noMu (A : Sto) : List Nat → Bool
  | [] => true
  | j :: r => (match A[j]? with
    | some (.mu _ _) => false
    | _ => true) && noMu A r
theorem noMu_ok {A : Sto} : ∀ {vs : List Nat}, noMu A vs = true → ∀ j ∈ vs, ∀ o es, A[j]? ≠ some (.mu o es)
  | [], _, j, hj, _, _ => by cases hj
  | i :: r, h, j, hj, o, es => fun z => by
    unfold noMu at h
    rw [Bool.and_eq_true] at h
    rcases List.mem_cons.mp hj with q | q
    · subst q
      rw [z] at h
      cases h.1
    · exact noMu_ok h.2 j q o es z
/-- the element's outcome by its place -/
def aLc (ai : AL) (ag : AG) (at_ : AT) (ae : AE) (vs : List Nat) : AL := fun A Q => ai A fun ds A1 => noMu A1 vs = true ∧ ds.length ≤ 1000 ∧ ∃ out : Nat → Option PyData,
  (∀ i d, ds[i]? = some d → ag d (wipeA A1 vs) fun A2 => at_ A2 fun b A3 => A3 = A2 ∧ if b = true then ae A3 fun y A4 => A4 = A3 ∧ out i = some y else out i = none) ∧ Q (outs out ds.length) A1
theorem so_lc {K : PySem.W.Frag} {ti : TI} {tg : TG} {tt : TT} {te : TE} {ai : AL} {ag : AG} {at_ : AT} {ae : AE} {is vs : List Nat} (hi : SoI K ti ai) (hg : SoG K tg ag is) (ht : SoT K tt at_) (he : SoE K te ae) (hv : ∀ i ∈ is, i ∈ vs) : SoN K (tLc ti tg tt te vs) (aLc ai ag at_ ae vs) := fun M F0 H0 A σ F H Qd Q rp h k => by
  refine hi M F0 H0 A σ F H _ _ rp h fun J ds A1 F1 H1 h1 e1 it => ?_
  obtain ⟨nm0, hl, out, turn, q⟩ := h1
  have nm := noMu_ok nm0
  intro D hD
  have h0 : H0 D = none := e1.rp.dom D hD
  have f1 : F1 D = none := e1.rp.sub.free hD
  have nD : ¬ MutA A1 σ D := fun m => by
    obtain ⟨i, o, es, z1, z2⟩ := m
    obtain ⟨p, vs', y1, y2, _⟩ := e1.rp.mu_at z1
    have : p = D := ref_inj y1 z2
    rw [this, hD] at y2
    cases y2
  refine ⟨fun i m H' => m = ds.length - i ∧ i ≤ ds.length ∧ ∃ F' vs', Rp K M F0 H0 A1 σ F' H' ∧ Same F1 F' ∧ H' D = some (.lst vs') ∧ F' D = none ∧ DDs K F' vs' (outs out i) ∧ (∀ a o, H1 a = some o → ¬ MutA A1 σ a → H' a = some o) ∧ (∀ a, H' a = none → H1 a = none) ∧ (∀ a, F1 a = none → H1 a ≠ none → ¬ MutA A1 σ a → F' a = none),
    ⟨ds.length, by omega, Nat.zero_le _, F1, [], e1.rp.untracked f1 h0 nD, Same.refl F1, upd_same, f1, .nil, fun a o z _ => by rw [upd_ne (ne_of_none z hD)]; exact z, fun a z => ?_, fun a z _ _ => z⟩, ?_⟩
  · by_cases ha : a = D
    · rw [ha]
      exact hD
    · rw [upd_ne ha] at z
      exact z
  rintro i m H' ⟨rfl, hle, F', vs', r', s', d1, d2, d3, kp, dm, nw⟩
  by_cases hlt : i < ds.length
  · refine .inr ⟨it.go i H' (s'.trans r'.sub) hlt, fun H2 => ∃ F' vs', Rp K M F0 H0 A1 σ F' H2 ∧ Same F1 F' ∧ H2 D = some (.lst vs') ∧ F' D = none ∧ DDs K F' vs' (outs out (i + 1)) ∧ (∀ a o, H1 a = some o → ¬ MutA A1 σ a → H2 a = some o) ∧ (∀ a, H2 a = none → H1 a = none) ∧ (∀ a, F1 a = none → H1 a ≠ none → ¬ MutA A1 σ a → F' a = none),
      fun H2 q => ⟨ds.length - (i + 1), by omega, rfl, hlt, q⟩, fun x H2 y => ?_⟩
    have hd : ds[i]? = some ds[i] := List.getElem?_eq_getElem hlt
    obtain ⟨F2, g2, dx⟩ := it.yld i F' H' x H2 _ s' r'.sub hd y
    refine hg M F0 H0 (wipeA A1 vs) (wipe σ vs) F2 H2 x _ _ _ ((r'.grow g2).wiped vs) dx (turn i _ hd) fun A3 us h3 l3 r3 fr3 mm3 => ?_
    have hw : ∀ k, k ∉ vs → (setsL (wipe σ vs) is us)[k]? = σ[k]? := fun k hk => by
      rw [setsL_get is us _ k fun z => hk (hv k z), wipe_get σ k vs hk]
    refine ⟨wipe_eq vs (by rw [setsL_length, wipe_length]) hw, ?_⟩
    have mA : ∀ a, MutA A3 (setsL (wipe σ vs) is us) a → MutA A1 σ a := fun a z => (mm3 a z).wiped
    have hA3 : ∀ j, j ∉ vs → A3[j]? = A1[j]? := fun j hj => by rw [fr3 j fun z => hj (hv j z), wipeA_get A1 j vs hj]
    refine ht M F0 H0 A3 _ F2 H2 _ _ r3 h3 fun b A4 F4 H4 h4 e4 => ?_
    obtain ⟨eA, h4⟩ := h4
    subst eA
    have D4 : H4 D = some (.lst vs') := e4.kp D _ (g2.hh _ _ d1) fun z => nD (mA D z)
    have FD4 : F4 D = none := e4.nw D (g2.nw D d2 (by rw [d1]; exact fun z => by cases z)) (by rw [g2.hh _ _ d1]; exact fun z => by cases z) fun z => nD (mA D z)
    have s4 : Same F' F4 := g2.ff.trans e4.ff
    have kp4 : ∀ a o, H1 a = some o → ¬ MutA A1 σ a → H4 a = some o := fun a o z n => e4.kp a o (g2.hh a o (kp a o z n)) fun w => n (mA a w)
    have dm4 : ∀ a, H4 a = none → H1 a = none := fun a z => dm a (g2.hh.free (e4.dm a z))
    have nw4 : ∀ a, F1 a = none → H1 a ≠ none → ¬ MutA A1 σ a → F4 a = none := fun a z n mt => e4.nw a (g2.nw a (nw a z n mt) fun w => n (dm a w)) (fun w => n (dm a (g2.hh.free w))) fun w => mt (mA a w)
    cases b with
    | false =>
      rw [if_neg Bool.false_ne_true] at h4 ⊢
      refine ⟨F4, vs', r'.outer e4.rp s4 nm hA3 hw, s'.trans s4, D4, FD4, ?_, kp4, dm4, nw4⟩
      rw [outs_no h4]
      exact d3.mono s4
    | true =>
      rw [if_pos rfl] at h4 ⊢
      refine he M F0 H0 A4 _ F4 H4 _ _ e4.rp h4 fun y v A5 F5 H5 h5 e5 d5 => ?_
      obtain ⟨eA, h5⟩ := h5
      subst eA
      have D5 : H5 D = some (.lst vs') := e5.kp D _ D4 fun z => nD (mA D z)
      have FD5 : F5 D = none := e5.nw D FD4 (by rw [D4]; exact fun z => by cases z) fun z => nD (mA D z)
      have s5 : Same F' F5 := s4.trans e5.ff
      refine ⟨vs', D5, ?_, F5, vs' ++ [v], (r'.outer e5.rp s5 nm hA3 hw).untracked FD5 h0 nD, s'.trans s5, upd_same, FD5, ?_, fun a o z n => ?_, fun a z => ?_, fun a z n mt => e5.nw a (nw4 a z n mt) (fun w => n (dm4 a w)) fun w => mt (mA a w)⟩
      · rw [d3.len]
        exact Nat.lt_of_le_of_lt (outs_len out i) (small1000 (by omega))
      · rw [outs_yes h5]
        exact (d3.mono s5).app (.cons d5 .nil)
      · have na : a ≠ D := ne_of_none z hD
        rw [upd_ne na]
        exact e5.kp a o (kp4 a o z n) fun w => n (mA a w)
      · by_cases ha : a = D
        · rw [ha]
          exact hD
        · rw [upd_ne ha] at z
          exact dm4 a (e5.dm a z)
  · have e : i = ds.length := by omega
    subst e
    refine .inl ⟨it.stop _ H' (s'.trans r'.sub) (Nat.le_refl _), ?_⟩
    exact k _ D vs' A1 F' H' q (e1.trans ⟨r', s', kp, fun _ z => z, dm, nw⟩) (e1.dm D hD) d2 d1 d3
def aYes : AT := fun A Q => Q true A
structure STs (X : Cx) (ifs : List Expr) (t : TT) (a : AT) : Prop where
  p : PTs X ifs t
  s : SoT X.K t a
section
variable {X : Cx}
theorem sts_nil : STs X [] tYes aYes := ⟨pts_nil, fun M F0 H0 A σ F H Qd Q rp h k => k true A F H h (Ev.refl rp)⟩
theorem sts_one {c : Expr} {t : TT} {a : AT} (h : ST X c t a) : STs X [c] t a := ⟨pts_one h.p, h.s⟩
variable {elt tg iter : Expr} {ifs : List Expr} {scope : Scope} {own : List (Str × Nat)} {pos : Pos} {wi : TI} {g : TG} {tt : TT} {te : TE} {ai : AL} {ag : AG} {at_ : AT} {ae : AE} {is : List Nat}
theorem sn_lc (own : List (Str × Nat)) (hc : X.calm = true) (hN : X.N.Nodup) (hi : SI X tg iter wi ai) (ok : blkC X.N X.env.scope scope own = true)
    (hg : ∀ (s : Shared) (H : Hp) (C : Addr) (cl : List (Str × Addr)) (fp : List Addr), SG (X.blk s H scope (compEnvC scope cl C X.env) fp) tg g ag is)
    (ht : ∀ (s : Shared) (H : Hp) (C : Addr) (cl : List (Str × Addr)) (fp : List Addr), STs (X.blk s H scope (compEnvC scope cl C X.env) fp) ifs tt at_)
    (he : ∀ (s : Shared) (H : Hp) (C : Addr) (cl : List (Str × Addr)) (fp : List Addr), SE (X.blk s H scope (compEnvC scope cl C X.env) fp) elt te ae) (hv : ∀ i ∈ is, i ∈ own.map (·.2) := by decide) (hs : ∀ x, foldedSetIterable iter X.env x = pure x := by intro _; rfl) :
    SN X (.ListComp elt [⟨tg, iter, ifs, 0⟩] scope pos) (tLc wi g tt te (own.map (·.2))) (aLc ai ag at_ ae (own.map (·.2))) :=
  ⟨pe_lc hc hN hi.p (blkOk_by ok) (fun s H C cl fp => (hg s H C cl fp).p) (fun s H C cl fp => (ht s H C cl fp).p) (fun s H C cl fp => (he s H C cl fp).p) hs,
    so_lc hi.s (hg X.s_0 X.H_0 0 [] []).s (ht X.s_0 X.H_0 0 [] []).s (he X.s_0 X.H_0 0 [] []).s hv⟩
/-- y = [..], y a local -/
theorem ss_setLc (i : Nat) (own : List (Str × Nat)) {y : Str} {py spos : Pos} (hc : X.calm = true) (hN : X.N.Nodup) (hi : SI X tg iter wi ai) (ok : blkC X.N X.env.scope scope own = true)
    (hg : ∀ (s : Shared) (H : Hp) (C : Addr) (cl : List (Str × Addr)) (fp : List Addr), SG (X.blk s H scope (compEnvC scope cl C X.env) fp) tg g ag is)
    (ht : ∀ (s : Shared) (H : Hp) (C : Addr) (cl : List (Str × Addr)) (fp : List Addr), STs (X.blk s H scope (compEnvC scope cl C X.env) fp) ifs tt at_)
    (he : ∀ (s : Shared) (H : Hp) (C : Addr) (cl : List (Str × Addr)) (fp : List Addr), SE (X.blk s H scope (compEnvC scope cl C X.env) fp) elt te ae) (hsw : swapsWith (.ListComp elt [⟨tg, iter, ifs, 0⟩] scope pos) (some (.Name y py)) spos.line X.env = pure true)
    (hv : ∀ i ∈ is, i ∈ own.map (·.2) := by decide) (hy : X.N[i]? = some y := by rfl) (hyl : X.env.scope.names.lookup y = some .local := by rfl) (hs : ∀ x, foldedSetIterable iter X.env x = pure x := by intro _; rfl) :
    SS X (.Assign [.Name y py] (.ListComp elt [⟨tg, iter, ifs, 0⟩] scope pos) spos) (tAsg (tLc wi g tt te (own.map (·.2))) (gName i)) (aSetN i (aLc ai ag at_ ae (own.map (·.2)))) :=
  ⟨ps_setLc hc hN hy hyl hsw hi.p (blkOk_by ok) (fun s H C cl fp => (hg s H C cl fp).p) (fun s H C cl fp => (ht s H C cl fp).p) (fun s H C cl fp => (he s H C cl fp).p) hs,
    so_setN (so_lc hi.s (hg X.s_0 X.H_0 0 [] []).s (ht X.s_0 X.H_0 0 [] []).s (he X.s_0 X.H_0 0 [] []).s hv)⟩
/-- y = [..], never changed -/
theorem ss_setLcF (i : Nat) (own : List (Str × Nat)) {y : Str} {py spos : Pos} (hc : X.calm = true) (hN : X.N.Nodup) (hi : SI X tg iter wi ai) (ok : blkC X.N X.env.scope scope own = true)
    (hg : ∀ (s : Shared) (H : Hp) (C : Addr) (cl : List (Str × Addr)) (fp : List Addr), SG (X.blk s H scope (compEnvC scope cl C X.env) fp) tg g ag is)
    (ht : ∀ (s : Shared) (H : Hp) (C : Addr) (cl : List (Str × Addr)) (fp : List Addr), STs (X.blk s H scope (compEnvC scope cl C X.env) fp) ifs tt at_)
    (he : ∀ (s : Shared) (H : Hp) (C : Addr) (cl : List (Str × Addr)) (fp : List Addr), SE (X.blk s H scope (compEnvC scope cl C X.env) fp) elt te ae) (hsw : swapsWith (.ListComp elt [⟨tg, iter, ifs, 0⟩] scope pos) (some (.Name y py)) spos.line X.env = pure true)
    (hv : ∀ i ∈ is, i ∈ own.map (·.2) := by decide) (hy : X.N[i]? = some y := by rfl) (hyl : X.env.scope.names.lookup y = some .local := by rfl) (hs : ∀ x, foldedSetIterable iter X.env x = pure x := by intro _; rfl) :
    SS X (.Assign [.Name y py] (.ListComp elt [⟨tg, iter, ifs, 0⟩] scope pos) spos) (tAsg (tLc wi g tt te (own.map (·.2))) (gName i)) (aSet i (aOfN (aLc ai ag at_ ae (own.map (·.2))))) :=
  ⟨ps_setLc hc hN hy hyl hsw hi.p (blkOk_by ok) (fun s H C cl fp => (hg s H C cl fp).p) (fun s H C cl fp => (ht s H C cl fp).p) (fun s H C cl fp => (he s H C cl fp).p) hs,
    fun M F0 H0 A σ F H C E rp h k => so_ofN (so_lc hi.s (hg X.s_0 X.H_0 0 [] []).s (ht X.s_0 X.H_0 0 [] []).s (he X.s_0 X.H_0 0 [] []).s hv) M F0 H0 A σ F H _ _ rp h fun d v A1 F1 H1 h1 e1 d1 => k.nx _ _ F1 H1 h1 (e1.rp.set d1) e1.ff⟩
end

/-! ### a def keeps its promise -/
def startA (n : Nat) (ds : List PyData) : Sto := ds.map Slot.fz ++ List.replicate (n - ds.length) Slot.no
def endsD (P : PyData → Prop) : AEnds := { nx := fun _ => P .none, rt := fun d _ => P d }
theorem start_rp {K : PySem.W.Frag} {F H : Hp} {vs : List V} {ds : List PyData} {N : List Str} (e : Same F H) (h : DDs K F vs ds) (hl : ds.length ≤ N.length) : Rp K (fun _ => False) F H (startA N.length ds) (L2.start N vs) F H := by
  have hv := h.len
  refine ⟨fun a o z _ => z, fun a z => z, Same.refl F, e, fun a z _ => z, ?_, fun i s es => ?_, fun i j p o u d1 d2 z _ _ _ => ?_⟩
  · unfold startA L2.start
    rw [List.length_append, List.length_append, List.length_map, List.length_map, List.length_replicate, List.length_replicate, hv]
  · unfold startA at es
    unfold L2.start
    by_cases hi : i < ds.length
    · rw [List.getElem?_append_left (by rw [List.length_map]; exact hi), List.getElem?_map, List.getElem?_eq_getElem hi] at es
      have q : Slot.fz ds[i] = s := Option.some.inj es
      subst q
      obtain ⟨v, e1, e2⟩ := h.get (List.getElem?_eq_getElem hi)
      refine ⟨v, ?_, e2⟩
      rw [List.getElem?_append_left (by rw [List.length_map]; omega), List.getElem?_map, e1]
      rfl
    · rw [List.getElem?_append_right (by rw [List.length_map]; omega)] at es
      have q := List.mem_of_getElem? es
      rw [List.mem_replicate] at q
      rw [q.2]
      trivial
  · exfalso
    unfold startA at z
    have q := List.mem_of_getElem? z
    rcases List.mem_append.mp q with q | q
    · obtain ⟨d, _, e⟩ := List.mem_map.mp q
      cases e
    · rw [List.mem_replicate] at q
      cases q.2
section
variable {P : Program} {w : World} {K : PySem.W.Frag} {mg : Str → Option Value} {base : Heap} {x qual : Str} {params : Arguments} {body : List Stmt} {scope : Scope} {dvs : List V} {kws : List (Str × V)} {f : Addr} {fd : FuncData}
/-- THE RULE for a def over data -/
theorem okD {N ps : List Str} {k : Nat} {R : RC} (F : FunD K x qual params body scope dvs kws f fd) (S : FnScope N ps scope) (hps : ps.length ≤ N.length) (len : ∀ ds P, R ds P → ds.length = ps.length)
    (hb : ∀ (cdv : Value) (A : Around) (outer : List Env) (s : Shared) (H : Hp), Room k (A.deeper (envOfC qual scope s.heap.objs.size f cdv)) →
      ∃ t a, SSs (cxOf CX0 P w K mg base N qual scope f cdv A outer s H E0).nox body t a ∧ ∀ (ds : List PyData) (Pd : PyData → Prop), R ds Pd → a (endsD Pd) (startA N.length ds)) : FnOk P w K mg base CX0 (k + 1) f fd ps (spD K R) := by
  refine F.ok S (fun vs H Q E h => ?_) (fun cdv A outer s H vs Q E hr h => ?_)
  · obtain ⟨F', ds, Pd, _, dd, hR, _⟩ := h
    rw [dd.len]
    exact len ds Pd hR
  · obtain ⟨F', ds, Pd, sf, dd, hR, q⟩ := h
    obtain ⟨t, a, hp, ha⟩ := hb cdv A outer s H hr
    refine ⟨t, hp.p.nox, ?_⟩
    have hl := len ds Pd hR
    refine hp.s (fun _ => False) F' H _ _ F' H (endsD Pd) _ (start_rp sf dd (by omega)) (ha ds Pd hR) ⟨fun A1 σ1 F1 H1 h1 r1 s1 => ?_, fun d v A1 σ1 F1 H1 h1 r1 s1 d1 => ?_, fun _ _ _ _ h1 _ _ => h1.elim, fun _ _ _ _ h1 _ _ => h1.elim⟩
    · exact q .none .non F1 H1 h1 ⟨fun a o z => r1.keep a o z id, s1, r1.sub, r1.new⟩ .non
    · exact q d v F1 H1 h1 ⟨fun a o z => r1.keep a o z id, s1, r1.sub, r1.new⟩ d1
end
end Tk
end
section
set_option Elab.async false
set_option linter.all false
set_option maxRecDepth 100000
set_option maxHeartbeats 4000000
namespace Tk
open PySem PySem.Spec PyProof.Rows L2

def top (i : Nat) : Stmt := PySem.Challenge.pw_flowtokens_k55_whole_come_as_near_as_wis.main.body.getD i (.Pass ⟨0, 0, 0, 0⟩)
abbrev FnT (K : PySem.W.Frag) (x : Str) (st : Stmt) (f : Addr) (fd : FuncData) : Prop := FunD K x x (defArgs st) (defBody st) (defScope st) [] [] f fd
/-- the built-ins that the text uses by name -/
structure Bt (mg : Str → Option Value) : Prop where
  len : mg "len" = none
  abs : mg "abs" = none
  max : mg "max" = none
  min : mg "min" = none
  int_ : mg "int" = none
  int : mg "int" = none
  bool_ : mg "bool" = none
  tuple_ : mg "tuple" = none
  list_ : mg "list" = none
  list : mg "list" = none
  sum : mg "sum" = none
  all : mg "all" = none
  sorted : mg "sorted" = none
  isinstance : mg "isinstance" = none
  range : mg "range" = none
  zip : mg "zip" = none
  enumerate : mg "enumerate" = none
  set : mg "set" = none
  dict : mg "dict" = none
  repr : mg "repr" = none
  valueError : mg "ValueError" = none
/-- a fraction, a list of fractions -/
abbrev fr (x : Rat) : PyData := .tuple [.int x.num, .int (x.den : Int)]
abbrev frs (xs : List Rat) : PyData := .list (xs.map fr)
structure Cst (K : PySem.W.Frag) (mg : Str → Option Value) (aN aO aT aH : Addr) : Prop where
  mN : mg "NOUGHT" = some (.ref aN)
  mO : mg "ONE" = some (.ref aO)
  mT : mg "TWO" = some (.ref aT)
  mH : mg "HALF" = some (.ref aH)
  dN : ∀ F, DD K F (.ref aN) (fr 0)
  dO : ∀ F, DD K F (.ref aO) (fr 1)
  dT : ∀ F, DD K F (.ref aT) (fr 2)
  dH : ∀ F, DD K F (.ref aH) (fr (1/2))
section
variable {X : Cx} {aN aO aT aH : Addr}
theorem Cst.NOUGHT (C : Cst X.K X.mg aN aO aT aH) {pos : Pos} (hg : Gl X "NOUGHT" := by rfl) : SE X (.Name "NOUGHT" pos) (tC (.ref aN)) (aC (fr 0)) := se_glob hg C.mN C.dN
theorem Cst.ONE (C : Cst X.K X.mg aN aO aT aH) {pos : Pos} (hg : Gl X "ONE" := by rfl) : SE X (.Name "ONE" pos) (tC (.ref aO)) (aC (fr 1)) := se_glob hg C.mO C.dO
theorem Cst.TWO (C : Cst X.K X.mg aN aO aT aH) {pos : Pos} (hg : Gl X "TWO" := by rfl) : SE X (.Name "TWO" pos) (tC (.ref aT)) (aC (fr 2)) := se_glob hg C.mT C.dT
theorem Cst.HALF (C : Cst X.K X.mg aN aO aT aH) {pos : Pos} (hg : Gl X "HALF" := by rfl) : SE X (.Name "HALF" pos) (tC (.ref aH)) (aC (fr (1/2))) := se_glob hg C.mH C.dH
/-- a // b: a divisor below 2 ^ 9000 -/
def CFdiv (_ j : Int) : Prop := j ≠ 0 ∧ j.natAbs.log2 < 9000
theorem op_fdivX : OpR X (binaryOp .FloorDiv) (rI CFdiv fun i j => .int (i.fdiv j)) := opI fun i j _ _ _ _ _ hc q => floordiv_int hc.1 q (.inl (PyProof.noPylong_of_log2 hc.2))
abbrev rdFdiv : RD := rdI CFdiv fun i j => .int (i.fdiv j)
theorem se_fdiv {a b : Expr} {ta tb : TE} {aa ab : AE} {pos : Pos} (ha : SE X a ta aa) (hb : SE X b tb ab) : SE X (.BinOp a .FloorDiv b pos) (tOp (rI CFdiv fun i j => .int (i.fdiv j)) ta tb) (aOp rdFdiv aa ab) := se_bin op_fdivX (sor_I fun _ _ _ => .int _) ha hb
end
/-- what is small enough -/
def Sz (n : Int) : Prop := n.natAbs < 2 ^ 4490
def Sm (x : Rat) : Prop := Sz x.num ∧ Sz (x.den : Int)
theorem Sz.mul {i j : Int} (hi : Sz i) (hj : Sz j) : CMulW i j := wide_mul (a := 4490) (b := 4490) hi hj (by decide) (by decide) (by decide)
set_option exponentiation.threshold 10000 in
theorem Sz.fdiv {i j k : Int} (h0 : k ≠ 0) (hi : Sz i) (hj : Sz j) (h : k.natAbs ≤ (i * j).natAbs) : ∀ z, CFdiv z k := fun z => by
  refine ⟨h0, ?_⟩
  have h1 : (i * j).natAbs < 2 ^ (4490 + 4490) := wide_lt hi hj
  exact Nat.lt_of_lt_of_le (PySem.Flt.log2_lt_of (by decide) (Nat.lt_of_le_of_lt h h1)) (by decide)
end Tk
end
section
set_option Elab.async false
set_option linter.all false
set_option maxRecDepth 100000
set_option maxHeartbeats 4000000
set_option exponentiation.threshold 10000
namespace Tk
open PySem PySem.Spec PyProof.Rows L2
/-! ### the head: what is asked of it -/
def dd13 : He.DefD := ⟨("is_whole", none), "is_whole", "is_whole", defArgs (top 13), defBody (top 13), defScope (top 13), [], []⟩
def dd14 : He.DefD := ⟨("divisor", none), "divisor", "divisor", defArgs (top 14), defBody (top 14), defScope (top 14), [], []⟩
def dd15 : He.DefD := ⟨("fraction", none), "fraction", "fraction", defArgs (top 15), defBody (top 15), defScope (top 15), [.int 1], []⟩
def dd16 : He.DefD := ⟨("added", none), "added", "added", defArgs (top 16), defBody (top 16), defScope (top 16), [], []⟩
def dd17 : He.DefD := ⟨("lessened", none), "lessened", "lessened", defArgs (top 17), defBody (top 17), defScope (top 17), [], []⟩
def dd18 : He.DefD := ⟨("timed", none), "timed", "timed", defArgs (top 18), defBody (top 18), defScope (top 18), [], []⟩
def dd19 : He.DefD := ⟨("divided", none), "divided", "divided", defArgs (top 19), defBody (top 19), defScope (top 19), [], []⟩
def dd20 : He.DefD := ⟨("is_less", none), "is_less", "is_less", defArgs (top 20), defBody (top 20), defScope (top 20), [], []⟩
def dd21 : He.DefD := ⟨("ceiling", none), "ceiling", "ceiling", defArgs (top 21), defBody (top 21), defScope (top 21), [], []⟩
def dd22 : He.DefD := ⟨("weighed", none), "weighed", "weighed", defArgs (top 22), defBody (top 22), defScope (top 22), [], []⟩
def dd23 : He.DefD := ⟨("summed", none), "summed", "summed", defArgs (top 23), defBody (top 23), defScope (top 23), [], []⟩
def dd24 : He.DefD := ⟨("apart", none), "apart", "apart", defArgs (top 24), defBody (top 24), defScope (top 24), [], []⟩
def dd25 : He.DefD := ⟨("scaled", none), "scaled", "scaled", defArgs (top 25), defBody (top 25), defScope (top 25), [], []⟩
def dd27 : He.DefD := ⟨("scale_of", none), "scale_of", "scale_of", defArgs (top 27), defBody (top 27), defScope (top 27), [], []⟩
def dd29 : He.DefD := ⟨("balance", none), "balance", "balance", defArgs (top 29), defBody (top 29), defScope (top 29), [], []⟩
def dd31 : He.DefD := ⟨("change_of", none), "change_of", "change_of", defArgs (top 31), defBody (top 31), defScope (top 31), [], []⟩
def dd32 : He.DefD := ⟨("changes_of", none), "changes_of", "changes_of", defArgs (top 32), defBody (top 32), defScope (top 32), [], []⟩
def dd33 : He.DefD := ⟨("change_by", none), "change_by", "change_by", defArgs (top 33), defBody (top 33), defScope (top 33), [], []⟩
def dd34 : He.DefD := ⟨("done", none), "done", "done", defArgs (top 34), defBody (top 34), defScope (top 34), [], []⟩
def dd35 : He.DefD := ⟨("most_of", none), "most_of", "most_of", defArgs (top 35), defBody (top 35), defScope (top 35), [], []⟩
def dd36 : He.DefD := ⟨("wet_in", none), "wet_in", "wet_in", defArgs (top 36), defBody (top 36), defScope (top 36), [], []⟩
def dd37 : He.DefD := ⟨("takes_from", none), "takes_from", "takes_from", defArgs (top 37), defBody (top 37), defScope (top 37), [], []⟩
def dd38 : He.DefD := ⟨("gives_to", none), "gives_to", "gives_to", defArgs (top 38), defBody (top 38), defScope (top 38), [], []⟩
def dd40 : He.DefD := ⟨("change_of_steps", none), "change_of_steps", "change_of_steps", defArgs (top 40), defBody (top 40), defScope (top 40), [], []⟩
def dd41 : He.DefD := ⟨("first_lack", none), "first_lack", "first_lack", defArgs (top 41), defBody (top 41), defScope (top 41), [], []⟩
def dd42 : He.DefD := ⟨("lacks_in", none), "lacks_in", "lacks_in", defArgs (top 42), defBody (top 42), defScope (top 42), [], []⟩
def dd43 : He.DefD := ⟨("walk", none), "walk", "walk", defArgs (top 43), defBody (top 43), defScope (top 43), [], []⟩
def dd45 : He.DefD := ⟨("times", none), "times", "times", defArgs (top 45), defBody (top 45), defScope (top 45), [], []⟩
def dd48 : He.DefD := ⟨("in_turn", none), "in_turn", "in_turn", defArgs (top 48), defBody (top 48), defScope (top 48), [], []⟩
def dd49 : He.DefD := ⟨("can_be", none), "can_be", "can_be", defArgs (top 49), defBody (top 49), defScope (top 49), [], []⟩
def dd50 : He.DefD := ⟨("wetting", none), "wetting", "wetting", defArgs (top 50), defBody (top 50), defScope (top 50), [], []⟩
def dd52 : He.DefD := ⟨("left_out", none), "left_out", "left_out", defArgs (top 52), defBody (top 52), defScope (top 52), [], []⟩
def dd53 : He.DefD := ⟨("done_deeds", none), "done_deeds", "done_deeds", defArgs (top 53), defBody (top 53), defScope (top 53), [], []⟩
def dd54 : He.DefD := ⟨("rounds_for", none), "rounds_for", "rounds_for", defArgs (top 54), defBody (top 54), defScope (top 54), [], []⟩
def dd55 : He.DefD := ⟨("middle_turn", none), "middle_turn", "middle_turn", defArgs (top 55), defBody (top 55), defScope (top 55), [], []⟩
def dd58 : He.DefD := ⟨("near", none), "near", "near", defArgs (top 58), defBody (top 58), defScope (top 58), [], []⟩
def dd59 : He.DefD := ⟨("share_of_way", none), "share_of_way", "share_of_way", defArgs (top 59), defBody (top 59), defScope (top 59), [], []⟩
def dd60 : He.DefD := ⟨("smaller", none), "smaller", "smaller", defArgs (top 60), defBody (top 60), defScope (top 60), [], []⟩
def dd61 : He.DefD := ⟨("approach", none), "approach", "approach", defArgs (top 61), defBody (top 61), defScope (top 61), [], []⟩
def dd63 : He.DefD := ⟨("_law_room", none), "_law_room", "_law_room", defArgs (top 63), defBody (top 63), defScope (top 63), [], []⟩
def dd64 : He.DefD := ⟨("_law_take", none), "_law_take", "_law_take", defArgs (top 64), defBody (top 64), defScope (top 64), [], []⟩
def dd65 : He.DefD := ⟨("_law_lowest", none), "_law_lowest", "_law_lowest", defArgs (top 65), defBody (top 65), defScope (top 65), [], []⟩
def dd66 : He.DefD := ⟨("_law_sum", none), "_law_sum", "_law_sum", defArgs (top 66), defBody (top 66), defScope (top 66), [], []⟩
def dd67 : He.DefD := ⟨("_law_times", none), "_law_times", "_law_times", defArgs (top 67), defBody (top 67), defScope (top 67), [], []⟩
def dd68 : He.DefD := ⟨("_law_less", none), "_law_less", "_law_less", defArgs (top 68), defBody (top 68), defScope (top 68), [], []⟩
def dd69 : He.DefD := ⟨("_law_whole", none), "_law_whole", "_law_whole", defArgs (top 69), defBody (top 69), defScope (top 69), [], []⟩
def dd70 : He.DefD := ⟨("_law_is_fraction", none), "_law_is_fraction", "_law_is_fraction", defArgs (top 70), defBody (top 70), defScope (top 70), [], []⟩
def dd71 : He.DefD := ⟨("_law_is_refusal", none), "_law_is_refusal", "_law_is_refusal", defArgs (top 71), defBody (top 71), defScope (top 71), [], []⟩
def dd72 : He.DefD := ⟨("_law_amount", none), "_law_amount", "_law_amount", defArgs (top 72), defBody (top 72), defScope (top 72), [], []⟩
def dd73 : He.DefD := ⟨("_law_side", none), "_law_side", "_law_side", defArgs (top 73), defBody (top 73), defScope (top 73), [], []⟩
def dd74 : He.DefD := ⟨("_law_deed", none), "_law_deed", "_law_deed", defArgs (top 74), defBody (top 74), defScope (top 74), [], []⟩
def dd75 : He.DefD := ⟨("_law_lack", none), "_law_lack", "_law_lack", defArgs (top 75), defBody (top 75), defScope (top 75), [], []⟩
def dd76 : He.DefD := ⟨("_law_behind", none), "_law_behind", "_law_behind", defArgs (top 76), defBody (top 76), defScope (top 76), [], []⟩
def dd77 : He.DefD := ⟨("_law_rich", none), "_law_rich", "_law_rich", defArgs (top 77), defBody (top 77), defScope (top 77), [], []⟩
def dd78 : He.DefD := ⟨("_law_gain", none), "_law_gain", "_law_gain", defArgs (top 78), defBody (top 78), defScope (top 78), [], []⟩
def dd79 : He.DefD := ⟨("_law_after", none), "_law_after", "_law_after", defArgs (top 79), defBody (top 79), defScope (top 79), [], []⟩
def dd80 : He.DefD := ⟨("_law_can", none), "_law_can", "_law_can", defArgs (top 80), defBody (top 80), defScope (top 80), [], []⟩
def dd81 : He.DefD := ⟨("_law_is_turn", none), "_law_is_turn", "_law_is_turn", defArgs (top 81), defBody (top 81), defScope (top 81), [], []⟩
def dd82 : He.DefD := ⟨("_law_end_of", none), "_law_end_of", "_law_end_of", defArgs (top 82), defBody (top 82), defScope (top 82), [], []⟩
def dd83 : He.DefD := ⟨("_law_is_short", none), "_law_is_short", "_law_is_short", defArgs (top 83), defBody (top 83), defScope (top 83), [], []⟩
def dd84 : He.DefD := ⟨("_law_weighed", none), "_law_weighed", "_law_weighed", defArgs (top 84), defBody (top 84), defScope (top 84), [], []⟩
def dd85 : He.DefD := ⟨("_law_change", none), "_law_change", "_law_change", defArgs (top 85), defBody (top 85), defScope (top 85), [], []⟩
def dd86 : He.DefD := ⟨("_law_gap", none), "_law_gap", "_law_gap", defArgs (top 86), defBody (top 86), defScope (top 86), [], []⟩
def dd87 : He.DefD := ⟨("_law_by_places", none), "_law_by_places", "_law_by_places", defArgs (top 87), defBody (top 87), defScope (top 87), [], []⟩
def dd88 : He.DefD := ⟨("_law_wet", none), "_law_wet", "_law_wet", defArgs (top 88), defBody (top 88), defScope (top 88), [], []⟩
def dd89 : He.DefD := ⟨("_law_end_by", none), "_law_end_by", "_law_end_by", defArgs (top 89), defBody (top 89), defScope (top 89), [], []⟩
def dd90 : He.DefD := ⟨("_law_is_far", none), "_law_is_far", "_law_is_far", defArgs (top 90), defBody (top 90), defScope (top 90), [], []⟩
def dd91 : He.DefD := ⟨("_law_is_near", none), "_law_is_near", "_law_is_near", defArgs (top 91), defBody (top 91), defScope (top 91), [], []⟩
def dd92 : He.DefD := ⟨("_law_nearness", none), "_law_nearness", "_law_nearness", defArgs (top 92), defBody (top 92), defScope (top 92), [], []⟩
def dd93 : He.DefD := ⟨("_law_net", none), "_law_net", "_law_net", defArgs (top 93), defBody (top 93), defScope (top 93), [], []⟩
def dd94 : He.DefD := ⟨("_law_ends", none), "_law_ends", "_law_ends", defArgs (top 94), defBody (top 94), defScope (top 94), [], []⟩
def dd95 : He.DefD := ⟨("_law_told", none), "_law_told", "_law_told", defArgs (top 95), defBody (top 95), defScope (top 95), [], []⟩
def dd96 : He.DefD := ⟨("_law_comes", none), "_law_comes", "_law_comes", defArgs (top 96), defBody (top 96), defScope (top 96), [], []⟩
def dd97 : He.DefD := ⟨("law", none), "law", "law", defArgs (top 97), defBody (top 97), defScope (top 97), [], []⟩
def dm0 : He.DefD := ⟨("Lines", some "__init__"), "__init__", "Lines.__init__", defArgs (inClass (top 28) 0), defBody (inClass (top 28) 0), defScope (inClass (top 28) 0), [], []⟩
def dm1 : He.DefD := ⟨("Lines", some "coming"), "coming", "Lines.coming", defArgs (inClass (top 28) 1), defBody (inClass (top 28) 1), defScope (inClass (top 28) 1), [], []⟩
def dm2 : He.DefD := ⟨("Lines", some "going"), "going", "Lines.going", defArgs (inClass (top 28) 2), defBody (inClass (top 28) 2), defScope (inClass (top 28) 2), [], []⟩
def dm3 : He.DefD := ⟨("Lines", some "exchanged"), "exchanged", "Lines.exchanged", defArgs (inClass (top 28) 3), defBody (inClass (top 28) 3), defScope (inClass (top 28) 3), [], []⟩
def dm4 : He.DefD := ⟨("Lines", some "exchange"), "exchange", "Lines.exchange", defArgs (inClass (top 28) 4), defBody (inClass (top 28) 4), defScope (inClass (top 28) 4), [], []⟩
def dm5 : He.DefD := ⟨("Lines", some "shares_told"), "shares_told", "Lines.shares_told", defArgs (inClass (top 28) 5), defBody (inClass (top 28) 5), defScope (inClass (top 28) 5), [], []⟩
def dm6 : He.DefD := ⟨("Lines", some "weights_told"), "weights_told", "Lines.weights_told", defArgs (inClass (top 28) 6), defBody (inClass (top 28) 6), defScope (inClass (top 28) 6), [], []⟩
def df0 : He.DefD := ⟨("Far", some "__init__"), "__init__", "Far.__init__", defArgs (inClass (top 8) 0), defBody (inClass (top 8) 0), defScope (inClass (top 8) 0), [], []⟩
def hfn0 : List He.DefD := [dd13, dd14, dd15, dd16, dd17, dd18, dd19, dd20, dd21, dd22, dd23, dd24]
def hfn1 : List He.DefD := [dd25, dd27, dd29, dd31, dd32, dd33, dd34, dd35, dd36, dd37, dd38, dd40]
def hfn2 : List He.DefD := [dd41, dd42, dd43, dd45, dd48, dd49, dd50, dd52, dd53, dd54, dd55, dd58]
def hfn3 : List He.DefD := [dd59, dd60, dd61, dd63, dd64, dd65, dd66, dd67, dd68, dd69, dd70, dd71]
def hfn4 : List He.DefD := [dd72, dd73, dd74, dd75, dd76, dd77, dd78, dd79, dd80, dd81, dd82, dd83]
def hfn5 : List He.DefD := [dd84, dd85, dd86, dd87, dd88, dd89, dd90, dd91, dd92, dd93, dd94, dd95]
def hfn6 : List He.DefD := [dd96, dd97, dm0, dm1, dm2, dm3, dm4, dm5, dm6, df0]
def hfn : List He.DefD := hfn0 ++ hfn1 ++ hfn2 ++ hfn3 ++ hfn4 ++ hfn5 ++ hfn6
def hfa0 : List He.Fa := [.glo "is_whole", .glo "divisor", .glo "fraction", .glo "added", .glo "lessened", .glo "timed", .glo "divided", .glo "is_less", .glo "ceiling", .glo "weighed", .glo "summed", .glo "apart", .glo "scaled", .glo "scale_of", .glo "balance"]
def hfa1 : List He.Fa := [.glo "change_of", .glo "changes_of", .glo "change_by", .glo "done", .glo "most_of", .glo "wet_in", .glo "takes_from", .glo "gives_to", .glo "change_of_steps", .glo "first_lack", .glo "lacks_in", .glo "walk", .glo "times", .glo "in_turn", .glo "can_be"]
def hfa2 : List He.Fa := [.glo "wetting", .glo "left_out", .glo "done_deeds", .glo "rounds_for", .glo "middle_turn", .glo "near", .glo "share_of_way", .glo "smaller", .glo "approach", .glo "_law_room", .glo "_law_take", .glo "_law_lowest", .glo "_law_sum", .glo "_law_times", .glo "_law_less"]
def hfa3 : List He.Fa := [.glo "_law_whole", .glo "_law_is_fraction", .glo "_law_is_refusal", .glo "_law_amount", .glo "_law_side", .glo "_law_deed", .glo "_law_lack", .glo "_law_behind", .glo "_law_rich", .glo "_law_gain", .glo "_law_after", .glo "_law_can", .glo "_law_is_turn", .glo "_law_end_of", .glo "_law_is_short"]
def hfa4 : List He.Fa := [.glo "_law_weighed", .glo "_law_change", .glo "_law_gap", .glo "_law_by_places", .glo "_law_wet", .glo "_law_end_by", .glo "_law_is_far", .glo "_law_is_near", .glo "_law_nearness", .glo "_law_net", .glo "_law_ends", .glo "_law_told", .glo "_law_comes", .glo "law", .glo "TokenError"]
def hfa5 : List He.Fa := [.glo "NoNumber", .glo "TooMany", .glo "NoText", .glo "NoName", .glo "NoRun", .glo "Dry", .glo "Far", .glo "Barred", .glo "Lines", .glo "NOUGHT", .glo "ONE", .glo "TWO", .glo "HALF", .free "len", .free "abs"]
def hfa6 : List He.Fa := [.free "max", .free "min", .free "int", .free "bool", .free "tuple", .free "list", .free "sum", .free "all", .free "sorted", .free "isinstance", .free "range", .free "zip", .free "enumerate", .free "set", .free "dict"]
def hfa7 : List He.Fa := [.free "repr", .free "ValueError", .cls "Lines", .noat "Lines" "many", .noat "Lines" "scales", .noat "Lines" "rows", .noat "Lines" "base", .noat "Lines" "by", .noat "Lines" "costs", .meth "Lines" "coming", .meth "Lines" "going", .meth "Lines" "exchanged", .meth "Lines" "exchange", .meth "Lines" "shares_told", .meth "Lines" "weights_told"]
def hfa8 : List He.Fa := [.mkr "Lines", .noat "Far" "places", .noat "Far" "weights", .exm "Far" "TokenError" true]
def hfa : List He.Fa := hfa0 ++ hfa1 ++ hfa2 ++ hfa3 ++ hfa4 ++ hfa5 ++ hfa6 ++ hfa7 ++ hfa8
def hnames0 : List PySem.Str := ["TokenError", "NoNumber", "TooMany", "NoText", "NoName", "NoRun", "Dry", "Far", "Barred", "NOUGHT", "ONE", "is_whole", "divisor", "fraction", "added"]
def hnames1 : List PySem.Str := ["lessened", "timed", "divided", "is_less", "ceiling", "weighed", "summed", "apart", "scaled", "scale_of", "Lines", "balance", "change_of", "changes_of", "change_by"]
def hnames2 : List PySem.Str := ["done", "most_of", "wet_in", "takes_from", "gives_to", "change_of_steps", "first_lack", "lacks_in", "walk", "times", "TWO", "in_turn", "can_be", "wetting", "left_out"]
def hnames3 : List PySem.Str := ["done_deeds", "rounds_for", "middle_turn", "HALF", "near", "share_of_way", "smaller", "approach", "_law_room", "_law_take", "_law_lowest", "_law_sum", "_law_times", "_law_less", "_law_whole"]
def hnames4 : List PySem.Str := ["_law_is_fraction", "_law_is_refusal", "_law_amount", "_law_side", "_law_deed", "_law_lack", "_law_behind", "_law_rich", "_law_gain", "_law_after", "_law_can", "_law_is_turn", "_law_end_of", "_law_is_short", "_law_weighed"]
def hnames5 : List PySem.Str := ["_law_change", "_law_gap", "_law_by_places", "_law_wet", "_law_end_by", "_law_is_far", "_law_is_near", "_law_nearness", "_law_net", "_law_ends", "_law_told", "_law_comes"]
def hnames : List PySem.Str := hnames0 ++ hnames1 ++ hnames2 ++ hnames3 ++ hnames4 ++ hnames5
/-- an own exception class with a dict, over ValueError -/
def oexB (K : PySem.W.Frag) (C : Addr) : Bool := match K.lookup C with
  | some ⟨.type t, _, .cls cd, sl⟩ => decide (t = "type") && (match cd.mro, sl.toList with
    | .ref C' :: bm, [_, _, _, _, some (.builtin n), _] => decide (C' = C) && (decide (n = "ValueError.__new__") && (!cd.hasDel && (cd.hasDict && PySem.HandSPX.refsVE bm)))
    | _, _ => false)
  | _ => false
def iniB (K : PySem.W.Frag) (C : Addr) : Bool := match PySem.W.findCls K (.ref C) (.type "type") "__init__" with
  | some (.val (.builtin n)) => decide (n = "ValueError.__init__")
  | _ => false
def kitB' (K : PySem.W.Frag) (x : Str) (b : Bool) : Bool := decide (PySem.W.kitOne K (.ref (He.ga K "Far")) (.ref (He.ga K x)) = some b)
/-- more facts -/
def hex (K : PySem.W.Frag) : List Bool := [
  He.tupB K "NOUGHT" [.int 0, .int 1], He.tupB K "ONE" [.int 1, .int 1], He.tupB K "TWO" [.int 2, .int 1], He.tupB K "HALF" [.int 1, .int 2],
  oexB K (He.ga K "Far"), He.eqO (PySem.W.findIn K (.ref (He.ga K "Far")) "__setattr__") (some (some (.builtin "object.__setattr__"))), decide (PySem.W.subIn K (.ref (He.ga K "Far")) (.type "BaseException") = some true), decide (PySem.W.typeIn K (.ref (He.ga K "Far")) = some (.type "type")), PySem.W.keepIn K (.ref (He.ga K "Far")),
  decide (PySem.W.typeIn K (.ref (He.ga K "TokenError")) = some (.type "type")), PySem.W.readsIn K (He.ga K "TokenError") (.type "type"), He.eqO (PySem.W.specialIn K (.ref (He.ga K "TokenError")) "__getattribute__") (some (some (.builtin "type.__getattribute__"))), iniB K (He.ga K "TokenError")]
def hex2 (K : PySem.W.Frag) : List Bool := [
  xfB K (He.ga K "Far"), He.eqO (PySem.W.findIn K (.ref (He.ga K "Far")) "__class__") (some (some (.builtin "object.__class__"))), He.eqO (PySem.W.specialIn K (.builtin "object.__class__") "__get__") (some (some (.builtin "getset_descriptor.__get__"))), decide (PySem.W.takesIn K (.builtin "object.__class__") = some true), decide (PySem.W.mroIn K (He.ga K "Far") (.type "object") = some true),
  kitB' K "NoNumber" false, kitB' K "TooMany" false, kitB' K "Dry" false, kitB' K "Far" true, kitB' K "Barred" false, kitB' K "NoText" false, kitB' K "NoRun" false, kitB' K "NoName" false, decide (PySem.W.kitOne K (.ref (He.ga K "Far")) (.type "ValueError") = some true)]
def hex3 (K : PySem.W.Frag) : List Bool := [He.eqO (PySem.W.findIn K (.ref (He.ga K "Far")) "__init__") (some (some (.ref (He.ma K (He.ga K "Far") "__init__")))), decide (PySem.W.typeIn K (.ref (He.ma K (He.ga K "Far") "__init__")) = some (.type "function"))]
def hexB (K : PySem.W.Frag) : Bool := (hex K).all id && ((hex2 K).all id && (hex3 K).all id)
end Tk
end
section
set_option Elab.async false
set_option linter.all false
set_option maxRecDepth 100000
set_option maxHeartbeats 0
set_option exponentiation.threshold 10000
namespace Tk
open PySem PySem.Spec PyProof.Rows L2
/-! ### the head's run -/
abbrev R : PySem.W.OpenRow := PySem.W.OpenLaw.row PySem.Challenge.rw_flowtokens_k55_whole_come_as_near_as_wis
/-- the places of what is looked at: the globals, the defs and classes with their code objects, the dicts of the classes, the methods -/
def asM0 : List Addr := [2, 3, 6, 4, 24, 37, 49, 61, 73, 85, 104, 123, 142, 145, 146, 153, 160, 168, 175, 182]
def asM1 : List Addr := [189, 196, 203, 210, 217, 222, 227, 232, 239, 294, 305, 312, 317, 322, 329, 336, 341, 346, 351, 358]
def asM2 : List Addr := [365, 372, 377, 382, 383, 388, 395, 402, 407, 412, 419, 424, 425, 430, 437, 444, 451, 458, 465, 472]
def asM3 : List Addr := [479, 486, 493, 500, 507, 512, 519, 524, 531, 538, 545, 550, 557, 562, 569, 576, 583, 588, 595, 602]
def asM4 : List Addr := [607, 612, 617, 624, 629, 634, 641, 646, 651, 658, 665, 672, 0, 23, 36, 48, 60, 72, 84, 103]
def asM5 : List Addr := [122, 141, 152, 159, 167, 161, 174, 181, 188, 195, 202, 209, 216, 221, 226, 231, 238, 293, 304, 311]
def asM6 : List Addr := [316, 321, 328, 335, 340, 345, 350, 357, 364, 371, 376, 381, 387, 394, 401, 406, 411, 418, 423, 429]
def asM7 : List Addr := [436, 443, 450, 457, 464, 471, 478, 485, 492, 499, 506, 511, 518, 523, 530, 537, 544, 549, 556, 561]
def asM8 : List Addr := [568, 575, 582, 587, 594, 601, 606, 611, 616, 623, 628, 633, 640, 645, 650, 657, 664, 671, 22, 25]
def asM9 : List Addr := [35, 47, 59, 71, 83, 101, 102, 120, 121, 139, 140, 251, 258, 265, 270, 277, 284, 291, 292, 100]
def asM10 : List Addr := [119, 138, 250, 257, 264, 269, 276, 283, 290, 95, 96, 97, 98, 99, 114, 115, 116, 117, 118, 133]
def asM11 : List Addr := [134, 135, 136, 137, 247, 248, 249, 252, 253, 254, 255, 256, 259, 260, 261, 262, 263, 266, 267, 268]
def asM12 : List Addr := [271, 272, 273, 274, 275, 278, 279, 280, 281, 282, 285, 286, 287, 288, 289]
def asM : List Addr := asM0 ++ asM1 ++ asM2 ++ asM3 ++ asM4 ++ asM5 ++ asM6 ++ asM7 ++ asM8 ++ asM9 ++ asM10 ++ asM11 ++ asM12
def kM (g : Addr → Option Obj) : PySem.W.Frag := He.frG g asM
abbrev AlM : Type := He.AlD × Bool
def obsM (g : Addr → Option Obj) : AlM := (He.obsD hfa hfn (kM g), hexB (kM g))
def hookM : PySem.W.Hook where
  α := AlM
  obs := fun s => obsM s.heap.get?
  val := fun _ => (He.valD hfn, true)
  says := fun _ h => ∃ K : PySem.W.Frag, K.In h ∧ He.SaysD hfa hfn K ∧ hexB K = true
  of := fun _ _ e => ⟨_, He.frG_in, congrArg (fun z : AlM => z.1) e, congrArg (fun z : AlM => z.2) e⟩
  keeps := fun _ _ _ ⟨K, hK, c⟩ k => ⟨K, PySem.W.Frag.In.keeps hK k, c⟩
def obM (s : PySem.W.SharedT) : AlM := obsM (HandSHeadRun.getT s)
theorem obM_eq (s : PySem.W.SharedT) : obM s = hookM.obs s.abs := by
  have e : HandSHeadRun.getT s = s.abs.heap.get? := funext fun a => HandSHeadRun.getT_eq s a
  unfold obM
  rw [e]
  rfl
theorem run (w : World) : HandSHeadRun.RunEq R (PySem.W.view R.prog [97]) hookM obM 6000 hnames w := by
  intro os
  kernel_rfl
end Tk
end
section
set_option Elab.async false
set_option linter.all false
set_option maxRecDepth 100000
set_option maxHeartbeats 4000000
namespace Tk
open PySem PySem.Spec PyProof.Rows L2
section
variable {P : Program} {w : World} {K : PySem.W.Frag} {mg : Str → Option Value} {base : Heap} {f : Addr} {fd : FuncData}
/-! is_whole -/
def RIsWhole : RC := fun ds Q => ∃ a : Int, ds = [.int a] ∧ Q (.bool true)
theorem sc_is_whole : FnScope ["thing"] ["thing"] (defScope (top 13)) := ⟨rfl, rfl, rfl, by decide +kernel, rfl, by decide +kernel, by decide +kernel⟩
theorem ok_is_whole (F : FnT K "is_whole" (top 13) f fd) (B : Bt mg) : FnOk P w K mg base CX0 1 f fd ["thing"] (spD K RIsWhole) := by
  refine okD F sc_is_whole (by decide) (fun ds Q h => ?_) (fun cdv A outer s H hr => ?_)
  · obtain ⟨a, rfl, _⟩ := h
    rfl
  · refine ⟨_, _, (sss_one (ss_ret (se_and (se_isi (T := "int") B.isinstance B.int_ (sv 0)) (se_one (se_not (se_isi (T := "bool") B.isinstance B.bool_ (sv 0))))))), fun ds Q h => ?_⟩
    obtain ⟨a, rfl, hQ⟩ := h
    refine ⟨_, rfl, _, (by decide +kernel : kitB "int" "int" = some true), _, rfl, ?_⟩
    refine iteT ?_
    exact ⟨_, rfl, _, (by decide +kernel : kitB "int" "bool" = some false), _, rfl, hQ⟩
/-! divisor -/
def RDivisor : RC := fun ds Q => ∃ a b : Int, ds = [.int a, .int b] ∧ Q (.int (Int.gcd a b))
theorem sc_divisor : FnScope ["one", "other"] ["one", "other"] (defScope (top 14)) := ⟨rfl, rfl, rfl, by decide +kernel, rfl, by decide +kernel, by decide +kernel⟩
theorem abs_eq (a : Int) : (if a < 0 then -a else a) = (a.natAbs : Int) := by omega
theorem ok_divisor (F : FnT K "divisor" (top 14) f fd) (B : Bt mg) : FnOk P w K mg base CX0 1 f fd ["one", "other"] (spD K RDivisor) := by
  have nd := sc_divisor.nd
  refine okD F sc_divisor (by decide) (fun ds Q h => ?_) (fun cdv A outer s H hr => ?_)
  · obtain ⟨a, b, rfl, _⟩ := h
    rfl
  · refine ⟨_, _, (sss_cons (ss_set 0 nd (se_callB call_abs soc_abs B.abs (sa_cons (sv 0) sa_nil)))
      (sss_cons (ss_set 1 nd (se_callB call_abs soc_abs B.abs (sa_cons (sv 1) sa_nil)))
      (sss_cons (ss_while PassesOwn.never (st_gt (sv 1) se_int)
      (sss_one (ss_par 0 1 rfl nd (sa_cons (sv 1) (sa_cons (se_mod (sv 0) (sv 1)) sa_nil)))))
      (sss_one (ss_ret (sv 0)))))), fun ds Q h => ?_⟩
    obtain ⟨a, b, rfl, hQ⟩ := h
    refine ⟨_, rfl, _, rfl, _, rfl, _, rfl, ?_⟩
    refine ⟨fun m A => ∃ x y : Nat, A = [.fz (.int x), .fz (.int y)] ∧ x.gcd y = a.gcd b ∧ m = y, ⟨b.natAbs, a.natAbs, b.natAbs, ?_, rfl, rfl⟩, ?_⟩
    · rw [abs_eq, abs_eq] <;> rfl
    · rintro y A ⟨x, _, rfl, hg, rfl⟩
      refine ⟨_, rfl, _, _, rfl, rfl, _, rfl, ?_⟩
      refine ite2 (fun h => ?_) (fun h => ?_)
      · have hy : 0 < y := by
          have := of_decide_eq_true h
          omega
        refine ⟨_, rfl, _, rfl, _, rfl, _, _, rfl, rfl, by omega, _, _, rfl, x % y, Nat.mod_lt _ hy, y, x % y, ?_, ?_, rfl⟩
        · show [Slot.fz (.int y), Slot.fz (.int ((x : Int).fmod (y : Int)))] = _
          rw [fmod_nat] <;> rfl
        · rw [← hg, Nat.gcd_comm x y]
          exact (Nat.gcd_rec y x).symm ▸ Nat.gcd_comm _ _
      · have hy : y = 0 := by
          have : ¬ (0 < (y : Int)) := fun z => h (decide_eq_true z)
          omega
        subst hy
        refine ⟨_, rfl, ?_⟩
        rw [Nat.gcd_zero_right] at hg
        rw [hg]
        exact hQ
/-! fraction -/
def RFraction : RC := fun ds Q => ∃ a b : Int, ds = [.int a, .int b] ∧ b ≠ 0 ∧ (∀ z g : Int, g ≠ 0 → g.natAbs = Int.gcd a b → CFdiv z g) ∧ Q (fr (Rat.divInt a b))
theorem sc_fraction : FnScope ["top", "bottom", "part"] ["top", "bottom"] (defScope (top 15)) := ⟨rfl, rfl, rfl, by decide +kernel, rfl, by decide +kernel, by decide +kernel⟩
theorem ok_fraction (F : FunD K "fraction" "fraction" (defArgs (top 15)) (defBody (top 15)) (defScope (top 15)) [.int 1] [] f fd) (B : Bt mg) (g_is_whole : Fn P w K mg base "is_whole" 1 (spD K RIsWhole)) (g_divisor : Fn P w K mg base "divisor" 1 (spD K RDivisor)) : FnOk P w K mg base CX0 2 f fd ["top", "bottom"] (spD K RFraction) := by
  have nd := sc_fraction.nd
  refine okD F sc_fraction (by decide) (fun ds Q h => ?_) (fun cdv A outer s H hr => ?_)
  · obtain ⟨a, b, rfl, _⟩ := h
    rfl
  · refine ⟨_, _, (sss_cons (ss_if (sw_or (st_not (st_val (se_call g_is_whole hr (sa_cons (sv 0) sa_nil)))) (sw_or (st_not (st_val (se_call g_is_whole hr (sa_cons (sv 1) sa_nil)))) (sw_or1 (st_eq (sv 1) se_int)))).t (sss_one ss_never) sss_nil)
      (sss_cons (ss_set 2 nd (se_call g_divisor hr (sa_cons (sv 0) (sa_cons (sv 1) sa_nil))))
      (sss_cons (ss_if (st_lt (sv 1) se_int) (sss_one (ss_set 2 nd (se_sub se_int (sv 2)))) sss_nil)
      (sss_one (ss_ret (se_tup (sa_cons (se_fdiv (sv 0) (sv 2)) (sa_cons (se_fdiv (sv 1) (sv 2)) sa_nil)))))))), fun ds Q h => ?_⟩
    obtain ⟨a, b, rfl, hb, hz, hQ⟩ := h
    have hg := gcd_pos_of (a := a) hb
    refine ⟨_, rfl, _, rfl, _, rfl, ?_⟩
    refine iteF ?_
    refine ⟨_, rfl, _, rfl, _, rfl, ?_⟩
    refine iteF ?_
    refine ⟨_, rfl, _, rfl, _, rfl, ?_⟩
    rw [decide_eq_false hb]
    refine iteF ?_
    refine ⟨_, rfl, _, rfl, a, b, rfl, ?_⟩
    refine ⟨_, rfl, b, 0, rfl, rfl, _, rfl, ?_⟩
    refine ite2 (fun h => ?_) (fun h => ?_)
    · have h : b < 0 := of_decide_eq_true h
      refine ⟨_, rfl, 0, _, rfl, rfl, ?_⟩
      refine ⟨_, rfl, _, rfl, _, _, rfl, rfl, hz _ _ (by omega) (by omega), _, rfl, _, rfl, _, _, rfl, rfl, hz _ _ (by omega) (by omega), (by show (2 : Nat) ≤ 1000; decide), ?_⟩
      obtain ⟨h1, h2⟩ := divInt_neg (a := a) h
      show Q (.tuple [.int (a.fdiv (0 - (Int.gcd a b : Int))), .int (b.fdiv (0 - (Int.gcd a b : Int)))])
      rw [← h1, ← h2]
      exact hQ
    · have h : 0 < b := by
        have : ¬ b < 0 := fun z => h (decide_eq_true z)
        omega
      refine ⟨_, rfl, _, rfl, _, _, rfl, rfl, hz _ _ (by omega) (by omega), _, rfl, _, rfl, _, _, rfl, rfl, hz _ _ (by omega) (by omega), (by show (2 : Nat) ≤ 1000; decide), ?_⟩
      obtain ⟨h1, h2⟩ := divInt_pos (a := a) h
      show Q (.tuple [.int (a.fdiv (Int.gcd a b : Int)), .int (b.fdiv (Int.gcd a b : Int))])
      rw [← h1, ← h2]
      exact hQ
/-! added, lessened, timed, divided -/
def R2F (g : Rat → Rat → Rat) : RC := fun ds Q => ∃ x y : Rat, ds = [fr x, fr y] ∧ Sm x ∧ Sm y ∧ Q (fr (g x y))
theorem R2F.len {g : Rat → Rat → Rat} {ds : List PyData} {Q : PyData → Prop} (h : R2F g ds Q) : ds.length = 2 := by
  obtain ⟨x, y, rfl, _⟩ := h
  rfl
set_option exponentiation.threshold 10000 in
theorem cf_of {a i j : Int} (hi : Sz i) (hj : Sz j) (hi0 : i ≠ 0) (hj0 : j ≠ 0) : i * j ≠ 0 ∧ ∀ z g : Int, g ≠ 0 → g.natAbs = Int.gcd a (i * j) → CFdiv z g := by
  have h0 : i * j ≠ 0 := Int.mul_ne_zero hi0 hj0
  refine ⟨h0, fun z g hg e => Sz.fdiv hg hi hj ?_ z⟩
  rw [e]
  exact Nat.le_of_dvd (by omega) (Int.natAbs_dvd_natAbs.mpr (Int.gcd_dvd_right (a := a) (b := i * j)) |> fun q => by simpa using q)
theorem den0 (x : Rat) : (x.den : Int) ≠ 0 := by
  have := den_pos x
  omega
theorem sc_2 (i : Nat) (h : FnScope ["one", "other"] ["one", "other"] (defScope (top i))) : FnScope ["one", "other"] ["one", "other"] (defScope (top i)) := h
theorem sc_added : FnScope ["one", "other"] ["one", "other"] (defScope (top 16)) := ⟨rfl, rfl, rfl, by decide +kernel, rfl, by decide +kernel, by decide +kernel⟩
theorem sc_lessened : FnScope ["one", "other"] ["one", "other"] (defScope (top 17)) := ⟨rfl, rfl, rfl, by decide +kernel, rfl, by decide +kernel, by decide +kernel⟩
theorem sc_timed : FnScope ["one", "other"] ["one", "other"] (defScope (top 18)) := ⟨rfl, rfl, rfl, by decide +kernel, rfl, by decide +kernel, by decide +kernel⟩
theorem sc_divided : FnScope ["one", "other"] ["one", "other"] (defScope (top 19)) := ⟨rfl, rfl, rfl, by decide +kernel, rfl, by decide +kernel, by decide +kernel⟩
theorem ok_added (F : FnT K "added" (top 16) f fd) (g_fraction : Fn P w K mg base "fraction" 2 (spD K RFraction)) : FnOk P w K mg base CX0 3 f fd ["one", "other"] (spD K (R2F (· + ·))) := by
  refine okD F sc_added (by decide) (fun ds Q h => h.len) (fun cdv A outer s H hr => ?_)
  refine ⟨_, _, (sss_one (ss_ret (se_call g_fraction hr (sa_cons (se_add (se_mul (se_ixT (sv 0) se_int) (se_ixT (sv 1) se_int)) (se_mul (se_ixT (sv 1) se_int) (se_ixT (sv 0) se_int))) (sa_cons (se_mul (se_ixT (sv 0) se_int) (se_ixT (sv 1) se_int)) sa_nil))))), fun ds Q h => ?_⟩
  obtain ⟨x, y, rfl, hx, hy, hQ⟩ := h
  obtain ⟨h0, hc⟩ := cf_of (a := x.num * y.den + y.num * x.den) hx.2 hy.2 (den0 x) (den0 y)
  refine ⟨_, rfl, _, 0, _, rfl, rfl, rfl, _, rfl, _, 1, _, rfl, rfl, rfl, _, _, rfl, rfl, hx.1.mul hy.2, ?_⟩
  refine ⟨_, rfl, _, 0, _, rfl, rfl, rfl, _, rfl, _, 1, _, rfl, rfl, rfl, _, _, rfl, rfl, hy.1.mul hx.2, _, _, rfl, rfl, ?_⟩
  refine ⟨_, rfl, _, 1, _, rfl, rfl, rfl, _, rfl, _, 1, _, rfl, rfl, rfl, _, _, rfl, rfl, hx.2.mul hy.2, ?_⟩
  refine ⟨_, _, rfl, h0, hc, ?_⟩
  rw [← add_divInt]
  exact hQ
theorem ok_lessened (F : FnT K "lessened" (top 17) f fd) (g_fraction : Fn P w K mg base "fraction" 2 (spD K RFraction)) : FnOk P w K mg base CX0 3 f fd ["one", "other"] (spD K (R2F (· - ·))) := by
  refine okD F sc_lessened (by decide) (fun ds Q h => h.len) (fun cdv A outer s H hr => ?_)
  refine ⟨_, _, (sss_one (ss_ret (se_call g_fraction hr (sa_cons (se_sub (se_mul (se_ixT (sv 0) se_int) (se_ixT (sv 1) se_int)) (se_mul (se_ixT (sv 1) se_int) (se_ixT (sv 0) se_int))) (sa_cons (se_mul (se_ixT (sv 0) se_int) (se_ixT (sv 1) se_int)) sa_nil))))), fun ds Q h => ?_⟩
  obtain ⟨x, y, rfl, hx, hy, hQ⟩ := h
  obtain ⟨h0, hc⟩ := cf_of (a := x.num * y.den - y.num * x.den) hx.2 hy.2 (den0 x) (den0 y)
  refine ⟨_, rfl, _, 0, _, rfl, rfl, rfl, _, rfl, _, 1, _, rfl, rfl, rfl, _, _, rfl, rfl, hx.1.mul hy.2, ?_⟩
  refine ⟨_, rfl, _, 0, _, rfl, rfl, rfl, _, rfl, _, 1, _, rfl, rfl, rfl, _, _, rfl, rfl, hy.1.mul hx.2, _, _, rfl, rfl, ?_⟩
  refine ⟨_, rfl, _, 1, _, rfl, rfl, rfl, _, rfl, _, 1, _, rfl, rfl, rfl, _, _, rfl, rfl, hx.2.mul hy.2, ?_⟩
  refine ⟨_, _, rfl, h0, hc, ?_⟩
  rw [← sub_divInt]
  exact hQ
theorem ok_timed (F : FnT K "timed" (top 18) f fd) (g_fraction : Fn P w K mg base "fraction" 2 (spD K RFraction)) : FnOk P w K mg base CX0 3 f fd ["one", "other"] (spD K (R2F (· * ·))) := by
  refine okD F sc_timed (by decide) (fun ds Q h => h.len) (fun cdv A outer s H hr => ?_)
  refine ⟨_, _, (sss_one (ss_ret (se_call g_fraction hr (sa_cons (se_mul (se_ixT (sv 0) se_int) (se_ixT (sv 1) se_int)) (sa_cons (se_mul (se_ixT (sv 0) se_int) (se_ixT (sv 1) se_int)) sa_nil))))), fun ds Q h => ?_⟩
  obtain ⟨x, y, rfl, hx, hy, hQ⟩ := h
  obtain ⟨h0, hc⟩ := cf_of (a := x.num * y.num) hx.2 hy.2 (den0 x) (den0 y)
  refine ⟨_, rfl, _, 0, _, rfl, rfl, rfl, _, rfl, _, 0, _, rfl, rfl, rfl, _, _, rfl, rfl, hx.1.mul hy.1, ?_⟩
  refine ⟨_, rfl, _, 1, _, rfl, rfl, rfl, _, rfl, _, 1, _, rfl, rfl, rfl, _, _, rfl, rfl, hx.2.mul hy.2, ?_⟩
  refine ⟨_, _, rfl, h0, hc, ?_⟩
  rw [← mul_divInt]
  exact hQ
def RDivided : RC := fun ds Q => ∃ x y : Rat, ds = [fr x, fr y] ∧ Sm x ∧ Sm y ∧ y ≠ 0 ∧ Q (fr (x / y))
theorem ok_divided (F : FnT K "divided" (top 19) f fd) (g_fraction : Fn P w K mg base "fraction" 2 (spD K RFraction)) : FnOk P w K mg base CX0 3 f fd ["one", "other"] (spD K RDivided) := by
  refine okD F sc_divided (by decide) (fun ds Q h => ?_) (fun cdv A outer s H hr => ?_)
  · obtain ⟨x, y, rfl, _⟩ := h
    rfl
  refine ⟨_, _, (sss_one (ss_ret (se_call g_fraction hr (sa_cons (se_mul (se_ixT (sv 0) se_int) (se_ixT (sv 1) se_int)) (sa_cons (se_mul (se_ixT (sv 0) se_int) (se_ixT (sv 1) se_int)) sa_nil))))), fun ds Q h => ?_⟩
  obtain ⟨x, y, rfl, hx, hy, hy0, hQ⟩ := h
  have hn : y.num ≠ 0 := fun z => hy0 (Rat.num_eq_zero.mp z)
  obtain ⟨h0, hc⟩ := cf_of (a := x.num * y.den) hx.2 hy.1 (den0 x) hn
  refine ⟨_, rfl, _, 0, _, rfl, rfl, rfl, _, rfl, _, 1, _, rfl, rfl, rfl, _, _, rfl, rfl, hx.1.mul hy.2, ?_⟩
  refine ⟨_, rfl, _, 1, _, rfl, rfl, rfl, _, rfl, _, 0, _, rfl, rfl, rfl, _, _, rfl, rfl, hx.2.mul hy.1, ?_⟩
  refine ⟨_, _, rfl, h0, hc, ?_⟩
  rw [← div_divInt]
  exact hQ
/-! is_less, ceiling -/
def RIsLess : RC := fun ds Q => ∃ x y : Rat, ds = [fr x, fr y] ∧ Sm x ∧ Sm y ∧ Q (.bool (decide (x < y)))
theorem sc_is_less : FnScope ["one", "other"] ["one", "other"] (defScope (top 20)) := ⟨rfl, rfl, rfl, by decide +kernel, rfl, by decide +kernel, by decide +kernel⟩
theorem ok_is_less (F : FnT K "is_less" (top 20) f fd) : FnOk P w K mg base CX0 1 f fd ["one", "other"] (spD K RIsLess) := by
  refine okD F sc_is_less (by decide) (fun ds Q h => ?_) (fun cdv A outer s H hr => ?_)
  · obtain ⟨x, y, rfl, _⟩ := h
    rfl
  refine ⟨_, _, (sss_one (ss_ret (se_lt (se_mul (se_ixT (sv 0) se_int) (se_ixT (sv 1) se_int)) (se_mul (se_ixT (sv 1) se_int) (se_ixT (sv 0) se_int))))), fun ds Q h => ?_⟩
  obtain ⟨x, y, rfl, hx, hy, hQ⟩ := h
  refine ⟨_, rfl, _, 0, _, rfl, rfl, rfl, _, rfl, _, 1, _, rfl, rfl, rfl, _, _, rfl, rfl, hx.1.mul hy.2, ?_⟩
  refine ⟨_, rfl, _, 0, _, rfl, rfl, rfl, _, rfl, _, 1, _, rfl, rfl, rfl, _, _, rfl, rfl, hy.1.mul hx.2, _, _, rfl, rfl, ?_⟩
  have e : decide (x < y) = decide (x.num * (y.den : Int) < y.num * (x.den : Int)) := decide_eq_decide.mpr (lt_num x y).symm
  rw [e] at hQ
  exact hQ
def RCeiling : RC := fun ds Q => ∃ x : Rat, ds = [fr x] ∧ Sm x ∧ Q (.int x.ceil)
theorem sc_ceiling : FnScope ["one"] ["one"] (defScope (top 21)) := ⟨rfl, rfl, rfl, by decide +kernel, rfl, by decide +kernel, by decide +kernel⟩
theorem Sz.cf {i : Int} (h : Sz i) (h0 : i ≠ 0) (z : Int) : CFdiv z i := ⟨h0, Nat.lt_of_lt_of_le (PySem.Flt.log2_lt_of (by decide) h) (by decide)⟩
theorem ok_ceiling (F : FnT K "ceiling" (top 21) f fd) : FnOk P w K mg base CX0 1 f fd ["one"] (spD K RCeiling) := by
  refine okD F sc_ceiling (by decide) (fun ds Q h => ?_) (fun cdv A outer s H hr => ?_)
  · obtain ⟨x, rfl, _⟩ := h
    rfl
  refine ⟨_, _, (sss_one (ss_ret (se_sub se_int (se_fdiv (se_sub se_int (se_ixT (sv 0) se_int)) (se_ixT (sv 0) se_int))))), fun ds Q h => ?_⟩
  obtain ⟨x, rfl, hx, hQ⟩ := h
  refine ⟨_, rfl, _, 0, _, rfl, rfl, rfl, _, _, rfl, rfl, _, rfl, _, 1, _, rfl, rfl, rfl, _, _, rfl, rfl, hx.2.cf (den0 x) _, _, _, rfl, rfl, ?_⟩
  have e : x.ceil = 0 - (0 - x.num).fdiv (x.den : Int) := by
    have hd := den_pos x
    rw [Rat.ceil_eq_neg_floor_neg, Rat.floor_def, Int.fdiv_eq_ediv_of_nonneg _ (by omega)]
    simp
  rw [e] at hQ
  exact hQ
end
end Tk
end
section
set_option Elab.async false
set_option linter.all false
set_option maxRecDepth 100000
set_option maxHeartbeats 4000000
namespace Tk
open PySem PySem.Spec PyProof.Rows L2
/-! ### data of vectors -/
def mapD (n : Nat) (g : Nat → PyData) : List PyData := (List.range n).map g
theorem mapD_len (n : Nat) (g : Nat → PyData) : (mapD n g).length = n := by
  unfold mapD
  rw [List.length_map, List.length_range]
theorem mapD_at {n i : Nat} {g : Nat → PyData} (h : i < n) : (mapD n g)[i]? = some (g i) := by
  unfold mapD
  rw [List.getElem?_map, List.getElem?_range h]
  rfl
theorem mapD_get {n i : Nat} {g : Nat → PyData} {d : PyData} (h : (mapD n g)[i]? = some d) : i < n ∧ d = g i := by
  have hi : i < n := by
    have := lt_of_get h
    rw [mapD_len] at this
    exact this
  rw [mapD_at hi] at h
  exact ⟨hi, (Option.some.inj h).symm⟩
theorem mapD_ix {n i : Nat} {g : Nat → PyData} (h : i < n) : atI (mapD n g) (i : Int) = some (g i) := atI_nat (mapD_at h)
theorem ixN_nat {n i : Nat} (h : i < n) : ixN n (i : Int) = some i := by
  unfold ixN
  rw [if_pos (by omega), if_pos (by omega)]
  rfl
theorem mapD_congr {n : Nat} {g k : Nat → PyData} (h : ∀ i, i < n → g i = k i) : mapD n g = mapD n k := by
  unfold mapD
  exact List.map_congr_left fun i hi => h i (List.mem_range.mp hi)
theorem mapD_zip (n : Nat) (g k : Nat → PyData) : zipD (mapD n g) (mapD n k) = mapD n fun i => pr (g i) (k i) := by
  apply List.ext_getElem?
  intro i
  by_cases hi : i < n
  · unfold zipD
    rw [List.getElem?_zipWith, mapD_at hi, mapD_at hi, mapD_at hi]
  · rw [List.getElem?_eq_none (by rw [zipD_len, mapD_len, mapD_len]; omega), List.getElem?_eq_none (by rw [mapD_len]; omega)]
theorem mapD_enum (n : Nat) (g : Nat → PyData) : enumD (mapD n g) = mapD n fun i => pr (.int (i : Nat)) (g i) := by
  apply List.ext_getElem?
  intro i
  by_cases hi : i < n
  · unfold enumD
    rw [List.getElem?_mapIdx, mapD_at hi, mapD_at hi]
    rfl
  · rw [List.getElem?_eq_none (by rw [enumD_len, mapD_len]; omega), List.getElem?_eq_none (by rw [mapD_len]; omega)]
theorem rgD_map (n : Nat) : rgD 0 n = mapD n fun i => .int (i : Nat) := by
  unfold rgD mapD
  refine List.map_congr_left fun i _ => ?_
  rw [Int.zero_add]
theorem outs_map {out : Nat → Option PyData} {g : Nat → PyData} {n : Nat} (h : ∀ i, i < n → out i = some (g i)) : outs out n = mapD n g := by
  induction n with
  | zero => rfl
  | succ n ih =>
    rw [outs_yes (h n (by omega)), ih fun i hi => h i (by omega)]
    unfold mapD
    rw [List.range_succ, List.map_append]
    rfl
theorem mapD_set (n i : Nat) (g : Nat → PyData) (x : PyData) : (mapD n g).set i x = mapD n fun j => if j = i then x else g j := by
  apply List.ext_getElem?
  intro j
  by_cases hj : j < n
  · rw [mapD_at hj]
    by_cases e : j = i
    · subst e
      rw [if_pos rfl, List.getElem?_set_self (by rw [mapD_len]; exact hj)]
    · rw [if_neg e, List.getElem?_set_ne (fun z => e z.symm), mapD_at hj]
  · rw [List.getElem?_eq_none (by rw [List.length_set, mapD_len]; omega), List.getElem?_eq_none (by rw [mapD_len]; omega)]
theorem mapD_rep (n : Nat) (d : PyData) : (List.replicate n [d]).flatten = mapD n fun _ => d := by
  unfold mapD
  induction n with
  | zero => rfl
  | succ n ih => rw [List.replicate_succ, List.flatten_cons, ih, List.range_succ_eq_map, List.map_cons, List.map_map]; rfl
/-- a vector of n fractions -/
def vL (n : Nat) (v : Nat → Rat) : List PyData := mapD n fun i => fr (v i)
def vD (n : Nat) (v : Nat → Rat) : PyData := .list (vL n v)
theorem vL_len (n : Nat) (v : Nat → Rat) : (vL n v).length = n := mapD_len _ _
theorem vL_ix {n i : Nat} {v : Nat → Rat} (h : i < n) : atI (vL n v) (i : Int) = some (fr (v i)) := mapD_ix h
theorem vL_set (n i : Nat) (v : Nat → Rat) (x : Rat) : (vL n v).set i (fr x) = vL n (updN v i x) := by
  unfold vL
  rw [mapD_set]
  refine mapD_congr fun j _ => ?_
  unfold updN
  split <;> rfl
theorem vL_congr {n : Nat} {u v : Nat → Rat} (h : ∀ i, i < n → u i = v i) : vL n u = vL n v := mapD_congr fun i hi => by rw [h i hi]
theorem vL_zero (n : Nat) : (List.replicate n [fr 0]).flatten = vL n fun _ => 0 := mapD_rep n _
theorem vL_zip (n : Nat) (u v : Nat → Rat) : zipD (vL n u) (vL n v) = mapD n fun i => pr (fr (u i)) (fr (v i)) := mapD_zip _ _ _
section
variable {P : Program} {w : World} {K : PySem.W.Frag} {mg : Str → Option Value} {base : Heap} {f : Addr} {fd : FuncData} {aN aO aT aH : Addr}
/-! weighed -/
def dotN (u v : Nat → Rat) (n : Nat) : Rat := sumN (fun i => u i * v i) n
def RWeighed : RC := fun ds Q => ∃ n u v, ds = [vD n u, vD n v] ∧ n ≤ 1000 ∧ (∀ i, i < n → Sm (u i) ∧ Sm (v i) ∧ Sm (u i * v i)) ∧ (∀ i, i ≤ n → Sm (dotN u v i)) ∧ Q (fr (dotN u v n))
theorem sc_weighed : FnScope ["weights", "numbers", "total", "weight", "number"] ["weights", "numbers"] (defScope (top 22)) := ⟨rfl, rfl, rfl, by decide +kernel, rfl, by decide +kernel, by decide +kernel⟩
theorem dec_num0 (x : Rat) : decide (x.num = 0) = decide (x = 0) := decide_eq_decide.mpr Rat.num_eq_zero
theorem ok_weighed (F : FnT K "weighed" (top 22) f fd) (B : Bt mg) (C : Cst K mg aN aO aT aH) (g_added : Fn P w K mg base "added" 3 (spD K (R2F (· + ·)))) (g_timed : Fn P w K mg base "timed" 3 (spD K (R2F (· * ·)))) : FnOk P w K mg base CX0 4 f fd ["weights", "numbers"] (spD K RWeighed) := by
  have nd := sc_weighed.nd
  refine okD F sc_weighed (by decide) (fun ds Q h => ?_) (fun cdv A outer s H hr => ?_)
  · obtain ⟨n, u, v, rfl, _⟩ := h
    rfl
  refine ⟨_, _, (sss_cons (ss_set 2 nd C.NOUGHT)
    (sss_cons (ss_for rfl PassesOwn.never (si_zip B.zip (sa_cons (sv 0) (sa_cons (sv 1) sa_nil))) (sg_two 3 4 rfl nd (sg_name 3 nd) (sg_name 4 nd))
    (sss_one (ss_if (sw_and (st_ne (se_ixT (sv 3) se_int) se_int) (sw_and1 (st_ne (se_ixT (sv 4) se_int) se_int))).t (sss_one (ss_set 2 nd (se_call g_added hr (sa_cons (sv 2) (sa_cons (se_call g_timed hr (sa_cons (sv 3) (sa_cons (sv 4) sa_nil))) sa_nil))))) sss_nil)))
    (sss_one (ss_ret (sv 2))))), fun ds Q h => ?_⟩
  obtain ⟨n, u, v, rfl, hn, hs, hd, hQ⟩ := h
  refine ⟨_, rfl, _, rfl, _, _, rfl, ?_⟩
  rw [vL_zip]
  refine ⟨fun i A => ∃ a b, A = [.fz (vD n u), .fz (vD n v), .fz (fr (dotN u v i)), a, b], ⟨_, _, rfl⟩, ?_, ?_⟩
  · rintro i d A hd' ⟨a, b, rfl⟩
    obtain ⟨hi, rfl⟩ := mapD_get hd'
    obtain ⟨s1, s2, s3⟩ := hs i hi
    refine ⟨_, rfl, _, _, rfl, _, _, rfl, rfl, ?_⟩
    refine ⟨_, rfl, _, 0, _, rfl, rfl, rfl, _, rfl, _, rfl, ?_⟩
    rw [dec_num0]
    refine ite2 (fun h1 => ?_) (fun h1 => ?_)
    · have h1 : u i ≠ 0 := by simpa using h1
      refine ⟨_, rfl, _, 0, _, rfl, rfl, rfl, _, rfl, _, rfl, ?_⟩
      rw [dec_num0]
      refine ite2 (fun h2 => ?_) (fun h2 => ?_)
      · exact ⟨_, rfl, _, rfl, _, rfl, _, _, rfl, s1, s2, _, _, rfl, hd i (by omega), s3, _, _, rfl⟩
      · have h2 : v i = 0 := by simpa using h2
        have e : dotN u v (i + 1) = dotN u v i := by
          show dotN u v i + u i * v i = _
          rw [h2, Rat.mul_zero, Rat.add_zero]
        exact ⟨.fz (fr (u i)), .fz (fr (v i)), by rw [e]; rfl⟩
    · have h1 : u i = 0 := by simpa using h1
      refine iteF ?_
      have e : dotN u v (i + 1) = dotN u v i := by
        show dotN u v i + u i * v i = _
        rw [h1, Rat.zero_mul, Rat.add_zero]
      exact ⟨.fz (fr (u i)), .fz (fr (v i)), by rw [e]; rfl⟩
  · rintro A ⟨a, b, rfl⟩
    refine ⟨_, rfl, ?_⟩
    rw [mapD_len]
    exact hQ
/-! summed, apart, scaled -/
def RV2 (g : Rat → Rat → Rat) : RC := fun ds Q => ∃ n u v, ds = [vD n u, vD n v] ∧ n ≤ 1000 ∧ (∀ i, i < n → Sm (u i) ∧ Sm (v i)) ∧ Q (vD n fun i => g (u i) (v i))
theorem RV2.len {g : Rat → Rat → Rat} {ds : List PyData} {Q : PyData → Prop} (h : RV2 g ds Q) : ds.length = 2 := by
  obtain ⟨n, x, y, rfl, _⟩ := h
  rfl
theorem sc_summed : FnScope ["one", "other", "here", "there"] ["one", "other"] (defScope (top 23)) := ⟨rfl, rfl, rfl, by decide +kernel, rfl, by decide +kernel, by decide +kernel⟩
theorem sc_apart : FnScope ["one", "other", "here", "there"] ["one", "other"] (defScope (top 24)) := ⟨rfl, rfl, rfl, by decide +kernel, rfl, by decide +kernel, by decide +kernel⟩
theorem ok_summed (F : FnT K "summed" (top 23) f fd) (B : Bt mg) (g_added : Fn P w K mg base "added" 3 (spD K (R2F (· + ·)))) : FnOk P w K mg base CX0 4 f fd ["one", "other"] (spD K (RV2 (· + ·))) := by
  have nd := sc_summed.nd
  refine okD F sc_summed (by decide) (fun ds Q h => h.len) (fun cdv A outer s H hr => ?_)
  refine ⟨_, _, (sss_one (ss_ret (se_ofN (sn_lc [("here", 2), ("there", 3)] rfl nd (si_zip B.zip (sa_cons (sv 0) (sa_cons (sv 1) sa_nil))) (by kernel_rfl) (fun _ _ _ _ _ => by exact (sg_two 2 3 rfl nd (sg_name 2 nd) (sg_name 3 nd))) (fun _ _ _ _ _ => sts_nil) (fun _ _ _ _ _ => by exact (se_call g_added hr (sa_cons (sv 2) (sa_cons (sv 3) sa_nil)))))))), fun ds Q h => ?_⟩
  obtain ⟨n, u, v, rfl, hn, hs, hQ⟩ := h
  refine ⟨_, rfl, _, rfl, _, _, rfl, ?_⟩
  rw [vL_zip]
  refine ⟨rfl, by rw [mapD_len]; exact hn, fun i => some (fr (u i + v i)), fun i d hd => ?_, ?_⟩
  · obtain ⟨hi, rfl⟩ := mapD_get hd
    exact ⟨_, rfl, _, _, rfl, _, _, rfl, rfl, rfl, _, rfl, _, rfl, _, _, rfl, (hs i hi).1, (hs i hi).2, rfl, rfl⟩
  · rw [mapD_len, outs_map fun i _ => rfl]
    exact hQ
theorem ok_apart (F : FnT K "apart" (top 24) f fd) (B : Bt mg) (g_lessened : Fn P w K mg base "lessened" 3 (spD K (R2F (· - ·)))) : FnOk P w K mg base CX0 4 f fd ["one", "other"] (spD K (RV2 (· - ·))) := by
  have nd := sc_apart.nd
  refine okD F sc_apart (by decide) (fun ds Q h => h.len) (fun cdv A outer s H hr => ?_)
  refine ⟨_, _, (sss_one (ss_ret (se_ofN (sn_lc [("here", 2), ("there", 3)] rfl nd (si_zip B.zip (sa_cons (sv 0) (sa_cons (sv 1) sa_nil))) (by kernel_rfl) (fun _ _ _ _ _ => by exact (sg_two 2 3 rfl nd (sg_name 2 nd) (sg_name 3 nd))) (fun _ _ _ _ _ => sts_nil) (fun _ _ _ _ _ => by exact (se_call g_lessened hr (sa_cons (sv 2) (sa_cons (sv 3) sa_nil)))))))), fun ds Q h => ?_⟩
  obtain ⟨n, u, v, rfl, hn, hs, hQ⟩ := h
  refine ⟨_, rfl, _, rfl, _, _, rfl, ?_⟩
  rw [vL_zip]
  refine ⟨rfl, by rw [mapD_len]; exact hn, fun i => some (fr (u i - v i)), fun i d hd => ?_, ?_⟩
  · obtain ⟨hi, rfl⟩ := mapD_get hd
    exact ⟨_, rfl, _, _, rfl, _, _, rfl, rfl, rfl, _, rfl, _, rfl, _, _, rfl, (hs i hi).1, (hs i hi).2, rfl, rfl⟩
  · rw [mapD_len, outs_map fun i _ => rfl]
    exact hQ
def RScaled : RC := fun ds Q => ∃ n u c, ds = [vD n u, fr c] ∧ n ≤ 1000 ∧ (∀ i, i < n → Sm (u i)) ∧ Sm c ∧ Q (vD n fun i => u i * c)
theorem sc_scaled : FnScope ["numbers", "by", "number"] ["numbers", "by"] (defScope (top 25)) := ⟨rfl, rfl, rfl, by decide +kernel, rfl, by decide +kernel, by decide +kernel⟩
theorem ok_scaled (F : FnT K "scaled" (top 25) f fd) (B : Bt mg) (g_timed : Fn P w K mg base "timed" 3 (spD K (R2F (· * ·)))) : FnOk P w K mg base CX0 4 f fd ["numbers", "by"] (spD K RScaled) := by
  have nd := sc_scaled.nd
  refine okD F sc_scaled (by decide) (fun ds Q h => ?_) (fun cdv A outer s H hr => ?_)
  · obtain ⟨n, u, v, rfl, _⟩ := h
    rfl
  refine ⟨_, _, (sss_one (ss_ret (se_ofN (sn_lc [("number", 2)] rfl nd (si_list (sv 0)) (by kernel_rfl) (fun _ _ _ _ _ => by exact (sg_name 2 nd)) (fun _ _ _ _ _ => sts_nil) (fun _ _ _ _ _ => by exact (se_call g_timed hr (sa_cons (sv 2) (sa_cons (sv 1) sa_nil)))))))), fun ds Q h => ?_⟩
  obtain ⟨n, u, c, rfl, hn, hs, hc, hQ⟩ := h
  refine ⟨_, rfl, _, rfl, rfl, by rw [vL_len]; exact hn, fun i => some (fr (u i * c)), fun i d hd => ?_, ?_⟩
  · obtain ⟨hi, rfl⟩ := mapD_get hd
    exact ⟨rfl, _, rfl, _, rfl, _, _, rfl, hs i hi, hc, rfl, rfl⟩
  · rw [vL_len, outs_map fun i _ => rfl]
    exact hQ
end
end Tk
end
section
set_option Elab.async false
set_option linter.all false
set_option maxRecDepth 100000
set_option maxHeartbeats 4000000
namespace Tk
open PySem PySem.Spec PyProof.Rows L2
/-! ### data of nets -/
def entD (e : Nat × Rat) : PyData := pr (.int (e.1 : Int)) (fr e.2)
def sideL (s : Side) : List PyData := s.map entD
def sideD (s : Side) : PyData := .list (sideL s)
def deedD (d : Side × Side) : PyData := pr (sideD d.1) (sideD d.2)
def netD (N : Net) : PyData := pr (.int (N.many : Int)) (.list (N.deeds.map deedD))
abbrev DA : Nat := 231000000
abbrev BA : Nat := 2 ^ 68
def OkSide (n : Nat) (s : Side) : Prop := (∀ e ∈ s, e.1 < n ∧ Ov DA BA e.2 ∧ 0 < e.2) ∧ (s.map (·.1)).Pairwise (· < ·)
def OkNet (N : Net) : Prop := 1 ≤ N.many ∧ N.many ≤ 5 ∧ N.deeds.length ≤ 7 ∧ ∀ d ∈ N.deeds, OkSide N.many d.1 ∧ OkSide N.many d.2
def Bd (D B : Nat) : Prop := 0 < D ∧ D < 2 ^ 4490 ∧ B < 2 ^ 4490
theorem Ov.sm {D B : Nat} {x : Rat} (h : Ov D B x) (b : Bd D B) : Sm x := by
  obtain ⟨h1, h2⟩ := h.den b.1
  refine ⟨Nat.lt_of_le_of_lt h2 b.2.2, ?_⟩
  show (x.den : Int).natAbs < 2 ^ 4490
  rw [Int.natAbs_natCast]
  exact Nat.lt_of_le_of_lt (Nat.le_of_dvd b.1 h1) b.2.1
theorem bdA : Bd DA BA := ⟨by decide, by decide +kernel, by decide +kernel⟩
theorem Ov.smA {x : Rat} (h : Ov DA BA x) : Sm x := h.sm bdA
theorem nodup_of {l : List Nat} (h : l.Pairwise (· < ·)) : l.Nodup := h.imp fun {a b} hab => by omega
theorem pw_len : ∀ {l : List Nat} {n lo : Nat}, l.Pairwise (· < ·) → (∀ x ∈ l, lo ≤ x ∧ x < n) → l.length ≤ n - lo
  | [], n, lo, _, _ => Nat.zero_le _
  | a :: r, n, lo, h, hb => by
    have h1 := List.pairwise_cons.mp h
    have ha := hb a List.mem_cons_self
    have := pw_len (l := r) (n := n) (lo := a + 1) h1.2 fun x hx => ⟨h1.1 x hx, (hb x (List.mem_cons_of_mem _ hx)).2⟩
    rw [List.length_cons]
    omega
theorem OkSide.len {n : Nat} {s : Side} (h : OkSide n s) : s.length ≤ n := by
  have q := pw_len (lo := 0) (n := n) h.2 fun x hx => by
    obtain ⟨e, he, rfl⟩ := List.mem_map.mp hx
    exact ⟨Nat.zero_le _, (h.1 e he).1⟩
  rw [List.length_map] at q
  omega
theorem sideL_len (s : Side) : (sideL s).length = s.length := List.length_map ..
theorem sideL_get {s : Side} {i : Nat} {d : PyData} (h : (sideL s)[i]? = some d) : ∃ e, s[i]? = some e ∧ d = entD e := by
  unfold sideL at h
  rw [List.getElem?_map] at h
  cases hx : s[i]? with
  | none => rw [hx] at h; cases h
  | some e =>
    rw [hx] at h
    exact ⟨e, rfl, (Option.some.inj h).symm⟩
theorem take_next {α : Type} {s : List α} {i : Nat} {e : α} (h : s[i]? = some e) : s.take (i + 1) = s.take i ++ [e] := by
  rw [List.take_add_one, h]
  rfl
theorem deed_ix {N : Net} {j : Nat} {d : Side × Side} (h : N.deeds[j]? = some d) : atI (N.deeds.map deedD) (j : Int) = some (deedD d) := atI_nat (by rw [List.getElem?_map, h]; rfl)
theorem OkNet.deed {N : Net} {j : Nat} {d : Side × Side} (o : OkNet N) (h : N.deeds[j]? = some d) : OkSide N.many d.1 ∧ OkSide N.many d.2 := o.2.2.2 d (List.mem_of_getElem? h)
theorem OkNet.rep {N : Net} (o : OkNet N) : -(2 ^ 63) ≤ (N.many : Int) ∧ (N.many : Int) < 2 ^ 63 ∧ 1 * (N.many : Int).toNat ≤ sizeLine := by
  have h := o.2.1
  refine ⟨by omega, by omega, le_line (by omega)⟩
theorem mem_at {α : Type} {l : List α} {i : Nat} {e : α} (h : l[i]? = some e) : e ∈ l := List.mem_of_getElem? h
section
variable {P : Program} {w : World} {K : PySem.W.Frag} {mg : Str → Option Value} {base : Heap} {f : Addr} {fd : FuncData} {aN aO aT aH : Addr}
/-! change_of -/
def RChangeOf : RC := fun ds Q => ∃ N j d, ds = [netD N, .int (j : Nat)] ∧ OkNet N ∧ N.deeds[j]? = some d ∧ Q (vD N.many (chg d))
theorem sc_change_of : FnScope ["net", "deed", "found", "place", "amount"] ["net", "deed"] (defScope (top 31)) := ⟨rfl, rfl, rfl, by decide +kernel, rfl, by decide +kernel, by decide +kernel⟩
theorem amt_ov {n : Nat} {s : Side} (h : OkSide n s) (p : Nat) : Ov DA (5 * BA) (amt s p) → True := fun _ => trivial
theorem setS_ov {D B : Nat} : ∀ {s : Side} {v : Nat → Rat} {p : Nat}, Ov D B (v p) → (∀ e ∈ s, Ov D B e.2) → Ov D B (setS s v p)
  | [], v, p, h, _ => h
  | (q, a) :: r, v, p, h, hs => by
    show Ov D B (setS r (updN v q a) p)
    refine setS_ov ?_ fun e he => hs e (List.mem_cons_of_mem _ he)
    by_cases hq : p = q
    · subst hq
      rw [updN_same]
      exact hs _ List.mem_cons_self
    · rw [updN_ne hq]
      exact h
theorem amt_ovA {n : Nat} {s : Side} (h : OkSide n s) (p : Nat) : Ov DA BA (amt s p) := by
  rw [← setS_zero (nodup_of h.2)]
  exact setS_ov (Ov.zero _ _) fun e he => (h.1 e he).2.1
def lessS (s : Side) (v : Nat → Rat) : Nat → Rat := addS (-1) s v
theorem lessS_snoc (s : Side) (e : Nat × Rat) (v : Nat → Rat) : lessS (s ++ [e]) v = updN (lessS s v) e.1 (lessS s v e.1 - e.2) := by
  unfold lessS
  rw [addS_snoc]
  congr 1
  grind
theorem lessS_eq (s : Side) (v : Nat → Rat) (p : Nat) : lessS s v p = v p - amt s p := by
  unfold lessS
  rw [addS_eq]
  grind
theorem lessS_ov {D B C : Nat} {s : Side} {v : Nat → Rat} {p : Nat} (h : Ov D B (v p)) (hs : ∀ e ∈ s, Ov D C e.2) : Ov D (B + s.length * C) (lessS s v p) := addS_ov h fun e he => by
  have q := (hs e he).neg
  have e2 : -1 * e.2 = -e.2 := by grind
  rw [e2]
  exact q
theorem ok_change_of (F : FnT K "change_of" (top 31) f fd) (B : Bt mg) (C : Cst K mg aN aO aT aH) (g_lessened : Fn P w K mg base "lessened" 3 (spD K (R2F (· - ·)))) : FnOk P w K mg base CX0 4 f fd ["net", "deed"] (spD K RChangeOf) := by
  have nd := sc_change_of.nd
  refine okD F sc_change_of (by decide) (fun ds Q h => ?_) (fun cdv A outer s H hr => ?_)
  · obtain ⟨N, j, d, rfl, _⟩ := h
    rfl
  refine ⟨_, _, (sss_cons (ss_setN 2 nd (sn_rep (se_lst (sa_cons C.NOUGHT sa_nil)) (se_ixT (sv 0) se_int)))
    (sss_cons (ss_for rfl PassesOwn.never (si_list (se_ixT (se_ixL (se_ixT (sv 0) se_int) (sv 1)) se_int)) (sg_two 3 4 rfl nd (sg_name 3 nd) (sg_name 4 nd))
    (sss_one (ss_setIx 2 (sv 4) (sv 3))))
    (sss_cons (ss_for rfl PassesOwn.never (si_list (se_ixT (se_ixL (se_ixT (sv 0) se_int) (sv 1)) se_int)) (sg_two 3 4 rfl nd (sg_name 3 nd) (sg_name 4 nd))
    (sss_one (ss_setIx 2 (se_call g_lessened hr (sa_cons (se_ixM 2 (sv 3)) (sa_cons (sv 4) sa_nil))) (sv 3))))
    (sss_one (ss_ret (svf 2)))))), fun ds Q h => ?_⟩
  obtain ⟨N, j, d, rfl, o, hd, hQ⟩ := h
  obtain ⟨r1, r2, r3⟩ := o.rep
  obtain ⟨o1, o2⟩ := o.deed hd
  have z0 : ∀ p, Ov DA BA (setS d.2 (fun _ => 0) p) := fun p => setS_ov (Ov.zero _ _) fun e he => (o2.1 e he).2.1
  refine ⟨by decide, _, rfl, _, 0, _, rfl, rfl, rfl, _, _, rfl, rfl, r1, r2, r3, ?_⟩
  rw [Int.toNat_natCast, vL_zero]
  refine ⟨_, rfl, _, 1, _, rfl, rfl, rfl, _, rfl, _, _, _, rfl, rfl, deed_ix hd, _, 1, _, rfl, rfl, rfl, _, rfl, ?_⟩
  refine ⟨fun i A => ∃ a b, A = [.fz (netD N), .fz (.int (j : Nat)), .mu true (vL N.many (setS (d.2.take i) fun _ => 0)), a, b], ⟨_, _, rfl⟩, ?_, ?_⟩
  · rintro i x A hx ⟨a, b, rfl⟩
    obtain ⟨e, he, rfl⟩ := sideL_get hx
    refine ⟨_, rfl, _, _, rfl, _, _, rfl, rfl, _, rfl, ⟨_, _, rfl⟩, _, rfl, _, _, _, e.1, rfl, rfl, ?_, ?_⟩
    · rw [vL_len]
      exact ixN_nat (o2.1 e (mem_at he)).1
    · refine ⟨.fz (.int (e.1 : Int)), .fz (fr e.2), ?_⟩
      rw [vL_set, take_next he, setS_snoc]
      rfl
  rintro A ⟨a, b, rfl⟩
  rw [sideL_len, List.take_length]
  refine ⟨_, rfl, _, 1, _, rfl, rfl, rfl, _, rfl, _, _, _, rfl, rfl, deed_ix hd, _, 0, _, rfl, rfl, rfl, _, rfl, ?_⟩
  refine ⟨fun i A => ∃ a b, A = [.fz (netD N), .fz (.int (j : Nat)), .mu true (vL N.many (lessS (d.1.take i) (setS d.2 fun _ => 0))), a, b], ⟨_, _, rfl⟩, ?_, ?_⟩
  · rintro i x A hx ⟨a, b, rfl⟩
    obtain ⟨e, he, rfl⟩ := sideL_get hx
    have he1 := o1.1 e (mem_at he)
    have s1 : Sm (lessS (d.1.take i) (setS d.2 fun _ => 0) e.1) := by
      refine (lessS_ov (B := BA) (C := BA) (z0 e.1) fun e' h' => (o1.1 e' (List.mem_of_mem_take h')).2.1).sm ⟨by decide, by decide +kernel, ?_⟩
      have h5 := o1.len
      have h6 := o.2.1
      have h7 : (d.1.take i).length ≤ 5 := by rw [List.length_take]; omega
      calc BA + (d.1.take i).length * BA ≤ BA + 5 * BA := by
            have := Nat.mul_le_mul_right BA h7
            omega
        _ < 2 ^ 4490 := by decide +kernel
    refine ⟨_, rfl, _, _, rfl, _, _, rfl, rfl, ⟨_, _, rfl, _, rfl, _, _, _, _, rfl, rfl, vL_ix he1.1, _, rfl, _, _, rfl, s1, he1.2.1.smA, ⟨_, _, rfl⟩, _, rfl, _, _, _, e.1, rfl, rfl, ?_, ?_⟩⟩
    · rw [vL_len]
      exact ixN_nat he1.1
    · refine ⟨.fz (.int (e.1 : Int)), .fz (fr e.2), ?_⟩
      rw [vL_set, take_next he, lessS_snoc]
      rfl
  rintro A ⟨a, b, rfl⟩
  rw [sideL_len, List.take_length]
  refine ⟨_, rfl, ?_⟩
  have e : vL N.many (lessS d.1 (setS d.2 fun _ => 0)) = vL N.many (chg d) := vL_congr fun p _ => by
    rw [lessS_eq, setS_zero (nodup_of o2.2)]
    rfl
  rw [e]
  exact hQ
end
end Tk
end
section
set_option Elab.async false
set_option linter.all false
set_option maxRecDepth 100000
set_option maxHeartbeats 4000000
namespace Tk
open PySem PySem.Spec PyProof.Rows L2
theorem Bd.le {D B D' B' : Nat} (h : Bd D B) (h0 : 0 < D') (h1 : D' ≤ D) (h2 : B' ≤ B) : Bd D' B' := ⟨h0, Nat.lt_of_le_of_lt h1 h.2.1, Nat.lt_of_le_of_lt h2 h.2.2⟩
def deedAt (N : Net) (j : Nat) : Side × Side := N.deeds.getD j ([], [])
theorem deedAt_of {N : Net} {j : Nat} (h : j < N.deeds.length) : N.deeds[j]? = some (deedAt N j) := by
  unfold deedAt
  rw [List.getD_eq_getElem?_getD, List.getElem?_eq_getElem h]
  rfl
theorem chg_ov {N : Net} {j : Nat} (o : OkNet N) (h : j < N.deeds.length) (p : Nat) : Ov DA (2 * BA) (chg (deedAt N j) p) := by
  obtain ⟨o1, o2⟩ := o.deed (deedAt_of h)
  have q := (amt_ovA o2 p).sub (amt_ovA o1 p)
  rw [← Nat.two_mul] at q
  exact q
/-- all deeds' changes, each times its part -/
def cby (N : Net) (parts : Nat → Rat) (m : Nat) (p : Nat) : Rat := sumN (fun j => parts j * chg (deedAt N j) p) m
theorem decide_num_pos (x : Rat) : decide (0 < x.num) = decide (0 < x) := decide_eq_decide.mpr num_pos
def natL (l : List Nat) : List PyData := l.map fun i => .int (i : Nat)
def natD (l : List Nat) : PyData := .list (natL l)
theorem natL_len (l : List Nat) : (natL l).length = l.length := List.length_map ..
theorem natL_ints (l : List Nat) : natL l = (l.map fun i : Nat => (i : Int)).map PyData.int := by
  unfold natL
  rw [List.map_map]
  rfl
theorem natL_get {l : List Nat} {i : Nat} {d : PyData} (h : (natL l)[i]? = some d) : ∃ k, l[i]? = some k ∧ d = .int (k : Nat) := by
  unfold natL at h
  rw [List.getElem?_map] at h
  cases hx : l[i]? with
  | none => rw [hx] at h; cases h
  | some k =>
    rw [hx] at h
    exact ⟨k, rfl, (Option.some.inj h).symm⟩
theorem outs_filter {out : Nat → Option PyData} {n : Nat} {p : Nat → Bool} (h : ∀ i, i < n → out i = if p i then some (.int (i : Nat)) else none) : outs out n = natL ((List.range n).filter p) := by
  induction n with
  | zero => rfl
  | succ n ih =>
    have e := h n (by omega)
    have ih' := ih fun i hi => h i (by omega)
    rw [List.range_succ, List.filter_append]
    unfold natL at ih' ⊢
    rw [List.map_append, ← ih']
    cases hp : p n with
    | true =>
      rw [hp, if_pos rfl] at e
      rw [outs_yes e]
      simp [hp]
    | false =>
      rw [hp, if_neg Bool.false_ne_true] at e
      rw [outs_no e]
      simp [hp]
section
variable {P : Program} {w : World} {K : PySem.W.Frag} {mg : Str → Option Value} {base : Heap} {f : Addr} {fd : FuncData} {aN aO aT aH : Addr}
def RChangesOf : RC := fun ds Q => ∃ N, ds = [netD N] ∧ OkNet N ∧ Q (.list (mapD N.deeds.length fun j => vD N.many (chg (deedAt N j))))
theorem sc_changes_of : FnScope ["net", "deed"] ["net"] (defScope (top 32)) := ⟨rfl, rfl, rfl, by decide +kernel, rfl, by decide +kernel, by decide +kernel⟩
theorem ok_changes_of (F : FnT K "changes_of" (top 32) f fd) (B : Bt mg) (g_change_of : Fn P w K mg base "change_of" 4 (spD K RChangeOf)) : FnOk P w K mg base CX0 5 f fd ["net"] (spD K RChangesOf) := by
  have nd := sc_changes_of.nd
  refine okD F sc_changes_of (by decide) (fun ds Q h => ?_) (fun cdv A outer s H hr => ?_)
  · obtain ⟨N, rfl, _⟩ := h
    rfl
  refine ⟨_, _, (sss_one (ss_ret (se_ofN (sn_lc [("deed", 1)] rfl nd (si_range B.range (sa_cons (se_len B.len (se_ixT (sv 0) se_int)) sa_nil)) (by kernel_rfl) (fun _ _ _ _ _ => by exact (sg_name 1 nd)) (fun _ _ _ _ _ => by exact sts_nil) (fun _ _ _ _ _ => by exact (se_call g_change_of hr (sa_cons (sv 0) (sa_cons (sv 1) sa_nil)))))))), fun ds Q h => ?_⟩
  obtain ⟨N, rfl, o, hQ⟩ := h
  have hl := o.2.2.1
  refine ⟨_, rfl, _, 1, _, rfl, rfl, rfl, _, .inl rfl, N.deeds.length, by rw [List.length_map], by omega, ?_⟩
  refine ⟨rfl, by rw [rgD_len]; omega, fun i => some (vD N.many (chg (deedAt N i))), fun i d hd => ?_, ?_⟩
  · obtain ⟨hi, rfl⟩ := rgD_get hd
    refine ⟨rfl, _, rfl, _, rfl, N, i, _, ?_, o, deedAt_of hi, rfl, rfl⟩
    rw [Int.zero_add]
  · rw [rgD_len, outs_map fun i _ => rfl]
    exact hQ
def RChangeBy : RC := fun ds Q => ∃ N parts D B, ds = [netD N, vD N.deeds.length parts] ∧ OkNet N ∧ (∀ j, j < N.deeds.length → 0 ≤ parts j ∧ Ov D B (parts j)) ∧ 0 < D ∧ Bd (D * DA) (7 * (B * (2 * BA))) ∧ Q (vD N.many (cby N parts N.deeds.length))
theorem sc_change_by : FnScope ["net", "parts", "found", "change", "part", "here", "more"] ["net", "parts"] (defScope (top 33)) := ⟨rfl, rfl, rfl, by decide +kernel, rfl, by decide +kernel, by decide +kernel⟩
theorem ok_change_by (F : FnT K "change_by" (top 33) f fd) (B : Bt mg) (C : Cst K mg aN aO aT aH) (g_added : Fn P w K mg base "added" 3 (spD K (R2F (· + ·)))) (g_changes_of : Fn P w K mg base "changes_of" 5 (spD K RChangesOf)) (g_timed : Fn P w K mg base "timed" 3 (spD K (R2F (· * ·)))) : FnOk P w K mg base CX0 6 f fd ["net", "parts"] (spD K RChangeBy) := by
  have nd := sc_change_by.nd
  refine okD F sc_change_by (by decide) (fun ds Q h => ?_) (fun cdv A outer s H hr => ?_)
  · obtain ⟨N, x, D, B, rfl, _⟩ := h
    rfl
  refine ⟨_, _, (sss_cons (ss_set 2 nd (se_rep (se_lst (sa_cons C.NOUGHT sa_nil)) (se_ixT (sv 0) se_int)))
      (sss_cons (ss_for rfl PassesOwn.never (si_zip B.zip (sa_cons (se_call g_changes_of hr (sa_cons (sv 0) sa_nil)) (sa_cons (sv 1) sa_nil))) (sg_two 3 4 rfl nd (sg_name 3 nd) (sg_name 4 nd))
      (sss_one (ss_if (st_gt (se_ixT (sv 4) se_int) se_int) (sss_one (ss_setLcF 2 [("here", 5), ("more", 6)] rfl nd (si_zip B.zip (sa_cons (sv 2) (sa_cons (sv 3) sa_nil))) (by kernel_rfl) (fun _ _ _ _ _ => by exact (sg_two 5 6 rfl nd (sg_name 5 nd) (sg_name 6 nd))) (fun _ _ _ _ _ => by exact sts_nil) (fun _ _ _ _ _ => by exact (se_call g_added hr (sa_cons (sv 5) (sa_cons (se_call g_timed hr (sa_cons (sv 4) (sa_cons (sv 6) sa_nil))) sa_nil)))) (sw_true rfl rfl rfl (by decide +kernel)))) sss_nil)))
      (sss_one (ss_ret (sv 2))))), fun ds Q h => ?_⟩
  obtain ⟨N, parts, D, B', rfl, o, hp, hD, hb, hQ⟩ := h
  obtain ⟨r1, r2, r3⟩ := o.rep
  have hl := o.2.2.1
  have hm := o.2.1
  have bD : Bd D B' := hb.le hD (Nat.le_mul_of_pos_right _ (by decide)) (by
    have : 1 ≤ 7 * (2 * BA) := by decide
    calc B' = B' * 1 := (Nat.mul_one _).symm
      _ ≤ B' * (7 * (2 * BA)) := Nat.mul_le_mul_left _ this
      _ = 7 * (B' * (2 * BA)) := by rw [Nat.mul_left_comm])
  have ov1 : ∀ j, j < N.deeds.length → ∀ p, Ov (D * DA) (B' * (2 * BA)) (parts j * chg (deedAt N j) p) := fun j hj p => (hp j hj).2.mul (chg_ov o hj p)
  have ovs : ∀ j, j ≤ N.deeds.length → ∀ p, Ov (D * DA) (7 * (B' * (2 * BA))) (cby N parts j p) := fun j hj p => (sumN_ov fun i hi => ov1 i (by omega) p).mono (Nat.mul_le_mul_right _ (by omega))
  refine ⟨by decide, _, rfl, _, 0, _, rfl, rfl, rfl, _, _, rfl, rfl, r1, r2, r3, ?_⟩
  rw [Int.toNat_natCast, vL_zero]
  refine ⟨_, rfl, N, rfl, o, _, rfl, _, _, rfl, ?_⟩
  unfold vL
  rw [mapD_zip]
  refine ⟨fun i A => ∃ a b, A = [.fz (netD N), .fz (vD N.deeds.length parts), .fz (vD N.many (cby N parts i)), a, b, .no, .no], ⟨_, _, rfl⟩, ?_, ?_⟩
  · rintro i x A hx ⟨a, b, rfl⟩
    obtain ⟨hi, rfl⟩ := mapD_get hx
    refine ⟨_, rfl, _, _, rfl, _, _, rfl, rfl, _, rfl, _, 0, _, rfl, rfl, rfl, _, _, rfl, rfl, _, rfl, ?_⟩
    rw [decide_num_pos]
    refine ite2 (fun h1 => ?_) (fun h1 => ?_)
    · refine ⟨_, rfl, _, rfl, _, _, rfl, ?_⟩
      rw [vL_zip]
      refine ⟨rfl, by rw [mapD_len]; omega, fun p => some (fr (cby N parts (i + 1) p)), fun p y hy => ?_, ?_⟩
      · obtain ⟨hi2, rfl⟩ := mapD_get hy
        exact ⟨_, rfl, _, _, rfl, _, _, rfl, rfl, rfl, _, rfl, _, rfl, _, rfl, _, _, rfl, (hp i hi).2.sm bD, ((chg_ov o hi p).sm (hb.le (by decide) (Nat.le_mul_of_pos_left _ hD) (by
          by_cases hB : B' = 0
          · subst hB
            exact absurd (hp i hi).2 (fun z => by
              obtain ⟨k, e1, e2⟩ := z
              have hk : k = 0 := by omega
              subst hk
              have := of_decide_eq_true h1
              have hD' : (D : Rat) ≠ 0 := fun z => by
                have := Rat.natCast_eq_zero_iff.mp z
                omega
              have e3 := Rat.mul_eq_zero.mp (show parts i * (D : Rat) = 0 from e1)
              rcases e3 with e3 | e3
              · rw [e3] at this
                exact absurd this (by decide)
              · exact hD' e3)
          · calc 2 * BA ≤ B' * (2 * BA) := Nat.le_mul_of_pos_left _ (by omega)
              _ ≤ 7 * (B' * (2 * BA)) := Nat.le_mul_of_pos_left _ (by decide)))), _, _, rfl, (ovs i (by omega) p).sm hb, (ov1 i hi p).sm (hb.le hb.1 (Nat.le_refl _) (Nat.le_mul_of_pos_left _ (by decide))), rfl, rfl⟩
      · rw [mapD_len, outs_map fun i _ => rfl]
        exact ⟨_, _, rfl⟩
    · have h0 : parts i = 0 := by
        have h2 := (hp i hi).1
        have h3 : ¬ 0 < parts i := fun z => h1 (decide_eq_true z)
        grind
      have e : cby N parts (i + 1) = cby N parts i := funext fun p => by
        show cby N parts i p + parts i * chg (deedAt N i) p = _
        rw [h0, Rat.zero_mul, Rat.add_zero]
      exact ⟨.fz (vD N.many (chg (deedAt N i))), .fz (fr (parts i)), by rw [e]; rfl⟩
  · rintro A ⟨a, b, rfl⟩
    refine ⟨_, rfl, ?_⟩
    rw [mapD_len]
    exact hQ
def RWetIn : RC := fun ds Q => ∃ n v, ds = [vD n v] ∧ n ≤ 1000 ∧ Q (natD ((List.range n).filter fun p => decide (0 < v p)))
theorem sc_wet_in : FnScope ["stand", "place", "much"] ["stand"] (defScope (top 36)) := ⟨rfl, rfl, rfl, by decide +kernel, rfl, by decide +kernel, by decide +kernel⟩
theorem ok_wet_in (F : FnT K "wet_in" (top 36) f fd) (B : Bt mg) : FnOk P w K mg base CX0 1 f fd ["stand"] (spD K RWetIn) := by
  have nd := sc_wet_in.nd
  refine okD F sc_wet_in (by decide) (fun ds Q h => ?_) (fun cdv A outer s H hr => ?_)
  · obtain ⟨N, x, rfl, _⟩ := h
    rfl
  refine ⟨_, _, (sss_one (ss_ret (se_ofN (sn_lc [("place", 1), ("much", 2)] rfl nd (si_enum B.enumerate (sa_cons (sv 0) sa_nil)) (by kernel_rfl) (fun _ _ _ _ _ => by exact (sg_two 1 2 rfl nd (sg_name 1 nd) (sg_name 2 nd))) (fun _ _ _ _ _ => by exact (sts_one (st_gt (se_ixT (sv 2) se_int) se_int))) (fun _ _ _ _ _ => by exact (sv 1)))))), fun ds Q h => ?_⟩
  obtain ⟨n, v, rfl, hn, hQ⟩ := h
  refine ⟨_, rfl, _, rfl, ?_⟩
  unfold vL
  rw [mapD_enum]
  refine ⟨rfl, by rw [mapD_len]; exact hn, fun i => if decide (0 < v i) then some (.int (i : Nat)) else none, fun i d hd => ?_, ?_⟩
  · obtain ⟨hi, rfl⟩ := mapD_get hd
    refine ⟨_, rfl, _, _, rfl, _, _, rfl, rfl, _, rfl, _, 0, _, rfl, rfl, rfl, _, _, rfl, rfl, _, rfl, rfl, ?_⟩
    rw [decide_num_pos]
    cases h : decide (0 < v i) with
    | true =>
      refine iteT ?_
      refine ⟨_, rfl, rfl, ?_⟩
      dsimp only
      rw [h, if_pos rfl]
    | false =>
      refine iteF ?_
      dsimp only
      rw [h, if_neg Bool.false_ne_true]
  · rw [mapD_len, outs_filter fun i _ => rfl]
    exact hQ
def RSideOf (s : Side × Side → Side) : RC := fun ds Q => ∃ N j d, ds = [netD N, .int (j : Nat)] ∧ OkNet N ∧ N.deeds[j]? = some d ∧ Q (natD ((s d).map (·.1)))
theorem outs_list {α : Type} {l : List α} {g : α → PyData} {out : Nat → Option PyData} (h : ∀ i e, l[i]? = some e → out i = some (g e)) : outs out l.length = l.map g := by
  have key : ∀ k, k ≤ l.length → outs out k = (l.take k).map g := by
    intro k
    induction k with
    | zero => intro _; rfl
    | succ k ih =>
      intro hk
      have hlt : k < l.length := hk
      have e := List.getElem?_eq_getElem hlt
      rw [outs_yes (h k _ e), ih (by omega), take_next e, List.map_append]
      rfl
  rw [key _ (Nat.le_refl _), List.take_length]
theorem sc_takes_from : FnScope ["net", "deed", "place", "amount"] ["net", "deed"] (defScope (top 37)) := ⟨rfl, rfl, rfl, by decide +kernel, rfl, by decide +kernel, by decide +kernel⟩
theorem ok_takes_from (F : FnT K "takes_from" (top 37) f fd) : FnOk P w K mg base CX0 1 f fd ["net", "deed"] (spD K (RSideOf Prod.fst)) := by
  have nd := sc_takes_from.nd
  refine okD F sc_takes_from (by decide) (fun ds Q h => ?_) (fun cdv A outer s H hr => ?_)
  · obtain ⟨N, x, d, rfl, _⟩ := h
    rfl
  refine ⟨_, _, (sss_one (ss_ret (se_ofN (sn_lc [("place", 2), ("amount", 3)] rfl nd (si_list (se_ixT (se_ixL (se_ixT (sv 0) se_int) (sv 1)) se_int)) (by kernel_rfl) (fun _ _ _ _ _ => by exact (sg_two 2 3 rfl nd (sg_name 2 nd) (sg_name 3 nd))) (fun _ _ _ _ _ => by exact sts_nil) (fun _ _ _ _ _ => by exact (sv 2)))))), fun ds Q h => ?_⟩
  obtain ⟨N, j, d, rfl, o, hd, hQ⟩ := h
  obtain ⟨o1, o2⟩ := o.deed hd
  have h1 := o1.len
  have h2 := o.2.1
  refine ⟨_, rfl, _, 1, _, rfl, rfl, rfl, _, rfl, _, _, _, rfl, rfl, deed_ix hd, _, 0, _, rfl, rfl, rfl, _, rfl, rfl, by rw [sideL_len]; omega, fun i => (d.1[i]?).map fun e => .int (e.1 : Nat), fun i x hx => ?_, ?_⟩
  · obtain ⟨e, he, rfl⟩ := sideL_get hx
    refine ⟨_, rfl, _, _, rfl, _, _, rfl, rfl, rfl, _, rfl, rfl, ?_⟩
    dsimp only
    rw [he]
    rfl
  · rw [sideL_len, outs_list (g := fun e => .int (e.1 : Nat)) fun i e he => by rw [he]; rfl]
    unfold natD natL at hQ
    rw [List.map_map] at hQ
    exact hQ
theorem sc_gives_to : FnScope ["net", "deed", "place", "amount"] ["net", "deed"] (defScope (top 38)) := ⟨rfl, rfl, rfl, by decide +kernel, rfl, by decide +kernel, by decide +kernel⟩
theorem ok_gives_to (F : FnT K "gives_to" (top 38) f fd) : FnOk P w K mg base CX0 1 f fd ["net", "deed"] (spD K (RSideOf Prod.snd)) := by
  have nd := sc_gives_to.nd
  refine okD F sc_gives_to (by decide) (fun ds Q h => ?_) (fun cdv A outer s H hr => ?_)
  · obtain ⟨N, x, d, rfl, _⟩ := h
    rfl
  refine ⟨_, _, (sss_one (ss_ret (se_ofN (sn_lc [("place", 2), ("amount", 3)] rfl nd (si_list (se_ixT (se_ixL (se_ixT (sv 0) se_int) (sv 1)) se_int)) (by kernel_rfl) (fun _ _ _ _ _ => by exact (sg_two 2 3 rfl nd (sg_name 2 nd) (sg_name 3 nd))) (fun _ _ _ _ _ => by exact sts_nil) (fun _ _ _ _ _ => by exact (sv 2)))))), fun ds Q h => ?_⟩
  obtain ⟨N, j, d, rfl, o, hd, hQ⟩ := h
  obtain ⟨o1, o2⟩ := o.deed hd
  have h1 := o2.len
  have h2 := o.2.1
  refine ⟨_, rfl, _, 1, _, rfl, rfl, rfl, _, rfl, _, _, _, rfl, rfl, deed_ix hd, _, 1, _, rfl, rfl, rfl, _, rfl, rfl, by rw [sideL_len]; omega, fun i => (d.2[i]?).map fun e => .int (e.1 : Nat), fun i x hx => ?_, ?_⟩
  · obtain ⟨e, he, rfl⟩ := sideL_get hx
    refine ⟨_, rfl, _, _, rfl, _, _, rfl, rfl, rfl, _, rfl, rfl, ?_⟩
    dsimp only
    rw [he]
    rfl
  · rw [sideL_len, outs_list (g := fun e => .int (e.1 : Nat)) fun i e he => by rw [he]; rfl]
    unfold natD natL at hQ
    rw [List.map_map] at hQ
    exact hQ
end
end Tk
end
section
set_option Elab.async false
set_option linter.all false
set_option maxRecDepth 100000
set_option maxHeartbeats 4000000
namespace Tk
open PySem PySem.Spec PyProof.Rows L2
theorem snoc_ind {α : Type} {Pp : List α → Prop} (h0 : Pp []) (hs : ∀ s e, Pp s → Pp (s ++ [e])) (l : List α) : Pp l := by
  have key : ∀ l : List α, Pp l.reverse := fun l => by
    induction l with
    | nil => exact h0
    | cons a r ih =>
      rw [List.reverse_cons]
      exact hs _ _ ih
  have q := key l.reverse
  rw [List.reverse_reverse] at q
  exact q
/-! ### a def with one default of 1 -/
def Fn1 (P : Program) (w : World) (K : PySem.W.Frag) (mg : Str → Option Value) (base : Heap) (x : Str) (k : Nat) (sp : Sp) : Prop :=
  ∃ f fd ps u, FnOk P w K mg base CX0 k f fd ps sp ∧ mg x = some (.ref f) ∧ PySem.W.keepIn K (.ref f) = true ∧ Binds K fd ps [u] ∧ RelV (.int 1) u
def aCall1 (R : RC) (a : AL) : AE := fun A Q => a A fun ds A1 => R (ds ++ [.int 1]) fun d => Q d A1
theorem se_fraction1 {X : Cx} {e : Expr} {te : TE} {ae : AE} {x : Str} {R : RC} {pos p : Pos} {K : PySem.W.Frag} {j k : Nat} (G : Fn1 X.prog X.w X.K X.mg X.base x j (spD K R)) (hr : Room k X.A) (ha : SE X e te ae) (hj : j ≤ k := by decide) (hg : Gl X x := by rfl) (hdb : (x == ("__debug__" : Str)) = false := by decide)
    (he : starEach [e] X.env = (false, eval e X.env) :: starEach [] X.env := by rfl) (hpl : (backTo pos (starEach [] X.env)).any (·.1) = false := by rfl) (hK : X.K = K := by rfl) : SE X (.Call (.Name x p) [e] [] pos) (tCall (spD K R) [.int 1] E0 (tCons te tNil)) (aCall1 R (aCons ae aNil)) := by
  subst hK
  have sa := sa_cons ha sa_nil he
  refine ⟨?_, fun M F0 H0 A σ F H Qd Q rp h k => ?_⟩
  · obtain ⟨f, fd, ps, u, F, hm, kp, b, r⟩ := G
    exact pe_call F (hr.mono hj) hg hm kp b (.cons r .nil) pass0 sa.p hdb he hpl
  · refine sa.s M F0 H0 A σ F H _ _ rp h fun ds vs A1 F1 H1 h1 e1 d1 => ?_
    refine ⟨F1, ds ++ [.int 1], _, e1.rp.sub, d1.app (.cons (.int 1) .nil), h1, fun d v F' H' hd g dd => ?_⟩
    exact k d v A1 F' H' hd (e1.trans (Ev.grow e1.rp g)) dd
/-! ### steps -/
abbrev Steps := List (Nat × Rat)
def stepsL (s : Steps) : List PyData := s.map entD
def stepsD (s : Steps) : PyData := .list (stepsL s)
def turnD (r : Int) (s : Steps) : PyData := pr (.int r) (stepsD s)
def run1L : Steps → List PyData
  | [] => []
  | e :: r => [turnD 1 (e :: r)]
def run1D (s : Steps) : PyData := .list (run1L s)
def after (N : Net) (v : Nat → Rat) (e : Nat × Rat) : Nat → Rat := fun p => v p + e.2 * chg (deedAt N e.1) p
def afters (N : Net) (v : Nat → Rat) (s : Steps) : Nat → Rat := s.foldl (after N) v
theorem afters_snoc (N : Net) (v : Nat → Rat) (s : Steps) (e : Nat × Rat) : afters N v (s ++ [e]) = after N (afters N v s) e := by
  unfold afters
  rw [List.foldl_append]
  rfl
/-- the sizes of steps: places of deeds, and what they move -/
def OkSteps (N : Net) (D C : Nat) (s : Steps) : Prop := s.length ≤ 7 ∧ ∀ e ∈ s, e.1 < N.deeds.length ∧ Sm e.2 ∧ ∀ x ∈ (deedAt N e.1).1 ++ (deedAt N e.1).2, Ov D C (e.2 * x.2)
theorem two_sides (c : Rat) (d : Side × Side) (v : Nat → Rat) : addS c d.2 (addS (-c) d.1 v) = fun p => v p + c * chg d p := by
  funext p
  rw [addS_eq, addS_eq]
  unfold chg
  grind
theorem neg_ov {D C : Nat} {c a : Rat} (h : Ov D C (c * a)) : Ov D C (-c * a) := by
  have e : -c * a = -(c * a) := by grind
  rw [e]
  exact h.neg
theorem after_ov {N : Net} {D B C : Nat} {v : Nat → Rat} {e : Nat × Rat} (o : OkNet N) (he : e.1 < N.deeds.length) (hs : ∀ x ∈ (deedAt N e.1).1 ++ (deedAt N e.1).2, Ov D C (e.2 * x.2)) {p : Nat} (h : Ov D B (v p)) : Ov D (B + 10 * C) (after N v e p) := by
  obtain ⟨o1, o2⟩ := o.deed (deedAt_of he)
  have h1 := addS_ov (c := -e.2) h fun x hx => neg_ov (hs x (List.mem_append_left _ hx))
  have h2 := addS_ov (c := e.2) h1 fun x hx => hs x (List.mem_append_right _ hx)
  rw [two_sides] at h2
  refine h2.mono ?_
  have l1 := o1.len
  have l2 := o2.len
  have l3 := o.2.1
  have := Nat.mul_le_mul_right C (show (deedAt N e.1).1.length ≤ 5 by omega)
  have := Nat.mul_le_mul_right C (show (deedAt N e.1).2.length ≤ 5 by omega)
  omega
theorem afters_ov {N : Net} {D B C : Nat} {v : Nat → Rat} (o : OkNet N) {p : Nat} (h : Ov D B (v p)) : ∀ {s : Steps}, OkSteps N D C s → ∀ k, k ≤ s.length → Ov D (B + k * (10 * C)) (afters N v (s.take k) p) := by
  intro s hs k
  induction k with
  | zero =>
    intro _
    rw [List.take_zero, Nat.zero_mul]
    exact h
  | succ k ih =>
    intro hk
    have e := List.getElem?_eq_getElem (show k < s.length by omega)
    have he := hs.2 _ (mem_at e)
    rw [take_next e, afters_snoc]
    have q := after_ov o he.1 he.2.2 (ih (by omega))
    refine q.mono ?_
    rw [Nat.add_mul, Nat.one_mul]
    omega
theorem afters_gain (N : Net) : ∀ (s : Steps) (v : Nat → Rat) (p : Nat), afters N v s p = v p + afters N (fun _ => 0) s p
  | [], v, p => by
    show v p = v p + 0
    rw [Rat.add_zero]
  | e :: r, v, p => by
    show afters N (after N v e) r p = v p + afters N (after N (fun _ => 0) e) r p
    rw [afters_gain N r (after N v e) p, afters_gain N r (after N (fun _ => 0) e) p]
    unfold after
    grind
theorem stepsL_len (s : Steps) : (stepsL s).length = s.length := List.length_map ..
theorem stepsL_get {s : Steps} {i : Nat} {d : PyData} (h : (stepsL s)[i]? = some d) : ∃ e, s[i]? = some e ∧ d = entD e := sideL_get (s := s) h
/-- the partial sums over one side are small -/
theorem part_ov {N : Net} {D B C : Nat} {v : Nat → Rat} {s : Side} {c : Rat} (hl : s.length ≤ 5) {p : Nat} (h : Ov D B (v p)) (hs : ∀ x ∈ s, Ov D C (c * x.2)) (i : Nat) : Ov D (B + 5 * C) (addS c (s.take i) v p) := by
  have q := addS_ov (s := s.take i) h fun x hx => hs x (List.mem_of_mem_take hx)
  refine q.mono ?_
  have l : (s.take i).length ≤ 5 := by
    rw [List.length_take]
    omega
  have := Nat.mul_le_mul_right C l
  omega
/-- ahead of its own turn a place is as it was -/
theorem addS_before {s : Side} {n i : Nat} {e : Nat × Rat} {c : Rat} {v : Nat → Rat} (o : OkSide n s) (he : s[i]? = some e) : addS c (s.take i) v e.1 = v e.1 := by
  have hn : e.1 ∉ (s.take i).map (·.1) := fun z => by
    have hd := nodup_of o.2
    have h1 : s.map (·.1) = (s.take i).map (·.1) ++ (s.drop i).map (·.1) := by rw [← List.map_append, List.take_append_drop]
    rw [h1] at hd
    have h2 : e.1 ∈ (s.drop i).map (·.1) := by
      refine List.mem_map.mpr ⟨e, ?_, rfl⟩
      refine List.mem_of_getElem? (i := 0) ?_
      rw [List.getElem?_drop, Nat.add_zero]
      exact he
    exact (List.nodup_append.mp hd).2.2 _ z _ h2 rfl
  rw [addS_eq, amt_none hn, Rat.mul_zero, Rat.add_zero]
section
variable {P : Program} {w : World} {K : PySem.W.Frag} {mg : Str → Option Value} {base : Heap} {f : Addr} {fd : FuncData} {aN aO aT aH : Addr}
def RDone : RC := fun ds Q => ∃ N j v c D B C, ds = [netD N, vD N.many v, .int (j : Nat), fr c] ∧ OkNet N ∧ j < N.deeds.length ∧ Sm c ∧ (∀ p, p < N.many → Ov D B (v p)) ∧ (∀ x ∈ (deedAt N j).1 ++ (deedAt N j).2, Ov D C (c * x.2)) ∧ Bd D (B + 10 * C) ∧
  (∀ x ∈ (deedAt N j).1, c * x.2 ≤ v x.1) ∧ Q (vD N.many (after N v (j, c)))
theorem sc_done : FnScope ["net", "stand", "deed", "part", "found", "takes", "gives", "place", "amount", "much"] ["net", "stand", "deed", "part"] (defScope (top 34)) := ⟨rfl, rfl, rfl, by decide +kernel, rfl, by decide +kernel, by decide +kernel⟩
theorem ok_done (F : FnT K "done" (top 34) f fd) (B : Bt mg) (g_added : Fn P w K mg base "added" 3 (spD K (R2F (· + ·)))) (g_is_less : Fn P w K mg base "is_less" 1 (spD K RIsLess)) (g_lessened : Fn P w K mg base "lessened" 3 (spD K (R2F (· - ·)))) (g_timed : Fn P w K mg base "timed" 3 (spD K (R2F (· * ·)))) : FnOk P w K mg base CX0 4 f fd ["net", "stand", "deed", "part"] (spD K RDone) := by
  have nd := sc_done.nd
  refine okD F sc_done (by decide) (fun ds Q h => ?_) (fun cdv A outer s H hr => ?_)
  · obtain ⟨N, j, v, c, D, B, C, rfl, _⟩ := h
    rfl
  refine ⟨_, _, (sss_cons (ss_asg (se_ixL (se_ixT (sv 0) se_int) (sv 2)) (sg_two 5 6 rfl nd (sg_name 5 nd) (sg_name 6 nd)))
      (sss_cons (ss_setN 4 nd (sn_listOf B.list (sv 1)))
      (sss_cons (ss_for rfl PassesOwn.never (si_list (sv 5)) (sg_two 7 8 rfl nd (sg_name 7 nd) (sg_name 8 nd))
      (sss_cons (ss_set 9 nd (se_call g_timed hr (sa_cons (sv 3) (sa_cons (sv 8) sa_nil))))
      (sss_cons (ss_if (st_val (se_call g_is_less hr (sa_cons (se_ixM 4 (sv 7)) (sa_cons (sv 9) sa_nil)))) (sss_one ss_never) sss_nil)
      (sss_one (ss_setIx 4 (se_call g_lessened hr (sa_cons (se_ixM 4 (sv 7)) (sa_cons (sv 9) sa_nil))) (sv 7))))))
      (sss_cons (ss_for rfl PassesOwn.never (si_list (sv 6)) (sg_two 7 8 rfl nd (sg_name 7 nd) (sg_name 8 nd))
      (sss_one (ss_setIx 4 (se_call g_added hr (sa_cons (se_ixM 4 (sv 7)) (sa_cons (se_call g_timed hr (sa_cons (sv 3) (sa_cons (sv 8) sa_nil))) sa_nil))) (sv 7))))
      (sss_one (ss_ret (svf 4))))))), fun ds Q h => ?_⟩
  obtain ⟨N, j, v, c, D, B', C', rfl, o, hj, sc, hv, hx, hb, hle, hQ⟩ := h
  have hd := deedAt_of hj
  obtain ⟨o1, o2⟩ := o.deed hd
  have l1 := o1.len
  have l2 := o2.len
  have l3 := o.2.1
  have bm : ∀ {z : Nat}, z ≤ B' + 10 * C' → Bd D z := fun hz => hb.le hb.1 (Nat.le_refl _) hz
  have hx1 : ∀ x ∈ (deedAt N j).1, Ov D C' (c * x.2) := fun x h => hx x (List.mem_append_left _ h)
  have hx2 : ∀ x ∈ (deedAt N j).2, Ov D C' (c * x.2) := fun x h => hx x (List.mem_append_right _ h)
  have v1 : ∀ p, p < N.many → Ov D (B' + 5 * C') (addS (-c) (deedAt N j).1 v p) := fun p hp => by
    have q := part_ov (N := N) (s := (deedAt N j).1) (by omega) (hv p hp) (fun x h => neg_ov (hx1 x h)) (deedAt N j).1.length
    rw [List.take_length] at q
    exact q
  refine ⟨_, rfl, _, 1, _, rfl, rfl, rfl, _, rfl, _, _, _, rfl, rfl, deed_ix hd, _, rfl, _, _, rfl, _, _, rfl, rfl, ?_⟩
  refine ⟨_, rfl, _, rfl, ?_⟩
  refine ⟨_, rfl, _, rfl, ?_⟩
  refine ⟨fun i A => ∃ a b m, A = [.fz (netD N), .fz (vD N.many v), .fz (.int (j : Nat)), .fz (fr c), .mu true (vL N.many (addS (-c) ((deedAt N j).1.take i) v)), .fz (sideD (deedAt N j).1), .fz (sideD (deedAt N j).2), a, b, m], ⟨_, _, _, rfl⟩, ?_, ?_⟩
  · rintro i x A hx' ⟨a, b, m, rfl⟩
    obtain ⟨e, he, rfl⟩ := sideL_get hx'
    have h1 := o1.1 e (mem_at he)
    have h2 := hx1 e (mem_at he)
    have sp : Sm (addS (-c) ((deedAt N j).1.take i) v e.1) := (part_ov (N := N) (by omega) (hv e.1 h1.1) (fun x h => neg_ov (hx1 x h)) i).sm (bm (by omega))
    refine ⟨_, rfl, _, _, rfl, _, _, rfl, rfl, ?_⟩
    refine ⟨_, rfl, _, rfl, _, _, rfl, sc, h1.2.1.smA, ?_⟩
    refine ⟨_, _, rfl, _, rfl, _, _, _, _, rfl, rfl, vL_ix h1.1, _, rfl, _, _, rfl, sp, h2.sm (bm (by omega)), _, rfl, ?_⟩
    have hlt : decide (addS (-c) ((deedAt N j).1.take i) v e.1 < c * e.2) = false := by
      rw [addS_before o1 he]
      have := hle e (mem_at he)
      exact decide_eq_false (by grind)
    rw [hlt]
    refine iteF ?_
    refine ⟨_, _, rfl, _, rfl, _, _, _, _, rfl, rfl, vL_ix h1.1, _, rfl, _, _, rfl, sp, h2.sm (bm (by omega)), ⟨_, _, rfl⟩, _, rfl, _, _, _, e.1, rfl, rfl, ?_, ?_⟩
    · rw [vL_len]
      exact ixN_nat h1.1
    · refine ⟨.fz (.int (e.1 : Int)), .fz (fr e.2), .fz (fr (c * e.2)), ?_⟩
      have ee : addS (-c) ((deedAt N j).1.take i) v e.1 + -c * e.2 = addS (-c) ((deedAt N j).1.take i) v e.1 - c * e.2 := by grind
      rw [vL_set, take_next he, addS_snoc, ee]
      rfl
  rintro A ⟨a, b, m, rfl⟩
  rw [sideL_len, List.take_length]
  refine ⟨_, rfl, _, rfl, ?_⟩
  refine ⟨fun i A => ∃ a b m, A = [.fz (netD N), .fz (vD N.many v), .fz (.int (j : Nat)), .fz (fr c), .mu true (vL N.many (addS c ((deedAt N j).2.take i) (addS (-c) (deedAt N j).1 v))), .fz (sideD (deedAt N j).1), .fz (sideD (deedAt N j).2), a, b, m], ⟨_, _, _, rfl⟩, ?_, ?_⟩
  · rintro i x A hx' ⟨a, b, m, rfl⟩
    obtain ⟨e, he, rfl⟩ := sideL_get hx'
    have h1 := o2.1 e (mem_at he)
    have h2 := hx2 e (mem_at he)
    have sp : Sm (addS c ((deedAt N j).2.take i) (addS (-c) (deedAt N j).1 v) e.1) := (part_ov (N := N) (by omega) (v1 e.1 h1.1) hx2 i).sm (bm (by omega))
    refine ⟨_, rfl, _, _, rfl, _, _, rfl, rfl, ?_⟩
    refine ⟨_, _, rfl, _, rfl, _, _, _, _, rfl, rfl, vL_ix h1.1, _, rfl, _, rfl, _, _, rfl, sc, h1.2.1.smA, _, _, rfl, sp, h2.sm (bm (by omega)), ⟨_, _, rfl⟩, _, rfl, _, _, _, e.1, rfl, rfl, ?_, ?_⟩
    · rw [vL_len]
      exact ixN_nat h1.1
    · refine ⟨.fz (.int (e.1 : Int)), .fz (fr e.2), m, ?_⟩
      rw [vL_set, take_next he, addS_snoc]
      rfl
  rintro A ⟨a, b, m, rfl⟩
  rw [sideL_len, List.take_length, two_sides]
  exact ⟨_, rfl, hQ⟩
def mostS (s : Side) (v : Nat → Rat) : Option Rat := s.foldl (fun acc e => some (match acc with
  | none => v e.1 / e.2
  | some m => if v e.1 / e.2 < m then v e.1 / e.2 else m)) none
def optD : Option Rat → PyData
  | none => .none
  | some x => fr x
theorem mostS_snoc (s : Side) (e : Nat × Rat) (v : Nat → Rat) : mostS (s ++ [e]) v = some (match mostS s v with
  | none => v e.1 / e.2
  | some m => if v e.1 / e.2 < m then v e.1 / e.2 else m) := by
  unfold mostS
  rw [List.foldl_append]
  rfl
theorem mostS_in {v : Nat → Rat} : ∀ {s : Side} {m : Rat}, mostS s v = some m → ∃ e ∈ s, m = v e.1 / e.2 := by
  intro s
  refine snoc_ind (Pp := fun s => ∀ {m : Rat}, mostS s v = some m → ∃ e ∈ s, m = v e.1 / e.2) (fun h => by cases h) (fun s e ih => ?_) s
  · intro m h
    rw [mostS_snoc] at h
    have h := Option.some.inj h
    cases q : mostS s v with
    | none =>
      rw [q] at h
      exact ⟨e, by simp, h.symm⟩
    | some m0 =>
      rw [q] at h
      dsimp only at h
      by_cases hl : v e.1 / e.2 < m0
      · rw [if_pos hl] at h
        exact ⟨e, by simp, h.symm⟩
      · rw [if_neg hl] at h
        obtain ⟨e', he', hm⟩ := ih q
        exact ⟨e', by simp [he'], by rw [← h]; exact hm⟩
theorem mostS_le {v : Nat → Rat} : ∀ {s : Side} {m : Rat}, mostS s v = some m → ∀ e ∈ s, m ≤ v e.1 / e.2 := by
  intro s
  refine snoc_ind (Pp := fun s => ∀ {m : Rat}, mostS s v = some m → ∀ e ∈ s, m ≤ v e.1 / e.2) (fun h => by cases h) (fun s e ih => ?_) s
  · intro m h e' he'
    rw [mostS_snoc] at h
    have h := Option.some.inj h
    rcases List.mem_append.mp he' with he' | he'
    · cases q : mostS s v with
      | none =>
        exfalso
        cases s with
        | nil => cases he'
        | cons a r =>
          have : ∀ (r : Side) (acc : Rat), r.foldl (fun acc e => some (match acc with
            | none => v e.1 / e.2
            | some m => if v e.1 / e.2 < m then v e.1 / e.2 else m)) (some acc) ≠ none := by
            intro r
            induction r with
            | nil => intro acc z; cases z
            | cons b r ih2 => intro acc; exact ih2 _
          exact this r _ q
      | some m0 =>
        rw [q] at h
        dsimp only at h
        have h3 := ih q e' he'
        by_cases hl : v e.1 / e.2 < m0
        · rw [if_pos hl] at h
          rw [← h]
          grind
        · rw [if_neg hl] at h
          rw [← h]
          exact h3
    · have he2 : e' = e := by simpa using he'
      subst he2
      cases q : mostS s v with
      | none =>
        rw [q] at h
        rw [← h]
        exact Rat.le_refl
      | some m0 =>
        rw [q] at h
        dsimp only at h
        by_cases hl : v e'.1 / e'.2 < m0
        · rw [if_pos hl] at h
          rw [← h]
          exact Rat.le_refl
        · rw [if_neg hl] at h
          rw [← h]
          grind
theorem mostS_none {v : Nat → Rat} {s : Side} (h : mostS s v = none) : s = [] := by
  cases s with
  | nil => rfl
  | cons a r =>
    exfalso
    have : ∀ (r : Side) (acc : Rat), r.foldl (fun acc e => some (match acc with
      | none => v e.1 / e.2
      | some m => if v e.1 / e.2 < m then v e.1 / e.2 else m)) (some acc) ≠ none := by
      intro r
      induction r with
      | nil => intro acc z; cases z
      | cons b r ih2 => intro acc; exact ih2 _
    exact this r _ h
def RMostOf : RC := fun ds Q => ∃ N j v, ds = [netD N, vD N.many v, .int (j : Nat)] ∧ OkNet N ∧ j < N.deeds.length ∧ (∀ p, p < N.many → Sm (v p)) ∧ (∀ e ∈ (deedAt N j).1, Sm (v e.1 / e.2)) ∧ Q (optD (mostS (deedAt N j).1 v))
theorem sc_most_of : FnScope ["net", "stand", "deed", "found", "place", "amount", "much"] ["net", "stand", "deed"] (defScope (top 35)) := ⟨rfl, rfl, rfl, by decide +kernel, rfl, by decide +kernel, by decide +kernel⟩
theorem ok_most_of (F : FnT K "most_of" (top 35) f fd) (g_divided : Fn P w K mg base "divided" 3 (spD K RDivided)) (g_is_less : Fn P w K mg base "is_less" 1 (spD K RIsLess)) : FnOk P w K mg base CX0 4 f fd ["net", "stand", "deed"] (spD K RMostOf) := by
  have nd := sc_most_of.nd
  refine okD F sc_most_of (by decide) (fun ds Q h => ?_) (fun cdv A outer s H hr => ?_)
  · obtain ⟨N, j, v, rfl, _⟩ := h
    rfl
  refine ⟨_, _, (sss_cons (ss_set 3 nd se_non)
      (sss_cons (ss_for rfl PassesOwn.never (si_list (se_ixT (se_ixL (se_ixT (sv 0) se_int) (sv 2)) se_int)) (sg_two 4 5 rfl nd (sg_name 4 nd) (sg_name 5 nd))
      (sss_cons (ss_set 6 nd (se_call g_divided hr (sa_cons (se_ixL (sv 1) (sv 4)) (sa_cons (sv 5) sa_nil))))
      (sss_one (ss_if (sw_or (st_isN (sv 3)) (sw_or1 (st_val (se_call g_is_less hr (sa_cons (sv 6) (sa_cons (sv 3) sa_nil)))))).t (sss_one (ss_set 3 nd (sv 6))) sss_nil))))
      (sss_one (ss_ret (sv 3))))), fun ds Q h => ?_⟩
  obtain ⟨N, j, v, rfl, o, hj, hv, hs, hQ⟩ := h
  have hd := deedAt_of hj
  obtain ⟨o1, o2⟩ := o.deed hd
  refine ⟨_, rfl, _, 1, _, rfl, rfl, rfl, _, rfl, _, _, _, rfl, rfl, deed_ix hd, _, 0, _, rfl, rfl, rfl, _, rfl, ?_⟩
  refine ⟨fun i A => ∃ a b m, A = [.fz (netD N), .fz (vD N.many v), .fz (.int (j : Nat)), .fz (optD (mostS ((deedAt N j).1.take i) v)), a, b, m], ⟨_, _, _, rfl⟩, ?_, ?_⟩
  · rintro i x A hx' ⟨a, b, m, rfl⟩
    obtain ⟨e, he, rfl⟩ := sideL_get hx'
    have h1 := o1.1 e (mem_at he)
    have h0 : e.2 ≠ 0 := by have := h1.2.2; grind
    refine ⟨_, rfl, _, _, rfl, _, _, rfl, rfl, ?_⟩
    refine ⟨_, rfl, _, rfl, _, _, _, rfl, rfl, vL_ix h1.1, _, rfl, _, _, rfl, hv _ h1.1, h1.2.1.smA, h0, ?_⟩
    refine ⟨_, rfl, rfl, _, rfl, ?_⟩
    cases q : mostS ((deedAt N j).1.take i) v with
    | none =>
      refine iteT ?_
      refine iteT ?_
      refine ⟨_, rfl, .fz (.int (e.1 : Int)), .fz (fr e.2), .fz (fr (v e.1 / e.2)), ?_⟩
      rw [take_next he, mostS_snoc, q]
      rfl
    | some m0 =>
      obtain ⟨e', he', hm0⟩ := mostS_in q
      refine iteF ?_
      refine ⟨_, rfl, _, rfl, _, _, rfl, hs e (mem_at he), by rw [hm0]; exact hs e' (List.mem_of_mem_take he'), _, rfl, ?_⟩
      refine ite2 (fun hl => ?_) (fun hl => ?_)
      · have hl := of_decide_eq_true hl
        refine ⟨_, rfl, .fz (.int (e.1 : Int)), .fz (fr e.2), .fz (fr (v e.1 / e.2)), ?_⟩
        rw [take_next he, mostS_snoc, q]
        dsimp only
        rw [if_pos hl]
        rfl
      · have hl : ¬ v e.1 / e.2 < m0 := fun z => hl (decide_eq_true z)
        refine ⟨.fz (.int (e.1 : Int)), .fz (fr e.2), .fz (fr (v e.1 / e.2)), ?_⟩
        rw [take_next he, mostS_snoc, q]
        dsimp only
        rw [if_neg hl]
        rfl
  · rintro A ⟨a, b, m, rfl⟩
    refine ⟨_, rfl, ?_⟩
    rw [sideL_len, List.take_length]
    exact hQ
end
end Tk
end
section
set_option Elab.async false
set_option linter.all false
set_option maxRecDepth 100000
set_option maxHeartbeats 4000000
namespace Tk
open PySem PySem.Spec PyProof.Rows L2
/-- the sizes behind one deed's sides, in the order in which they are worked -/
structure Side2 (N : Net) (D B C : Nat) (v : Nat → Rat) (j : Nat) (c : Rat) : Prop where
  t1 : ∀ i p, p < N.many → Ov D (B + 5 * C) (addS (-c) ((deedAt N j).1.take i) v p)
  t2 : ∀ i p, p < N.many → Ov D (B + 10 * C) (addS c ((deedAt N j).2.take i) (addS (-c) (deedAt N j).1 v) p)
theorem side2 {N : Net} {D B C : Nat} {v : Nat → Rat} {j : Nat} {c : Rat} (o : OkNet N) (hj : j < N.deeds.length) (hv : ∀ p, p < N.many → Ov D B (v p)) (hx : ∀ x ∈ (deedAt N j).1 ++ (deedAt N j).2, Ov D C (c * x.2)) : Side2 N D B C v j c := by
  obtain ⟨o1, o2⟩ := o.deed (deedAt_of hj)
  have l1 := o1.len
  have l2 := o2.len
  have l3 := o.2.1
  have a1 : ∀ i p, p < N.many → Ov D (B + 5 * C) (addS (-c) ((deedAt N j).1.take i) v p) := fun i p hp => part_ov (N := N) (by omega) (hv p hp) (fun x h => neg_ov (hx x (List.mem_append_left _ h))) i
  refine ⟨a1, fun i p hp => ?_⟩
  have a2 := a1 (deedAt N j).1.length p hp
  rw [List.take_length] at a2
  have a3 := part_ov (N := N) (s := (deedAt N j).2) (by omega) a2 (fun x h => hx x (List.mem_append_right _ h)) i
  exact a3.mono (by omega)
theorem sm_one : Sm 1 := ⟨by unfold Sz; decide +kernel, by unfold Sz; decide +kernel⟩
theorem sub_neg_mul (x c a : Rat) : x + -c * a = x - c * a := by grind
section
variable {P : Program} {w : World} {K : PySem.W.Frag} {mg : Str → Option Value} {base : Heap} {f : Addr} {fd : FuncData} {aN aO aT aH : Addr}
def RChangeOfSteps : RC := fun ds Q => ∃ N s D C, ds = [netD N, stepsD s] ∧ OkNet N ∧ OkSteps N D C s ∧ Bd D (80 * C) ∧ Q (vD N.many (afters N (fun _ => 0) s))
theorem sc_change_of_steps : FnScope ["net", "steps", "found", "deed", "part", "place", "amount"] ["net", "steps"] (defScope (top 40)) := ⟨rfl, rfl, rfl, by decide +kernel, rfl, by decide +kernel, by decide +kernel⟩
theorem ok_change_of_steps (F : FnT K "change_of_steps" (top 40) f fd) (C : Cst K mg aN aO aT aH) (g_added : Fn P w K mg base "added" 3 (spD K (R2F (· + ·)))) (g_lessened : Fn P w K mg base "lessened" 3 (spD K (R2F (· - ·)))) (g_timed : Fn P w K mg base "timed" 3 (spD K (R2F (· * ·)))) : FnOk P w K mg base CX0 4 f fd ["net", "steps"] (spD K RChangeOfSteps) := by
  have nd := sc_change_of_steps.nd
  refine okD F sc_change_of_steps (by decide) (fun ds Q h => ?_) (fun cdv A outer s H hr => ?_)
  · obtain ⟨N, s, D, C, rfl, _⟩ := h
    rfl
  refine ⟨_, _, (sss_cons (ss_setN 2 nd (sn_rep (se_lst (sa_cons C.NOUGHT sa_nil)) (se_ixT (sv 0) se_int)))
      (sss_cons (ss_for rfl PassesOwn.never (si_list (sv 1)) (sg_two 3 4 rfl nd (sg_name 3 nd) (sg_name 4 nd))
      (sss_cons (ss_for rfl PassesOwn.never (si_list (se_ixT (se_ixL (se_ixT (sv 0) se_int) (sv 3)) se_int)) (sg_two 5 6 rfl nd (sg_name 5 nd) (sg_name 6 nd))
      (sss_one (ss_setIx 2 (se_call g_lessened hr (sa_cons (se_ixM 2 (sv 5)) (sa_cons (se_call g_timed hr (sa_cons (sv 4) (sa_cons (sv 6) sa_nil))) sa_nil))) (sv 5))))
      (sss_one (ss_for rfl PassesOwn.never (si_list (se_ixT (se_ixL (se_ixT (sv 0) se_int) (sv 3)) se_int)) (sg_two 5 6 rfl nd (sg_name 5 nd) (sg_name 6 nd))
      (sss_one (ss_setIx 2 (se_call g_added hr (sa_cons (se_ixM 2 (sv 5)) (sa_cons (se_call g_timed hr (sa_cons (sv 4) (sa_cons (sv 6) sa_nil))) sa_nil))) (sv 5)))))))
      (sss_one (ss_ret (svf 2))))), fun ds Q h => ?_⟩
  obtain ⟨N, s, D, C', rfl, o, hs, hb, hQ⟩ := h
  obtain ⟨r1, r2, r3⟩ := o.rep
  have bm : ∀ {z : Nat}, z ≤ 80 * C' → Bd D z := fun hz => hb.le hb.1 (Nat.le_refl _) hz
  have hl := hs.1
  refine ⟨by decide, _, rfl, _, 0, _, rfl, rfl, rfl, _, _, rfl, rfl, r1, r2, r3, ?_⟩
  rw [Int.toNat_natCast, vL_zero]
  refine ⟨_, rfl, _, rfl, ?_⟩
  refine ⟨fun i A => ∃ a b c d, A = [.fz (netD N), .fz (stepsD s), .mu true (vL N.many (afters N (fun _ => 0) (s.take i))), a, b, c, d], ⟨_, _, _, _, rfl⟩, ?_, ?_⟩
  · rintro i x A hx' ⟨a, b, c, d, rfl⟩
    obtain ⟨e, he, rfl⟩ := stepsL_get hx'
    obtain ⟨hj, sc, hxs⟩ := hs.2 e (mem_at he)
    have hi : i < s.length := lt_of_get he
    have hd := deedAt_of hj
    obtain ⟨o1, o2⟩ := o.deed hd
    have hv : ∀ p, p < N.many → Ov D (i * (10 * C')) (afters N (fun _ => 0) (s.take i) p) := fun p _ => by
      have q := afters_ov (B := 0) (v := fun _ => 0) o (p := p) (Ov.zero D 0) hs i (by omega)
      rw [Nat.zero_add] at q
      exact q
    have S := side2 o hj hv hxs
    have z : i * (10 * C') + 10 * C' ≤ 80 * C' := by
      have := Nat.mul_le_mul_right (10 * C') (show i ≤ 6 by omega)
      omega
    refine ⟨_, rfl, _, _, rfl, _, _, rfl, rfl, ?_⟩
    refine ⟨_, rfl, _, 1, _, rfl, rfl, rfl, _, rfl, _, _, _, rfl, rfl, deed_ix hd, _, 0, _, rfl, rfl, rfl, _, rfl, ?_⟩
    refine ⟨fun k A => ∃ c d, A = [.fz (netD N), .fz (stepsD s), .mu true (vL N.many (addS (-e.2) ((deedAt N e.1).1.take k) (afters N (fun _ => 0) (s.take i)))), .fz (.int (e.1 : Nat)), .fz (fr e.2), c, d], ⟨_, _, rfl⟩, ?_, ?_⟩
    · rintro k x A hx2 ⟨c, d, rfl⟩
      obtain ⟨t, ht, rfl⟩ := sideL_get hx2
      have h1 := o1.1 t (mem_at ht)
      refine ⟨_, rfl, _, _, rfl, _, _, rfl, rfl, ?_⟩
      refine ⟨_, _, rfl, _, rfl, _, _, _, _, rfl, rfl, vL_ix h1.1, _, rfl, _, rfl, _, _, rfl, sc, h1.2.1.smA, _, _, rfl, (S.t1 k _ h1.1).sm (bm (by omega)), (hxs t (List.mem_append_left _ (mem_at ht))).sm (bm (by omega)), ⟨_, _, rfl⟩, _, rfl, _, _, _, t.1, rfl, rfl, ?_, ?_⟩
      · rw [vL_len]
        exact ixN_nat h1.1
      · refine ⟨.fz (.int (t.1 : Int)), .fz (fr t.2), ?_⟩
        rw [vL_set, take_next ht, addS_snoc, sub_neg_mul]
        rfl
    rintro A ⟨c, d, rfl⟩
    rw [sideL_len, List.take_length]
    refine ⟨_, rfl, _, 1, _, rfl, rfl, rfl, _, rfl, _, _, _, rfl, rfl, deed_ix hd, _, 1, _, rfl, rfl, rfl, _, rfl, ?_⟩
    refine ⟨fun k A => ∃ c d, A = [.fz (netD N), .fz (stepsD s), .mu true (vL N.many (addS e.2 ((deedAt N e.1).2.take k) (addS (-e.2) (deedAt N e.1).1 (afters N (fun _ => 0) (s.take i))))), .fz (.int (e.1 : Nat)), .fz (fr e.2), c, d], ⟨_, _, rfl⟩, ?_, ?_⟩
    · rintro k x A hx2 ⟨c, d, rfl⟩
      obtain ⟨t, ht, rfl⟩ := sideL_get hx2
      have h1 := o2.1 t (mem_at ht)
      refine ⟨_, rfl, _, _, rfl, _, _, rfl, rfl, ?_⟩
      refine ⟨_, _, rfl, _, rfl, _, _, _, _, rfl, rfl, vL_ix h1.1, _, rfl, _, rfl, _, _, rfl, sc, h1.2.1.smA, _, _, rfl, (S.t2 k _ h1.1).sm (bm (by omega)), (hxs t (List.mem_append_right _ (mem_at ht))).sm (bm (by omega)), ⟨_, _, rfl⟩, _, rfl, _, _, _, t.1, rfl, rfl, ?_, ?_⟩
      · rw [vL_len]
        exact ixN_nat h1.1
      · refine ⟨.fz (.int (t.1 : Int)), .fz (fr t.2), ?_⟩
        rw [vL_set, take_next ht, addS_snoc]
        rfl
    rintro A ⟨c, d, rfl⟩
    rw [sideL_len, List.take_length, two_sides]
    refine ⟨.fz (.int (e.1 : Nat)), .fz (fr e.2), c, d, ?_⟩
    rw [take_next he, afters_snoc]
    rfl
  · rintro A ⟨a, b, c, d, rfl⟩
    refine ⟨_, rfl, ?_⟩
    rw [stepsL_len, List.take_length]
    exact hQ
def RFirstLack : RC := fun ds Q => ∃ h g x : Rat, ds = [fr h, fr g, fr x, .int 1] ∧ Sm h ∧ Sm x ∧ x ≤ h ∧ Q .none
theorem sc_first_lack : FnScope ["held", "falls", "wanted", "rounds", "lap", "top", "bottom"] ["held", "falls", "wanted", "rounds"] (defScope (top 41)) := ⟨rfl, rfl, rfl, by decide +kernel, rfl, by decide +kernel, by decide +kernel⟩
theorem ok_first_lack (F : FnT K "first_lack" (top 41) f fd) (g_divided : Fn P w K mg base "divided" 3 (spD K RDivided)) (g_is_less : Fn P w K mg base "is_less" 1 (spD K RIsLess)) (g_lessened : Fn P w K mg base "lessened" 3 (spD K (R2F (· - ·)))) : FnOk P w K mg base CX0 4 f fd ["held", "falls", "wanted", "rounds"] (spD K RFirstLack) := by
  have nd := sc_first_lack.nd
  refine okD F sc_first_lack (by decide) (fun ds Q h => ?_) (fun cdv A outer s H hr => ?_)
  · obtain ⟨a, b, c, rfl, _⟩ := h
    rfl
  refine ⟨_, _, (sss_cons (ss_if (st_val (se_call g_is_less hr (sa_cons (sv 0) (sa_cons (sv 2) sa_nil)))) (sss_one (ss_ret se_int)) sss_nil)
      (sss_cons (ss_if (sw_or (st_eq (sv 3) se_int) (sw_or1 (st_ge (se_ixT (sv 1) se_int) se_int))).t (sss_one (ss_ret se_non)) sss_nil)
      (sss_cons (ss_asg (se_call g_divided hr (sa_cons (se_call g_lessened hr (sa_cons (sv 0) (sa_cons (sv 2) sa_nil))) (sa_cons (se_tup (sa_cons (se_sub se_int (se_ixT (sv 1) se_int)) (sa_cons (se_ixT (sv 1) se_int) sa_nil))) sa_nil))) (sg_two 5 6 rfl nd (sg_name 5 nd) (sg_name 6 nd)))
      (sss_cons (ss_set 4 nd (se_add (se_fdiv (sv 5) (sv 6)) se_int))
      (sss_cons (ss_if (st_ge (sv 4) (sv 3)) (sss_one (ss_ret se_non)) sss_nil)
      (sss_one (ss_ret (sv 4)))))))), fun ds Q h => ?_⟩
  obtain ⟨h, g, x, rfl, sh, sx, hle, hQ⟩ := h
  refine ⟨_, rfl, _, rfl, _, _, rfl, sh, sx, _, rfl, ?_⟩
  rw [decide_eq_false (show ¬ h < x by grind)]
  refine iteF ?_
  refine ⟨_, rfl, _, rfl, _, rfl, ?_⟩
  refine iteT ?_
  exact hQ
/-- every step can be done -/
def CanW (N : Net) (v : Nat → Rat) (s : Steps) : Prop := ∀ k e, s[k]? = some e → ∀ x ∈ (deedAt N e.1).1, e.2 * x.2 ≤ afters N v (s.take k) x.1
def RLacksIn : RC := fun ds Q => ∃ N v s D B C, ds = [netD N, vD N.many v, turnD 1 s] ∧ OkNet N ∧ (∀ p, p < N.many → Ov D B (v p)) ∧ OkSteps N D C s ∧ Bd D (B + 80 * C) ∧ CanW N v s ∧ Q .none
theorem ga_len {i j k : Nat} (ds : List PyData) (A : Sto) (Q : Sto → Prop) (h : gaCons (gaName i) (gaCons (gaTup (gaCons (gaName j) (gaCons (gaName k) gaNil))) gaNil) ds A Q) : ds.length = 2 :=
  ga_len2 ds A Q h (ga_nm i) fun d A Q h => by
    obtain ⟨es, rfl, d1, r1, rfl, d2, r2, rfl, _, q⟩ := h
    exact ⟨_, q⟩
theorem sc_lacks_in : FnScope ["net", "stand", "turn", "falls", "held", "found", "rounds", "steps", "number", "deed", "part", "place", "amount", "lap"] ["net", "stand", "turn"] (defScope (top 42)) := ⟨rfl, rfl, rfl, by decide +kernel, rfl, by decide +kernel, by decide +kernel⟩
theorem ok_lacks_in (F : FnT K "lacks_in" (top 42) f fd) (B : Bt mg) (g_added : Fn P w K mg base "added" 3 (spD K (R2F (· + ·)))) (g_change_of_steps : Fn P w K mg base "change_of_steps" 4 (spD K RChangeOfSteps)) (g_first_lack : Fn P w K mg base "first_lack" 4 (spD K RFirstLack)) (g_lessened : Fn P w K mg base "lessened" 3 (spD K (R2F (· - ·)))) (g_timed : Fn P w K mg base "timed" 3 (spD K (R2F (· * ·)))) : FnOk P w K mg base CX0 5 f fd ["net", "stand", "turn"] (spD K RLacksIn) := by
  have nd := sc_lacks_in.nd
  refine okD F sc_lacks_in (by decide) (fun ds Q h => ?_) (fun cdv A outer s H hr => ?_)
  · obtain ⟨N, v, s, D, B, C, rfl, _⟩ := h
    rfl
  refine ⟨_, _, (sss_cons (ss_asg (sv 2) (sg_two 6 7 rfl nd (sg_name 6 nd) (sg_name 7 nd)))
      (sss_cons (ss_set 3 nd (se_call g_change_of_steps hr (sa_cons (sv 0) (sa_cons (sv 7) sa_nil))))
      (sss_cons (ss_setN 4 nd (sn_listOf B.list (sv 1)))
      (sss_cons (ss_set 5 nd se_non)
      (sss_cons (ss_for rfl PassesOwn.never (si_enum B.enumerate (sa_cons (sv 7) sa_nil)) (sg_tup rfl (sgs_cons (sg_name 8 nd) (sgs_cons (sg_two 9 10 rfl nd (sg_name 9 nd) (sg_name 10 nd)) sgs_nil)) ga_len)
      (sss_cons (ss_for rfl PassesOwn.never (si_list (se_ixT (se_ixL (se_ixT (sv 0) se_int) (sv 9)) se_int)) (sg_two 11 12 rfl nd (sg_name 11 nd) (sg_name 12 nd))
      (sss_cons (ss_set 13 nd (se_call g_first_lack hr (sa_cons (se_ixM 4 (sv 11)) (sa_cons (se_ixL (sv 3) (sv 11)) (sa_cons (se_call g_timed hr (sa_cons (sv 10) (sa_cons (sv 12) sa_nil))) (sa_cons (sv 6) sa_nil))))))
      (sss_cons (ss_if (sw_and (st_notN (sv 13)) (sw_and1 (sw_or (st_isN (sv 5)) (sw_or1 (st_lt (sv 13) (se_ixT (sv 5) se_int)))).t)).t (sss_one (ss_set 5 nd (se_tup (sa_cons (sv 13) (sa_cons (sv 8) (sa_cons (sv 11) sa_nil)))))) sss_nil)
      (sss_one (ss_setIx 4 (se_call g_lessened hr (sa_cons (se_ixM 4 (sv 11)) (sa_cons (se_call g_timed hr (sa_cons (sv 10) (sa_cons (sv 12) sa_nil))) sa_nil))) (sv 11))))))
      (sss_one (ss_for rfl PassesOwn.never (si_list (se_ixT (se_ixL (se_ixT (sv 0) se_int) (sv 9)) se_int)) (sg_two 11 12 rfl nd (sg_name 11 nd) (sg_name 12 nd))
      (sss_one (ss_setIx 4 (se_call g_added hr (sa_cons (se_ixM 4 (sv 11)) (sa_cons (se_call g_timed hr (sa_cons (sv 10) (sa_cons (sv 12) sa_nil))) sa_nil))) (sv 11)))))))
      (sss_one (ss_ret (sv 5)))))))), fun ds Q h => ?_⟩
  obtain ⟨N, v, s, D, B', C', rfl, o, hv0, hs, hb, can, hQ⟩ := h
  have bm : ∀ {z : Nat}, z ≤ B' + 80 * C' → Bd D z := fun hz => hb.le hb.1 (Nat.le_refl _) hz
  have hl := hs.1
  refine ⟨_, rfl, _, rfl, _, _, rfl, _, _, rfl, rfl, ?_⟩
  refine ⟨_, rfl, _, rfl, N, s, D, C', rfl, o, hs, bm (by omega), ?_⟩
  refine ⟨_, rfl, _, rfl, ?_⟩
  refine ⟨_, rfl, _, rfl, ?_⟩
  refine ⟨fun i A => ∃ a b c d e f, A = [.fz (netD N), .fz (vD N.many v), .fz (turnD 1 s), .fz (vD N.many (afters N (fun _ => 0) s)), .mu true (vL N.many (afters N v (s.take i))), .fz .none, .fz (.int 1), .fz (stepsD s), a, b, c, d, e, f], ⟨_, _, _, _, _, _, rfl⟩, ?_, ?_⟩
  · rintro i x A hx' ⟨a, b, c, d, e', f', rfl⟩
    obtain ⟨x0, hx0, rfl⟩ := enumD_get hx'
    obtain ⟨e, he, rfl⟩ := stepsL_get hx0
    obtain ⟨hj, sc, hxs⟩ := hs.2 e (mem_at he)
    have hi : i < s.length := lt_of_get he
    have hd := deedAt_of hj
    obtain ⟨o1, o2⟩ := o.deed hd
    have hv : ∀ p, p < N.many → Ov D (B' + i * (10 * C')) (afters N v (s.take i) p) := fun p hp => afters_ov o (hv0 p hp) hs i (by omega)
    have S := side2 o hj hv hxs
    have z : i * (10 * C') + 10 * C' ≤ 80 * C' := by
      have := Nat.mul_le_mul_right (10 * C') (show i ≤ 6 by omega)
      omega
    refine ⟨_, rfl, _, _, rfl, _, _, rfl, ⟨_, rfl, _, _, rfl, _, _, rfl, rfl, ?_⟩⟩
    refine ⟨rfl, ?_⟩
    refine ⟨_, rfl, _, 1, _, rfl, rfl, rfl, _, rfl, _, _, _, rfl, rfl, deed_ix hd, _, 0, _, rfl, rfl, rfl, _, rfl, ?_⟩
    refine ⟨fun k A => ∃ c d f, A = [.fz (netD N), .fz (vD N.many v), .fz (turnD 1 s), .fz (vD N.many (afters N (fun _ => 0) s)), .mu true (vL N.many (addS (-e.2) ((deedAt N e.1).1.take k) (afters N v (s.take i)))), .fz .none, .fz (.int 1), .fz (stepsD s), .fz (.int (i : Nat)), .fz (.int (e.1 : Nat)), .fz (fr e.2), c, d, f], ⟨_, _, _, rfl⟩, ?_, ?_⟩
    · rintro k x A hx2 ⟨c, d, f', rfl⟩
      obtain ⟨t, ht, rfl⟩ := sideL_get hx2
      have h1 := o1.1 t (mem_at ht)
      have sp := (S.t1 k _ h1.1).sm (bm (by omega))
      have sm := (hxs t (List.mem_append_left _ (mem_at ht))).sm (bm (by omega))
      refine ⟨_, rfl, _, _, rfl, _, _, rfl, rfl, ?_⟩
      refine ⟨_, _, rfl, _, rfl, _, _, _, _, rfl, rfl, vL_ix h1.1, _, rfl, _, rfl, _, _, _, rfl, rfl, vL_ix h1.1, _, rfl, _, rfl, _, _, rfl, sc, h1.2.1.smA, _, rfl, _, _, _, rfl, sp, sm, ?_, ?_⟩
      · rw [addS_before o1 ht]
        exact can i e he t (mem_at ht)
      refine ⟨_, rfl, rfl, _, rfl, ?_⟩
      refine iteF ?_
      refine iteF ?_
      refine ⟨_, _, rfl, _, rfl, _, _, _, _, rfl, rfl, vL_ix h1.1, _, rfl, _, rfl, _, _, rfl, sc, h1.2.1.smA, _, _, rfl, sp, sm, ⟨_, _, rfl⟩, _, rfl, _, _, _, t.1, rfl, rfl, ?_, ?_⟩
      · rw [vL_len]
        exact ixN_nat h1.1
      · refine ⟨.fz (.int (t.1 : Int)), .fz (fr t.2), .fz .none, ?_⟩
        rw [vL_set, take_next ht, addS_snoc, sub_neg_mul]
        rfl
    rintro A ⟨c, d, f', rfl⟩
    rw [sideL_len, List.take_length]
    refine ⟨_, rfl, _, 1, _, rfl, rfl, rfl, _, rfl, _, _, _, rfl, rfl, deed_ix hd, _, 1, _, rfl, rfl, rfl, _, rfl, ?_⟩
    refine ⟨fun k A => ∃ c d f, A = [.fz (netD N), .fz (vD N.many v), .fz (turnD 1 s), .fz (vD N.many (afters N (fun _ => 0) s)), .mu true (vL N.many (addS e.2 ((deedAt N e.1).2.take k) (addS (-e.2) (deedAt N e.1).1 (afters N v (s.take i))))), .fz .none, .fz (.int 1), .fz (stepsD s), .fz (.int (i : Nat)), .fz (.int (e.1 : Nat)), .fz (fr e.2), c, d, f], ⟨_, _, _, rfl⟩, ?_, ?_⟩
    · rintro k x A hx2 ⟨c, d, f', rfl⟩
      obtain ⟨t, ht, rfl⟩ := sideL_get hx2
      have h1 := o2.1 t (mem_at ht)
      refine ⟨_, rfl, _, _, rfl, _, _, rfl, rfl, ?_⟩
      refine ⟨_, _, rfl, _, rfl, _, _, _, _, rfl, rfl, vL_ix h1.1, _, rfl, _, rfl, _, _, rfl, sc, h1.2.1.smA, _, _, rfl, (S.t2 k _ h1.1).sm (bm (by omega)), (hxs t (List.mem_append_right _ (mem_at ht))).sm (bm (by omega)), ⟨_, _, rfl⟩, _, rfl, _, _, _, t.1, rfl, rfl, ?_, ?_⟩
      · rw [vL_len]
        exact ixN_nat h1.1
      · refine ⟨.fz (.int (t.1 : Int)), .fz (fr t.2), f', ?_⟩
        rw [vL_set, take_next ht, addS_snoc]
        rfl
    rintro A ⟨c, d, f', rfl⟩
    rw [sideL_len, List.take_length, two_sides]
    refine ⟨.fz (.int (i : Nat)), .fz (.int (e.1 : Nat)), .fz (fr e.2), c, d, f', ?_⟩
    rw [take_next he, afters_snoc]
    rfl
  · rintro A ⟨a, b, c, d, e, f, rfl⟩
    exact ⟨_, rfl, hQ⟩
def RWalk : RC := fun ds Q => ∃ N v s D B C, ds = [netD N, vD N.many v, run1D s] ∧ OkNet N ∧ (∀ p, p < N.many → Ov D B (v p)) ∧ OkSteps N D C s ∧ Bd D (B + 80 * C) ∧ CanW N v s ∧ Q (vD N.many (afters N v s))
theorem run1_get {s : Steps} {i : Nat} {d : PyData} (h : (run1L s)[i]? = some d) : s ≠ [] ∧ i = 0 ∧ d = turnD 1 s := by
  cases s with
  | nil => cases h
  | cons e r =>
    cases i with
    | zero => exact ⟨List.cons_ne_nil _ _, rfl, (Option.some.inj h).symm⟩
    | succ i => cases h
theorem run1_len (s : Steps) : (run1L s).length = if s = [] then 0 else 1 := by
  cases s <;> rfl
theorem sc_walk : FnScope ["net", "stand", "run", "found", "number", "turn", "lack", "by", "here", "more"] ["net", "stand", "run"] (defScope (top 43)) := ⟨rfl, rfl, rfl, by decide +kernel, rfl, by decide +kernel, by decide +kernel⟩
theorem ok_walk (F : FnT K "walk" (top 43) f fd) (B : Bt mg) (g_fraction1 : Fn1 P w K mg base "fraction" 2 (spD K RFraction)) (g_added : Fn P w K mg base "added" 3 (spD K (R2F (· + ·)))) (g_change_of_steps : Fn P w K mg base "change_of_steps" 4 (spD K RChangeOfSteps)) (g_lacks_in : Fn P w K mg base "lacks_in" 5 (spD K RLacksIn)) (g_timed : Fn P w K mg base "timed" 3 (spD K (R2F (· * ·)))) : FnOk P w K mg base CX0 6 f fd ["net", "stand", "run"] (spD K RWalk) := by
  have nd := sc_walk.nd
  refine okD F sc_walk (by decide) (fun ds Q h => ?_) (fun cdv A outer s H hr => ?_)
  · obtain ⟨N, v, s, D, B, C, rfl, _⟩ := h
    rfl
  refine ⟨_, _, (sss_cons (ss_set 3 nd (se_ofN (sn_listOf B.list (sv 1))))
      (sss_cons (ss_for rfl PassesOwn.never (si_enum B.enumerate (sa_cons (sv 2) sa_nil)) (sg_two 4 5 rfl nd (sg_name 4 nd) (sg_name 5 nd))
      (sss_cons (ss_set 6 nd (se_call g_lacks_in hr (sa_cons (sv 0) (sa_cons (sv 3) (sa_cons (sv 5) sa_nil)))))
      (sss_cons (ss_if (st_notN (sv 6)) (sss_one ss_never) sss_nil)
      (sss_cons (ss_set 7 nd (se_fraction1 g_fraction1 hr (se_ixT (sv 5) se_int)))
      (sss_one (ss_setLcF 3 [("here", 8), ("more", 9)] rfl nd (si_zip B.zip (sa_cons (sv 3) (sa_cons (se_call g_change_of_steps hr (sa_cons (sv 0) (sa_cons (se_ixT (sv 5) se_int) sa_nil))) sa_nil))) (by kernel_rfl) (fun _ _ _ _ _ => by exact (sg_two 8 9 rfl nd (sg_name 8 nd) (sg_name 9 nd))) (fun _ _ _ _ _ => by exact sts_nil) (fun _ _ _ _ _ => by exact (se_call g_added hr (sa_cons (sv 8) (sa_cons (se_call g_timed hr (sa_cons (sv 7) (sa_cons (sv 9) sa_nil))) sa_nil)))) (sw_true rfl rfl rfl (by decide +kernel))))))))
      (sss_one (ss_ret (sv 3))))), fun ds Q h => ?_⟩
  obtain ⟨N, v, s, D, B', C', rfl, o, hv0, hs, hb, can, hQ⟩ := h
  have bm : ∀ {z : Nat}, z ≤ B' + 80 * C' → Bd D z := fun hz => hb.le hb.1 (Nat.le_refl _) hz
  have hm := o.2.1
  have gs : ∀ p, Sm (afters N (fun _ => 0) s p) := fun p => by
    have q := afters_ov (B := 0) (v := fun _ => 0) o (p := p) (Ov.zero D 0) hs s.length (Nat.le_refl _)
    rw [List.take_length, Nat.zero_add] at q
    refine q.sm (bm ?_)
    have := Nat.mul_le_mul_right (10 * C') hs.1
    omega
  refine ⟨_, rfl, _, rfl, ?_⟩
  refine ⟨_, rfl, _, rfl, ?_⟩
  refine ⟨fun i A => ∃ a b c d, A = [.fz (netD N), .fz (vD N.many v), .fz (run1D s), .fz (vD N.many (if i = 0 then v else afters N v s)), a, b, c, d, .no, .no], ⟨_, _, _, _, rfl⟩, ?_, ?_⟩
  · rintro i x A hx' ⟨a, b, c, d, rfl⟩
    obtain ⟨x0, hx0, rfl⟩ := enumD_get hx'
    obtain ⟨hne, rfl, rfl⟩ := run1_get hx0
    refine ⟨_, rfl, _, _, rfl, _, _, rfl, rfl, ?_⟩
    refine ⟨_, rfl, _, rfl, _, rfl, N, v, s, D, B', C', rfl, o, hv0, hs, hb, can, ?_⟩
    refine ⟨_, rfl, rfl, _, rfl, ?_⟩
    refine iteF ?_
    refine ⟨_, rfl, _, 0, _, rfl, rfl, rfl, 1, 1, rfl, by decide, fun z g hg e => ⟨hg, by rw [e]; decide⟩, ?_⟩
    refine ⟨_, rfl, _, rfl, _, rfl, _, 1, _, rfl, rfl, rfl, N, s, D, C', rfl, o, hs, bm (by omega), _, _, rfl, ?_⟩
    rw [vL_zip]
    refine ⟨rfl, by rw [mapD_len]; omega, fun p => some (fr (afters N v s p)), fun p y hy => ?_, ?_⟩
    · obtain ⟨hp, rfl⟩ := mapD_get hy
      have e1 : Rat.divInt 1 1 = 1 := by decide +kernel
      have e2 : v p + Rat.divInt 1 1 * afters N (fun _ => 0) s p = afters N v s p := by rw [e1, Rat.one_mul, afters_gain N s v p]
      refine ⟨_, rfl, _, _, rfl, _, _, rfl, rfl, rfl, _, rfl, _, rfl, _, rfl, _, _, rfl, by rw [e1]; exact sm_one, gs p, _, _, rfl, (hv0 p hp).sm (bm (by omega)), by show Sm (Rat.divInt 1 1 * afters N (fun _ => 0) s p); rw [e1, Rat.one_mul]; exact gs p, rfl, ?_⟩
      show some (fr (afters N v s p)) = some (fr (v p + Rat.divInt 1 1 * afters N (fun _ => 0) s p))
      rw [e2]
    · rw [mapD_len, outs_map fun i _ => rfl]
      exact ⟨_, _, _, _, rfl⟩
  · rintro A ⟨a, b, c, d, rfl⟩
    refine ⟨_, rfl, ?_⟩
    rw [enumD_len, run1_len]
    cases s with
    | nil => exact hQ
    | cons e r => exact hQ
def RTimes : RC := fun ds Q => ∃ s c, ds = [run1D s, fr c] ∧ s.length ≤ 7 ∧ (∀ e ∈ s, Sm e.2) ∧ Sm c ∧ Q (run1D (s.map fun e => (e.1, e.2 * c)))
theorem sc_times : FnScope ["run", "by", "rounds", "steps", "deed", "part"] ["run", "by"] (defScope (top 45)) := ⟨rfl, rfl, rfl, by decide +kernel, rfl, by decide +kernel, by decide +kernel⟩
theorem ok_times (F : FnT K "times" (top 45) f fd) (g_timed : Fn P w K mg base "timed" 3 (spD K (R2F (· * ·)))) : FnOk P w K mg base CX0 4 f fd ["run", "by"] (spD K RTimes) := by
  have nd := sc_times.nd
  refine okD F sc_times (by decide) (fun ds Q h => ?_) (fun cdv A outer s H hr => ?_)
  · obtain ⟨s, c, rfl, _⟩ := h
    rfl
  refine ⟨_, _, (sss_one (ss_ret (se_ofN (sn_lc [("rounds", 2), ("steps", 3)] rfl nd (si_list (sv 0)) (by kernel_rfl) (fun _ _ _ _ _ => by exact (sg_two 2 3 rfl nd (sg_name 2 nd) (sg_name 3 nd))) (fun _ _ _ _ _ => by exact sts_nil) (fun _ _ _ _ _ => by exact (se_tup (sa_cons (sv 2) (sa_cons (se_ofN (sn_lc [("deed", 4), ("part", 5)] rfl nd (si_list (sv 3)) (by kernel_rfl) (fun _ _ _ _ _ => by exact (sg_two 4 5 rfl nd (sg_name 4 nd) (sg_name 5 nd))) (fun _ _ _ _ _ => by exact sts_nil) (fun _ _ _ _ _ => by exact (se_tup (sa_cons (sv 4) (sa_cons (se_call g_timed hr (sa_cons (sv 5) (sa_cons (sv 1) sa_nil))) sa_nil)))))) sa_nil)))))))), fun ds Q h => ?_⟩
  obtain ⟨s, c, rfl, hl, hs, sc, hQ⟩ := h
  refine ⟨_, rfl, _, rfl, rfl, by rw [run1_len]; split <;> omega, fun _ => some (turnD 1 (s.map fun e => (e.1, e.2 * c))), fun i d hd => ?_, ?_⟩
  · obtain ⟨hne, rfl, rfl⟩ := run1_get hd
    refine ⟨_, rfl, _, _, rfl, _, _, rfl, rfl, rfl, _, rfl, _, rfl, _, rfl, rfl, by rw [stepsL_len]; omega, fun i => (s[i]?).map fun e => entD (e.1, e.2 * c), fun i x hx => ?_, by show (2 : Nat) ≤ 1000; decide, rfl, ?_⟩
    · obtain ⟨e, he, rfl⟩ := stepsL_get hx
      refine ⟨_, rfl, _, _, rfl, _, _, rfl, rfl, rfl, _, rfl, _, rfl, _, rfl, _, _, rfl, hs e (mem_at he), sc, by show (2 : Nat) ≤ 1000; decide, rfl, ?_⟩
      dsimp only
      rw [he]
      rfl
    · rw [stepsL_len, outs_list (g := fun e => entD (e.1, e.2 * c)) fun i e he => by rw [he]; rfl]
      unfold turnD stepsD stepsL
      rw [List.map_map]
      rfl
  · cases s with
    | nil => exact hQ
    | cons e r => exact hQ
end
end Tk
end
section
set_option Elab.async false
set_option linter.all false
set_option maxRecDepth 100000
set_option maxHeartbeats 4000000
namespace Tk
open PySem PySem.Spec PyProof.Rows L2
/-! ### which places are wet -/
abbrev tk (N : Net) (j : Nat) : List Nat := (deedAt N j).1.map (·.1)
abbrev gv (N : Net) (j : Nat) : List Nat := (deedAt N j).2.map (·.1)
def Wet (N : Net) (v : Nat → Rat) (fs : List Nat) (p : Nat) : Prop := (p < N.many ∧ 0 < v p) ∨ ∃ j ∈ fs, p ∈ gv N j
structure Reach (N : Net) (v : Nat → Rat) (fs : List Nat) : Prop where
  nd : fs.Nodup
  lt : ∀ j ∈ fs, j < N.deeds.length
  ok : ∀ i j, fs[i]? = some j → ∀ p ∈ tk N j, Wet N v (fs.take i) p
def Closed (N : Net) (v : Nat → Rat) (fs : List Nat) : Prop := ∀ j, j < N.deeds.length → j ∉ fs → ∃ p ∈ tk N j, ¬ Wet N v fs p
structure WetL (N : Net) (v : Nat → Rat) (fs ws : List Nat) : Prop where
  nd : ws.Nodup
  iff : ∀ p, p ∈ ws ↔ Wet N v fs p
theorem Wet.mono {N : Net} {v : Nat → Rat} {fs gs : List Nat} (h : ∀ j ∈ fs, j ∈ gs) {p : Nat} : Wet N v fs p → Wet N v gs p
  | .inl q => .inl q
  | .inr ⟨j, hj, q⟩ => .inr ⟨j, h j hj, q⟩
theorem Wet.snoc {N : Net} {v : Nat → Rat} {fs : List Nat} {j p : Nat} : Wet N v (fs ++ [j]) p ↔ Wet N v fs p ∨ p ∈ gv N j := by
  constructor
  · rintro (q | ⟨k, hk, q⟩)
    · exact .inl (.inl q)
    · rcases List.mem_append.mp hk with h | h
      · exact .inl (.inr ⟨k, h, q⟩)
      · have : k = j := by simpa using h
        exact .inr (this ▸ q)
  · rintro (q | q)
    · exact q.mono fun k hk => List.mem_append_left _ hk
    · exact .inr ⟨j, by simp, q⟩
theorem Reach.nil (N : Net) (v : Nat → Rat) : Reach N v [] := ⟨List.nodup_nil, fun _ h => (List.not_mem_nil h).elim, fun i j h => by simp at h⟩
theorem Reach.snoc {N : Net} {v : Nat → Rat} {fs : List Nat} {j : Nat} (r : Reach N v fs) (hj : j < N.deeds.length) (hn : j ∉ fs) (h : ∀ p ∈ tk N j, Wet N v fs p) : Reach N v (fs ++ [j]) := by
  refine ⟨?_, fun k hk => ?_, fun i k hk p hp => ?_⟩
  · rw [List.nodup_append]
    refine ⟨r.nd, by simp, fun a ha b hb => ?_⟩
    have : b = j := by simpa using hb
    rw [this]
    exact fun z => hn (z ▸ ha)
  · rcases List.mem_append.mp hk with h | h
    · exact r.lt k h
    · have : k = j := by simpa using h
      rw [this]
      exact hj
  · by_cases hi : i < fs.length
    · rw [List.getElem?_append_left hi] at hk
      rw [List.take_append_of_le_length (by omega)]
      exact r.ok i k hk p hp
    · have e : i = fs.length := by
        have := lt_of_get hk
        rw [List.length_append] at this
        simp at this
        omega
      subst e
      rw [List.getElem?_append_right (Nat.le_refl _), Nat.sub_self] at hk
      have : k = j := (Option.some.inj hk).symm
      subst this
      rw [List.take_append_of_le_length (Nat.le_refl _), List.take_length]
      exact h p hp
theorem Reach.len {N : Net} {v : Nat → Rat} {fs : List Nat} (r : Reach N v fs) : fs.length ≤ N.deeds.length := by
  have q := List.Nodup.length_le_of_subset r.nd (show fs ⊆ List.range N.deeds.length from fun j hj => List.mem_range.mpr (r.lt j hj))
  rw [List.length_range] at q
  exact q
theorem WetL.lt {N : Net} {v : Nat → Rat} {fs ws : List Nat} (o : OkNet N) (r : Reach N v fs) (w : WetL N v fs ws) : ∀ p ∈ ws, p < N.many := fun p hp => by
  rcases (w.iff p).mp hp with h | ⟨j, hj, q⟩
  · exact h.1
  · obtain ⟨e, he, rfl⟩ := List.mem_map.mp q
    exact ((o.deed (deedAt_of (r.lt j hj))).2.1 e he).1
theorem WetL.len {N : Net} {v : Nat → Rat} {fs ws : List Nat} (o : OkNet N) (r : Reach N v fs) (w : WetL N v fs ws) : ws.length ≤ 5 := by
  have q := List.Nodup.length_le_of_subset w.nd (show ws ⊆ List.range N.many from fun j hj => List.mem_range.mpr (w.lt o r j hj))
  rw [List.length_range] at q
  have := o.2.1
  omega
theorem gv_nd {N : Net} (o : OkNet N) {j : Nat} (hj : j < N.deeds.length) : (gv N j).Nodup := nodup_of (o.deed (deedAt_of hj)).2.2
theorem WetL.snoc {N : Net} {v : Nat → Rat} {fs ws : List Nat} {j : Nat} (o : OkNet N) (hj : j < N.deeds.length) (w : WetL N v fs ws) : WetL N v (fs ++ [j]) (ws ++ (gv N j).filter fun p => !decide (p ∈ ws)) := by
  refine ⟨?_, fun p => ?_⟩
  · rw [List.nodup_append]
    refine ⟨w.nd, (gv_nd o hj).filter _, fun a ha b hb => ?_⟩
    have := (List.mem_filter.mp hb).2
    have hb2 : b ∉ ws := by simpa using this
    exact fun z => hb2 (z ▸ ha)
  · rw [Wet.snoc, List.mem_append, List.mem_filter]
    constructor
    · rintro (h | ⟨h, _⟩)
      · exact .inl ((w.iff p).mp h)
      · exact .inr h
    · rintro (h | h)
      · exact .inl ((w.iff p).mpr h)
      · by_cases hw : p ∈ ws
        · exact .inl hw
        · exact .inr ⟨h, by simp [hw]⟩
theorem WetL.start (N : Net) (v : Nat → Rat) : WetL N v [] ((List.range N.many).filter fun p => decide (0 < v p)) := by
  refine ⟨List.nodup_range.filter _, fun p => ?_⟩
  rw [List.mem_filter, List.mem_range]
  constructor
  · rintro ⟨h1, h2⟩
    exact .inl ⟨h1, of_decide_eq_true h2⟩
  · rintro (⟨h1, h2⟩ | ⟨j, hj, _⟩)
    · exact ⟨h1, decide_eq_true h2⟩
    · cases hj
/-- two ways to find what is wet find the same -/
theorem wet_le {N : Net} {v : Nat → Rat} {fs gs : List Nat} (r : Reach N v fs) (c : Closed N v gs) : ∀ i, i ≤ fs.length → ∀ j ∈ fs.take i, j ∈ gs := by
  intro i
  induction i with
  | zero => intro _ j hj; cases hj
  | succ i ih =>
    intro hi j hj
    have ih := ih (by omega)
    have e := List.getElem?_eq_getElem (show i < fs.length from hi)
    rw [take_next e] at hj
    rcases List.mem_append.mp hj with h | h
    · exact ih j h
    · have ej : j = fs[i] := by simpa using h
      by_cases hg : j ∈ gs
      · exact hg
      · exfalso
        obtain ⟨p, hp, hw⟩ := c j (r.lt j (ej ▸ mem_at e)) hg
        exact hw ((r.ok i j (ej ▸ e) p hp).mono ih)
theorem reach_same {N : Net} {v : Nat → Rat} {fs gs : List Nat} (r : Reach N v fs) (c : Closed N v fs) (r' : Reach N v gs) (c' : Closed N v gs) (j : Nat) : j ∈ fs ↔ j ∈ gs :=
  ⟨fun h => wet_le r c' fs.length (Nat.le_refl _) j (by rw [List.take_length]; exact h), fun h => wet_le r' c gs.length (Nat.le_refl _) j (by rw [List.take_length]; exact h)⟩
/-! data -/
theorem natD_ints (l : List Nat) : natD l = .list ((l.map fun i : Nat => (i : Int)).map PyData.int) := by
  unfold natD
  rw [natL_ints]
theorem mem_ints {p : Nat} {l : List Nat} : ((p : Nat) : Int) ∈ l.map (fun i : Nat => (i : Int)) ↔ p ∈ l := by
  rw [List.mem_map]
  constructor
  · rintro ⟨q, hq, e⟩
    have : q = p := by omega
    exact this ▸ hq
  · intro h
    exact ⟨p, h, rfl⟩
theorem dec_ints {p : Nat} {l : List Nat} : decide (((p : Nat) : Int) ∈ l.map (fun i : Nat => (i : Int))) = decide (p ∈ l) := decide_eq_decide.mpr mem_ints
theorem outs_filt {l : List Nat} {p : Nat → Bool} {out : Nat → Option PyData} (h : ∀ i j, l[i]? = some j → out i = if p j then some (.int (j : Nat)) else none) : outs out l.length = natL (l.filter p) := by
  have key : ∀ k, k ≤ l.length → outs out k = natL ((l.take k).filter p) := by
    intro k
    induction k with
    | zero => intro _; rfl
    | succ k ih =>
      intro hk
      have hlt : k < l.length := hk
      have e := List.getElem?_eq_getElem hlt
      have h' := h k _ e
      rw [take_next e, List.filter_append]
      unfold natL at ih ⊢
      rw [List.map_append, ← ih (by omega)]
      cases hp : p l[k] with
      | true =>
        rw [hp, if_pos rfl] at h'
        rw [outs_yes h']
        simp [hp]
      | false =>
        rw [hp, if_neg Bool.false_ne_true] at h'
        rw [outs_no h']
        simp [hp]
  rw [key _ (Nat.le_refl _), List.take_length]
theorem ss_appd {X : Cx} {e : Expr} {te : TE} {ae : AE} {pos : Pos} {K : PySem.W.Frag} (i : Nat) {x : Str} {px p2 p3 : Pos} (he : SE X e te ae) (hN : X.N[i]? = some x := by rfl) (hv : Vis X.env.scope x := by first | exact Or.inl rfl | exact Or.inr (Or.inl rfl) | exact Or.inr (Or.inr rfl)) (hd : (x == ("__debug__" : Str)) = false := by decide)
    (hcd : (x == ("__classdict__" : Str)) = false := by decide) (h1 : starEach [e] X.env = (false, eval e X.env) :: starEach [] X.env := by rfl)
    (hbase : attributeBase (.Name x px) "append" X.env (eval (.Name x px) X.env) = eval (.Name x px) X.env := by rfl)
    (hfew : ((backTo p3 (starEach [e] X.env)).all (fun x => !x.1) && (backToKw p3 (keywordEach [] X.env)).all (fun x => x.1.isSome) && decide (([e] : List Expr).length + ([] : List Keyword).length + (if ([] : List Keyword).isEmpty then 0 else 1) < 30)) = true := by rfl)
    (hline : (p2.endLine == p3.line) = true := by rfl) (h2 : (backTo p3 (starEach [] X.env)).any (·.1) = false := by rfl)
    (hs : swapsWith (.Call (.Attribute (.Name x px) "append" p2) [e] [] p3) none pos.line X.env = pure false := by rfl) (hK : X.K = K := by rfl) :
    SS X (.Expr (.Call (.Attribute (.Name x px) "append" p2) [e] [] p3) pos) (tDrop (tBM K "list" rAppend (tVar i) (tCons te tNil))) (aApp i ae) :=
  ss_app i he hN hv hd hcd h1 (pe_bm PySem.F.plainAttrs_list PySem.F.slot_list_append PySem.F.type_list_append mt_append (pe_var hN hv hd hcd) (sa_cons he sa_nil h1).p hbase hfew hline h1 h2) hs hK
section
variable {P : Program} {w : World} {K : PySem.W.Frag} {mg : Str → Option Value} {base : Heap} {f : Addr} {fd : FuncData} {aN aO aT aH : Addr}
def RInTurn : RC := fun ds Q => ∃ N v, ds = [netD N, vD N.many v, natD (List.range N.deeds.length)] ∧ OkNet N ∧ ∀ fs ws, Reach N v fs → Closed N v fs → WetL N v fs ws → Q (pr (natD fs) (natD ws))
theorem sc_in_turn : FnScope ["net", "stand", "deeds", "wet", "found", "again", "deed", "place"] ["net", "stand", "deeds"] (defScope (top 48)) := ⟨rfl, rfl, rfl, by decide +kernel, rfl, by decide +kernel, by decide +kernel⟩
theorem ok_in_turn (F : FnT K "in_turn" (top 48) f fd) (B : Bt mg) (g_gives_to : Fn P w K mg base "gives_to" 1 (spD K (RSideOf Prod.snd))) (g_takes_from : Fn P w K mg base "takes_from" 1 (spD K (RSideOf Prod.fst))) (g_wet_in : Fn P w K mg base "wet_in" 1 (spD K RWetIn)) : FnOk P w K mg base CX0 2 f fd ["net", "stand", "deeds"] (spD K RInTurn) := by
  have nd := sc_in_turn.nd
  refine okD F sc_in_turn (by decide) (fun ds Q h => ?_) (fun cdv A outer s H hr => ?_)
  · obtain ⟨N, v, rfl, _⟩ := h
    rfl
  refine ⟨_, _, (sss_cons (ss_set 3 nd (se_call g_wet_in hr (sa_cons (sv 1) sa_nil)))
      (sss_cons (ss_setN 4 nd (sn_lst sa_nil))
      (sss_cons (ss_set 5 nd se_bl)
      (sss_cons (ss_while PassesOwn.never (st_val (sv 5))
      (sss_cons (ss_set 5 nd se_bl)
      (sss_one (ss_for rfl PassesOwn.never (si_list (sv 2)) (sg_name 6 nd)
      (sss_one (ss_if (sw_and (st_notInM 4 (sv 6)) (sw_and1 (st_val (se_all rfl B.all (se_ofN (sn_lc [("place", 7)] rfl nd (si_list (se_call g_takes_from hr (sa_cons (sv 0) (sa_cons (sv 6) sa_nil)))) (by kernel_rfl) (fun _ _ _ _ _ => by exact (sg_name 7 nd)) (fun _ _ _ _ _ => by exact sts_nil) (fun _ _ _ _ _ => by exact (se_in (sv 7) (sv 3))))))))).t (sss_cons (ss_appd 4 (sv 6))
      (sss_cons (ss_set 3 nd (se_cat (sv 3) (se_ofN (sn_lc [("place", 7)] rfl nd (si_list (se_call g_gives_to hr (sa_cons (sv 0) (sa_cons (sv 6) sa_nil)))) (by kernel_rfl) (fun _ _ _ _ _ => by exact (sg_name 7 nd)) (fun _ _ _ _ _ => by exact (sts_one (st_notIn (sv 7) (sv 3)))) (fun _ _ _ _ _ => by exact (sv 7))))))
      (sss_one (ss_set 5 nd se_bl)))) sss_nil))))))
      (sss_one (ss_ret (se_tup (sa_cons (svf 4) (sa_cons (sv 3) sa_nil))))))))), fun ds Q h => ?_⟩
  obtain ⟨N, v, rfl, o, hQ⟩ := h
  have hm := o.2.1
  have hl := o.2.2.1
  refine ⟨_, rfl, N.many, v, rfl, by omega, ?_⟩
  refine ⟨by decide, ?_⟩
  refine ⟨fun m A => ∃ fs ws b x, A = [.fz (netD N), .fz (vD N.many v), .fz (natD (List.range N.deeds.length)), .fz (natD ws), .mu true (natL fs), .fz (.bool b), x, .no] ∧ Reach N v fs ∧ WetL N v fs ws ∧ (b = true ∨ Closed N v fs) ∧ m = 2 * (N.deeds.length - fs.length) + (if b = true then 1 else 0),
    ⟨_, [], _, true, _, rfl, Reach.nil N v, WetL.start N v, .inl rfl, rfl⟩, ?_⟩
  rintro m A ⟨fs, ws, b, x, rfl, r, wl, hc, rfl⟩
  refine ⟨_, rfl, b, rfl, ?_⟩
  cases b with
  | false =>
    refine iteF ?_
    have hc := hc.resolve_left Bool.false_ne_true
    exact ⟨_, rfl, _, rfl, by show (2 : Nat) ≤ 1000; decide, hQ fs ws r hc wl⟩
  | true =>
    refine iteT ?_
    refine ⟨_, rfl, _, rfl, ?_⟩
    refine ⟨fun i A => ∃ gs us b x, A = [.fz (netD N), .fz (vD N.many v), .fz (natD (List.range N.deeds.length)), .fz (natD us), .mu true (natL gs), .fz (.bool b), x, .no] ∧ Reach N v gs ∧ WetL N v gs us ∧ (b = true → fs.length < gs.length) ∧ (b = false → gs = fs ∧ ∀ k, k < i → k ∉ fs → ∃ p ∈ tk N k, ¬ Wet N v fs p),
      ⟨fs, ws, false, _, rfl, r, wl, (fun z => nomatch z), fun _ => ⟨rfl, fun k hk => by omega⟩⟩, ?_, ?_⟩
    · rintro i d A hd ⟨gs, us, b, x, rfl, rg, wg, hb1, hb2⟩
      obtain ⟨k, hk, rfl⟩ := natL_get hd
      have hi := lt_of_get hk
      rw [List.length_range] at hi
      rw [List.getElem?_range hi] at hk
      have hk := Option.some.inj hk
      subst hk
      have hdk := deedAt_of hi
      have oo := o.deed hdk
      have l1 := oo.1.len
      have l2 := oo.2.len
      have lg := rg.len
      have lu := wg.len o rg
      refine ⟨_, rfl, true, gs.map fun i : Nat => (i : Int), _, by rw [← natL_ints]; rfl, rfl, _, rfl, ?_⟩
      rw [if_pos rfl, dec_ints]
      by_cases hg : i ∈ gs
      · rw [decide_eq_true hg]
        refine iteF ?_
        refine iteF ?_
        refine ⟨gs, us, b, _, rfl, rg, wg, hb1, fun hb => ⟨(hb2 hb).1, fun k hk hn => ?_⟩⟩
        by_cases hki : k = i
        · subst hki
          exact absurd ((hb2 hb).1 ▸ hg) hn
        · exact (hb2 hb).2 k (by omega) hn
      · rw [decide_eq_false hg]
        refine iteT ?_
        refine ⟨_, rfl, _, rfl, N, i, _, rfl, o, hdk, _, rfl, rfl, by rw [natL_len, List.length_map]; omega, fun t => ((tk N i)[t]?).map fun p => .bool (decide (p ∈ us)), fun t d hd2 => ?_, ?_⟩
        · obtain ⟨p, hp, rfl⟩ := natL_get hd2
          refine ⟨rfl, _, rfl, _, rfl, p, us.map fun i : Nat => (i : Int), rfl, natD_ints us, rfl, ?_⟩
          rw [if_neg Bool.false_ne_true, dec_ints]
          show Option.map _ (tk N i)[t]? = _
          rw [show (tk N i)[t]? = some p from hp]
          rfl
        · rw [natL_len, outs_list (g := fun p => .bool (decide (p ∈ us))) fun t p hp => by rw [hp]; rfl]
          refine ⟨(tk N i).map fun p => decide (p ∈ us), congrArg (fun l => [PyData.list l]) (List.map_map (g := PyData.bool) (f := fun p => decide (p ∈ us)) (l := tk N i)).symm, ?_⟩
          refine ⟨_, rfl, ?_⟩
          have hall : ((tk N i).map fun p => decide (p ∈ us)).all id = true ↔ ∀ p ∈ tk N i, Wet N v gs p := by
            rw [List.all_map, List.all_eq_true]
            constructor
            · intro h p hp
              exact (wg.iff p).mp (of_decide_eq_true (h p hp))
            · intro h p hp
              exact decide_eq_true ((wg.iff p).mpr (h p hp))
          refine ite2 (fun hy => ?_) (fun hy => ?_)
          · have hw := hall.mp hy
            refine ⟨⟨_, _, rfl⟩, _, rfl, _, _, rfl, by rw [natL_len]; omega, ?_⟩
            refine ⟨_, rfl, _, rfl, _, rfl, N, i, _, rfl, o, hdk, _, rfl, rfl, by rw [natL_len, List.length_map]; omega, fun t => ((gv N i)[t]?).bind fun p => if !decide (p ∈ us) then some (.int (p : Nat)) else none, fun t d hd2 => ?_, ?_⟩
            · obtain ⟨p, hp, rfl⟩ := natL_get hd2
              refine ⟨_, rfl, _, rfl, p, us.map fun i : Nat => (i : Int), rfl, natD_ints us, _, rfl, rfl, ?_⟩
              rw [if_pos rfl, dec_ints]
              refine ite2 (fun hy => ?_) (fun hy => ?_)
              · refine ⟨_, rfl, rfl, ?_⟩
                dsimp only
                rw [hp]
                show (if (!decide (p ∈ us)) = true then _ else _) = _
                rw [if_pos hy]
              · dsimp only
                rw [hp]
                show (if (!decide (p ∈ us)) = true then _ else _) = _
                rw [if_neg hy]
            · rw [natL_len, outs_filt (p := fun p => !decide (p ∈ us)) fun t p hp => by rw [hp]; rfl]
              refine ⟨_, _, rfl, rfl, ?_, ?_⟩
              · rw [natL_len, natL_len]
                have := List.length_filter_le (fun p => !decide (p ∈ us)) (gv N i)
                rw [List.length_map] at this
                exact le_line (show us.length + ((gv N i).filter fun p => !decide (p ∈ us)).length ≤ 1000 by omega)
              · refine ⟨gs ++ [i], us ++ (gv N i).filter fun p => !decide (p ∈ us), true, .fz (.int (i : Nat)), ?_, rg.snoc hi hg hw, wg.snoc o hi, fun _ => ?_, fun z => nomatch z⟩
                · unfold natD natL
                  rw [List.map_append, List.map_append]
                  rfl
                · rw [List.length_append]
                  cases b with
                  | true => have := hb1 rfl; omega
                  | false => rw [(hb2 rfl).1]; exact Nat.lt_succ_self _
          · refine ⟨gs, us, b, _, rfl, rg, wg, hb1, fun hb => ⟨(hb2 hb).1, fun k hk hn => ?_⟩⟩
            by_cases hki : k = i
            · subst hki
              have e := (hb2 hb).1
              subst e
              by_cases hx : ∃ p ∈ tk N k, ¬ Wet N v gs p
              · exact hx
              · exact absurd (hall.mpr fun p hp => Classical.byContradiction fun z => hx ⟨p, hp, z⟩) hy
            · exact (hb2 hb).2 k (by omega) hn
    · rintro A ⟨gs, us, b, x, rfl, rg, wg, hb1, hb2⟩
      rw [natL_len, List.length_range] at hb2
      refine ⟨_, ?_, gs, us, b, x, rfl, rg, wg, ?_, rfl⟩
      · have := rg.len
        cases b with
        | true =>
          have := hb1 rfl
          show 2 * (N.deeds.length - gs.length) + 1 < 2 * (N.deeds.length - fs.length) + 1
          omega
        | false =>
          rw [(hb2 rfl).1]
          exact Nat.lt_succ_self _
      · cases b with
        | true => exact .inl rfl
        | false =>
          right
          obtain ⟨e, h2⟩ := hb2 rfl
          subst e
          exact fun j hj hn => h2 j hj hn
end
end Tk
end
section
set_option Elab.async false
set_option linter.all false
set_option maxRecDepth 100000
set_option maxHeartbeats 4000000
namespace Tk
open PySem PySem.Spec PyProof.Rows L2
/-! ### numbers over a given denominator -/
def Dn (D : Nat) (x : Rat) : Prop := ∃ k : Int, x * (D : Rat) = (k : Rat)
theorem Dn.add {D : Nat} {x y : Rat} : Dn D x → Dn D y → Dn D (x + y)
  | ⟨k, h⟩, ⟨l, g⟩ => ⟨k + l, by rw [Rat.add_mul, h, g, Rat.intCast_add]⟩
theorem Dn.neg {D : Nat} {x : Rat} : Dn D x → Dn D (-x)
  | ⟨k, h⟩ => ⟨-k, by rw [Rat.neg_mul, h, Rat.intCast_neg]⟩
theorem Dn.sub {D : Nat} {x y : Rat} (h : Dn D x) (g : Dn D y) : Dn D (x - y) := by
  rw [Rat.sub_eq_add_neg]
  exact h.add g.neg
theorem Dn.mul {D E : Nat} {x y : Rat} : Dn D x → Dn E y → Dn (D * E) (x * y)
  | ⟨k, h⟩, ⟨l, g⟩ => ⟨k * l, by
    rw [Rat.natCast_mul, Rat.intCast_mul, ← h, ← g]
    grind⟩
theorem Dn.int (k : Int) : Dn 1 (k : Rat) := ⟨k, by
  have e : ((1 : Nat) : Rat) = 1 := rfl
  rw [e, Rat.mul_one]⟩
theorem Dn.up {D E : Nat} {x : Rat} : Dn D x → Dn (D * E) x
  | ⟨k, h⟩ => ⟨k * E, by
    rw [Rat.natCast_mul, Rat.intCast_mul, Rat.intCast_natCast, ← h]
    grind⟩
theorem Dn.of {D E : Nat} {x : Rat} (h : Dn D x) (d : D ∣ E) : Dn E x := by
  obtain ⟨c, rfl⟩ := d
  exact h.up
theorem Ov.dn {D B : Nat} {x : Rat} : Ov D B x → Dn D x
  | ⟨k, e, _⟩ => ⟨k, e⟩
theorem natR {a b : Nat} : (a : Rat) ≤ (b : Rat) ↔ a ≤ b := by
  rw [← Rat.intCast_natCast, ← Rat.intCast_natCast, Rat.intCast_le_intCast]
  omega
theorem natR0 (a : Nat) : (0 : Rat) ≤ (a : Rat) := Rat.natCast_nonneg
theorem natRp {a : Nat} (h : 0 < a) : (0 : Rat) < (a : Rat) := by
  have := natR.mpr h
  have e : ((1 : Nat) : Rat) = 1 := rfl
  have : (1 : Rat) ≤ (a : Rat) := this
  grind
theorem Dn.ov {D V : Nat} {x : Rat} (h : Dn D x) (l : -(V : Rat) ≤ x) (u : x ≤ (V : Rat)) : Ov D (D * V) x := by
  obtain ⟨k, e⟩ := h
  refine ⟨k, e, ?_⟩
  have h1 := Rat.mul_le_mul_of_nonneg_right u (natR0 D)
  have h2 := Rat.mul_le_mul_of_nonneg_right l (natR0 D)
  rw [e] at h1 h2
  have e1 : (V : Rat) * (D : Rat) = ((V * D : Int) : Rat) := by rw [Rat.intCast_mul, Rat.intCast_natCast, Rat.intCast_natCast]
  have e2 : -(V : Rat) * (D : Rat) = ((-(V * D : Int) : Int) : Rat) := by rw [Rat.intCast_neg, Rat.neg_mul, e1]
  rw [e1, Rat.intCast_le_intCast] at h1
  rw [e2, Rat.intCast_le_intCast] at h2
  have e3 : (V : Int) * (D : Int) = ((D * V : Nat) : Int) := by
    rw [Int.natCast_mul, Int.mul_comm]
  rw [e3] at h1 h2
  omega
theorem Ov.val {D B : Nat} {x : Rat} (hD : 0 < D) (h : Ov D B x) : -(B : Rat) ≤ x ∧ x ≤ (B : Rat) := by
  obtain ⟨k, e, hk⟩ := h
  have d1 : (1 : Rat) ≤ (D : Rat) := natR.mpr hD
  have k1 : (k : Rat) ≤ (B : Rat) := by
    rw [← Rat.intCast_natCast, Rat.intCast_le_intCast]
    omega
  have k2 : -(B : Rat) ≤ (k : Rat) := by
    rw [← Rat.intCast_natCast, ← Rat.intCast_neg, Rat.intCast_le_intCast]
    omega
  have b0 := natR0 B
  constructor
  · refine Classical.byContradiction fun z => ?_
    have z : x < -(B : Rat) := Rat.not_le.mp z
    have q : x * (D : Rat) ≤ x * 1 := by
      have := Rat.mul_le_mul_of_nonneg_left d1 (show (0 : Rat) ≤ -x by grind)
      grind
    grind
  · refine Classical.byContradiction fun z => ?_
    have z : (B : Rat) < x := Rat.not_le.mp z
    have q : x * 1 ≤ x * (D : Rat) := Rat.mul_le_mul_of_nonneg_left d1 (show (0 : Rat) ≤ x by grind)
    grind
theorem Dn.sm {D V : Nat} {x : Rat} (hD : 0 < D) (h : Dn D x) (l : -(V : Rat) ≤ x) (u : x ≤ (V : Rat)) (hb : D * V < 2 ^ 4490) (hb2 : D < 2 ^ 4490) : Sm x := (h.ov l u).sm ⟨hD, hb2, hb⟩
/-! ### amounts at places -/
theorem amt_of : ∀ {s : Side} {e : Nat × Rat}, (s.map (·.1)).Nodup → e ∈ s → amt s e.1 = e.2
  | (q, a) :: r, e, nd, h => by
    have nd' := List.nodup_cons.mp nd
    show (if q = e.1 then a else 0) + amt r e.1 = e.2
    rcases List.mem_cons.mp h with rfl | h
    · rw [if_pos rfl, amt_none nd'.1]
      exact Rat.add_zero _
    · have hq : q ≠ e.1 := fun z => nd'.1 (z ▸ List.mem_map.mpr ⟨e, h, rfl⟩)
      rw [if_neg hq, amt_of nd'.2 h]
      exact Rat.zero_add _
theorem amt_cases {n : Nat} {s : Side} (o : OkSide n s) (p : Nat) : (p ∉ s.map (·.1) ∧ amt s p = 0) ∨ ∃ e ∈ s, e.1 = p ∧ amt s p = e.2 ∧ 0 < e.2 := by
  by_cases h : p ∈ s.map (·.1)
  · obtain ⟨e, he, rfl⟩ := List.mem_map.mp h
    exact .inr ⟨e, he, rfl, amt_of (nodup_of o.2) he, (o.1 e he).2.2⟩
  · exact .inl ⟨h, amt_none h⟩
theorem amt_nn {n : Nat} {s : Side} (o : OkSide n s) (p : Nat) : 0 ≤ amt s p := by
  rcases amt_cases o p with ⟨_, h⟩ | ⟨e, _, _, h, g⟩
  · rw [h]; exact Rat.le_refl
  · rw [h]; exact Rat.le_of_lt g
theorem amt_le {n : Nat} {s : Side} (o : OkSide n s) (p : Nat) : amt s p ≤ (BA : Rat) := ((amt_ovA o p).val (by decide)).2
theorem amt_dn {n : Nat} {s : Side} (o : OkSide n s) (p : Nat) : Dn DA (amt s p) := (amt_ovA o p).dn
/-! ### a run that wets -/
structure WSt (N : Net) (v : Nat → Rat) (V D : Nat) (s : Steps) : Prop where
  par : ∀ e ∈ s, e.1 < N.deeds.length ∧ 0 < e.2 ∧ e.2 ≤ 1
  can : CanW N v s
  nn : ∀ p, p < N.many → 0 ≤ afters N v s p
  wet : ∀ p, p < N.many → Wet N v (s.map (·.1)) p → 0 < afters N v s p
  up : ∀ p, p < N.many → afters N v s p ≤ (V : Rat) + (s.length : Rat) * (BA : Rat)
  dn : ∀ p, p < N.many → Dn D (afters N v s p)
  ds : ∀ e ∈ s, ∀ x ∈ (deedAt N e.1).1 ++ (deedAt N e.1).2, Dn D (e.2 * x.2)
  dp : ∀ e ∈ s, Dn D e.2
theorem WSt.nil {N : Net} {v : Nat → Rat} {V D : Nat} (h0 : ∀ p, p < N.many → 0 ≤ v p) (h1 : ∀ p, p < N.many → v p ≤ (V : Rat)) (h2 : ∀ p, p < N.many → Dn D (v p)) : WSt N v V D [] where
  par := fun e h => nomatch h
  can := fun k e h => by simp at h
  nn := h0
  wet := fun p hp h => by
    rcases h with h | ⟨j, hj, _⟩
    · exact h.2
    · cases hj
  up := fun p hp => by
    show v p ≤ (V : Rat) + ((0 : Nat) : Rat) * (BA : Rat)
    have e : ((0 : Nat) : Rat) = 0 := rfl
    rw [e, Rat.zero_mul, Rat.add_zero]
    exact h1 p hp
  dn := h2
  ds := fun e h => nomatch h
  dp := fun e h => nomatch h
/-- the part by which a deed is done -/
structure PartOk (N : Net) (x : Nat → Rat) (j : Nat) (c : Rat) (E : Nat) : Prop where
  pos : 0 < c
  one : c ≤ 1
  half : ∀ e ∈ (deedAt N j).1, c * e.2 ≤ x e.1 * (1 / 2)
  dn : ∀ D, (∀ p, p < N.many → Dn D (x p)) → Dn (D * E) c
theorem WSt.snoc {N : Net} {v : Nat → Rat} {V D E j : Nat} {c : Rat} {s : Steps} (o : OkNet N) (w : WSt N v V D s) (hj : j < N.deeds.length) (hw : ∀ p ∈ tk N j, Wet N v (s.map (·.1)) p) (pc : PartOk N (afters N v s) j c E) : WSt N v V (D * (E * DA)) (s ++ [(j, c)]) := by
  obtain ⟨o1, o2⟩ := o.deed (deedAt_of hj)
  have c1 := pc.one
  have c0 := pc.pos
  have tkn : ∀ e ∈ (deedAt N j).1, c * e.2 ≤ afters N v s e.1 * (1 / 2) := pc.half
  have key : ∀ p, p < N.many → afters N v s p * (1 / 2) + c * amt (deedAt N j).2 p ≤ afters N v (s ++ [(j, c)]) p ∧ afters N v (s ++ [(j, c)]) p ≤ afters N v s p + (BA : Rat) := by
    intro p hp
    have e : afters N v (s ++ [(j, c)]) p = afters N v s p + c * (amt (deedAt N j).2 p - amt (deedAt N j).1 p) := by
      rw [afters_snoc]
      rfl
    rw [e]
    have n0 := w.nn p hp
    have a2 := amt_nn o2 p
    have b2 := amt_le o2 p
    have a1 := amt_nn o1 p
    have h3 : c * amt (deedAt N j).1 p ≤ afters N v s p * (1 / 2) := by
      rcases amt_cases o1 p with ⟨_, h⟩ | ⟨e, he, ep, h, _⟩
      · rw [h, Rat.mul_zero]
        grind
      · rw [h, ← ep]
        exact tkn e he
    have h4 : 0 ≤ c * amt (deedAt N j).1 p := Rat.mul_nonneg (Rat.le_of_lt c0) a1
    have h5 : c * amt (deedAt N j).2 p ≤ 1 * amt (deedAt N j).2 p := Rat.mul_le_mul_of_nonneg_right c1 a2
    constructor
    · grind
    · grind
  have dnc := pc.dn D w.dn
  have e1 : D * (E * DA) = D * E * DA := (Nat.mul_assoc _ _ _).symm
  refine ⟨fun e he => ?_, ?_, fun p hp => ?_, fun p hp h => ?_, fun p hp => ?_, fun p hp => ?_, fun e he => ?_, fun e he => ?_⟩
  · rcases List.mem_append.mp he with he | he
    · exact w.par e he
    · have : e = (j, c) := by simpa using he
      subst this
      exact ⟨hj, c0, c1⟩
  · intro k e he x hx
    by_cases hk : k < s.length
    · rw [List.getElem?_append_left hk] at he
      rw [List.take_append_of_le_length (by omega)]
      exact w.can k e he x hx
    · have ek : k = s.length := by
        have := lt_of_get he
        rw [List.length_append] at this
        simp at this
        omega
      subst ek
      rw [List.getElem?_append_right (Nat.le_refl _), Nat.sub_self] at he
      have : (j, c) = e := Option.some.inj he
      subst this
      rw [List.take_append_of_le_length (Nat.le_refl _), List.take_length]
      have h1 := tkn x hx
      have h2 := w.nn x.1 (o1.1 x hx).1
      show c * x.2 ≤ afters N v s x.1
      grind
  · have h1 := (key p hp).1
    have h2 := w.nn p hp
    have h3 := Rat.mul_nonneg (Rat.le_of_lt c0) (amt_nn o2 p)
    grind
  · have h1 := (key p hp).1
    have h2 := w.nn p hp
    have h3 := Rat.mul_nonneg (Rat.le_of_lt c0) (amt_nn o2 p)
    rw [List.map_append] at h
    rcases Wet.snoc.mp h with h | h
    · have := w.wet p hp h
      grind
    · rcases amt_cases o2 p with ⟨hn, _⟩ | ⟨e, _, _, h4, h5⟩
      · exact absurd h hn
      · have h6 := Rat.mul_pos c0 h5
        rw [← h4] at h6
        grind
  · have h1 := (key p hp).2
    have h2 := w.up p hp
    rw [List.length_append, List.length_singleton]
    have e : ((s.length + 1 : Nat) : Rat) = (s.length : Rat) + 1 := by rw [Rat.natCast_add] <;> rfl
    rw [e]
    grind
  · rw [afters_snoc]
    show Dn _ (afters N v s p + c * (amt (deedAt N j).2 p - amt (deedAt N j).1 p))
    refine Dn.add (w.dn p hp).up ?_
    rw [e1]
    exact dnc.mul ((amt_dn o2 p).sub (amt_dn o1 p))
  · intro x hx
    rcases List.mem_append.mp he with he | he
    · exact (w.ds e he x hx).up
    · have : e = (j, c) := by simpa using he
      subst this
      rw [e1]
      refine dnc.mul ?_
      rcases List.mem_append.mp hx with h | h
      · exact (o1.1 x h).2.1.dn
      · exact (o2.1 x h).2.1.dn
  · rcases List.mem_append.mp he with he | he
    · exact (w.dp e he).up
    · have : e = (j, c) := by simpa using he
      subst this
      rw [e1]
      exact dnc.up
/-- an amount as a fraction over DA -/
theorem amt_int {D : Nat} {a : Rat} (h : Ov D BA a) (p : 0 < a) (hD : 0 < D) : ∃ A : Nat, 0 < A ∧ A ≤ BA ∧ a * (D : Rat) = (A : Rat) := by
  obtain ⟨k, e, hk⟩ := h
  have h1 : (0 : Rat) < (k : Rat) := by
    rw [← e]
    exact Rat.mul_pos p (natRp hD)
  have h2 : 0 < k := by
    have e0 : ((0 : Int) : Rat) = 0 := rfl
    rw [← e0] at h1
    exact Rat.intCast_lt_intCast.mp h1
  refine ⟨k.natAbs, by omega, hk, ?_⟩
  rw [e, ← Rat.intCast_natCast]
  congr 1
  omega
/-- dividing by an amount -/
theorem div_dn {D A : Nat} {x a : Rat} (hA : 0 < A) (h : a * (DA : Rat) = (A : Rat)) (a0 : 0 < a) (hx : Dn D x) : Dn (D * A) (x / a) := by
  obtain ⟨k, e⟩ := hx
  refine ⟨k * (DA : Nat), ?_⟩
  have h0 : a ≠ 0 := by grind
  rw [Rat.natCast_mul, Rat.intCast_mul, ← e, ← h, Rat.intCast_natCast, Rat.div_def]
  have := Rat.mul_inv_cancel a h0
  grind
theorem part_ok {N : Net} {x : Nat → Rat} {j : Nat} {c : Rat} (o : OkNet N) (hj : j < N.deeds.length) (hx : ∀ p ∈ tk N j, 0 < x p) (hc : (mostS (deedAt N j).1 x = none ∧ c = 1) ∨ ∃ m, mostS (deedAt N j).1 x = some m ∧ ((m / 2 < 1 ∧ c = m / 2) ∨ (¬ m / 2 < 1 ∧ c = 1))) : ∃ E, 0 < E ∧ E ≤ 2 ^ 69 ∧ PartOk N x j c E := by
  obtain ⟨o1, o2⟩ := o.deed (deedAt_of hj)
  have h2 : (1 : Rat) / 2 * 2 = 1 := by grind
  have one : ∀ D : Nat, Dn (D * 1) 1 := fun D => ⟨D, by
    rw [Nat.mul_one, Rat.one_mul, Rat.intCast_natCast]⟩
  have le : ∀ m, mostS (deedAt N j).1 x = some m → ∀ e ∈ (deedAt N j).1, m / 2 * e.2 ≤ x e.1 * (1 / 2) := fun m hm e he => by
    have a0 := (o1.1 e he).2.2
    have h := Rat.mul_le_mul_of_nonneg_right (mostS_le hm e he) (Rat.le_of_lt a0)
    rw [Rat.div_mul_cancel (by grind)] at h
    grind
  rcases hc with ⟨hn, rfl⟩ | ⟨m, hm, h⟩
  · refine ⟨1, by decide, by decide, by decide, Rat.le_refl, fun e he => ?_, fun D _ => one D⟩
    rw [mostS_none hn] at he
    cases he
  · rcases h with ⟨h1, rfl⟩ | ⟨h1, rfl⟩
    · obtain ⟨e, he, em⟩ := mostS_in hm
      have oe := o1.1 e he
      have a0 := oe.2.2
      obtain ⟨A, hA, hA2, eA⟩ := amt_int oe.2.1 a0 (by decide)
      have xp := hx e.1 (List.mem_map.mpr ⟨e, he, rfl⟩)
      have ip := Rat.inv_pos.mpr a0
      have mp : 0 < m := by
        rw [em, Rat.div_def]
        exact Rat.mul_pos xp ip
      refine ⟨A * 2, by omega, by have : BA = 2 ^ 68 := rfl; omega, by grind, by grind, le m hm, fun D hD => ?_⟩
      have q := div_dn hA eA a0 (hD e.1 oe.1)
      rw [← em] at q
      obtain ⟨k, ek⟩ := q
      refine ⟨k, ?_⟩
      rw [← Nat.mul_assoc, Rat.natCast_mul, ← ek]
      have e2 : ((2 : Nat) : Rat) = 2 := rfl
      rw [e2]
      grind
    · refine ⟨1, by decide, by decide, by decide, Rat.le_refl, fun e he => ?_, fun D _ => one D⟩
      have q := le m hm e he
      have a0 := (o1.1 e he).2.2
      have q2 := Rat.mul_le_mul_of_nonneg_right (show (1 : Rat) ≤ m / 2 by grind) (Rat.le_of_lt a0)
      grind
end Tk
end
section
set_option Elab.async false
set_option linter.all false
set_option maxRecDepth 100000
set_option maxHeartbeats 4000000
set_option exponentiation.threshold 10000
namespace Tk
open PySem PySem.Spec PyProof.Rows L2
/-- which places get wet and which deeds can be done, both rising -/
structure CanBe (N : Net) (v : Nat → Rat) (ws fs : List Nat) : Prop where
  sw : ws.Pairwise (· < ·)
  sf : fs.Pairwise (· < ·)
  ex : ∃ gs, Reach N v gs ∧ Closed N v gs ∧ (∀ j, j ∈ fs ↔ j ∈ gs) ∧ ∀ p, p ∈ ws ↔ Wet N v gs p
theorem sorted_nat {l : List Nat} {ms : List Int} (h : ms.Perm (l.map fun i : Nat => (i : Int))) (s : ms.Pairwise (· ≤ ·)) (nd : l.Nodup) : ∃ l' : List Nat, ms = l'.map (fun i : Nat => (i : Int)) ∧ l'.Perm l ∧ l'.Pairwise (· < ·) := by
  have hm : ms = (ms.map Int.toNat).map (fun i : Nat => (i : Int)) := by
    rw [List.map_map]
    conv => lhs; rw [← List.map_id ms]
    refine List.map_congr_left fun x hx => ?_
    obtain ⟨i, _, rfl⟩ := List.mem_map.mp (h.mem_iff.mp hx)
    rfl
  have hp : (ms.map Int.toNat).Perm l := by
    have q := h.map Int.toNat
    rw [List.map_map] at q
    have e : (l.map (Int.toNat ∘ fun i : Nat => (i : Int))) = l := by
      conv => rhs; rw [← List.map_id l]
      exact List.map_congr_left fun x _ => rfl
    rw [e] at q
    exact q
  refine ⟨_, hm, hp, ?_⟩
  have hnd : (ms.map Int.toNat).Nodup := hp.nodup_iff.mpr nd
  have hle : (ms.map Int.toNat).Pairwise (· ≤ ·) := by
    rw [List.pairwise_map]
    exact s.imp fun {a b} hab => by omega
  exact (hle.and hnd).imp fun {a b} hab => by
    have h1 := hab.1
    have h2 : a ≠ b := hab.2
    omega
section
variable {P : Program} {w : World} {K : PySem.W.Frag} {mg : Str → Option Value} {base : Heap} {f : Addr} {fd : FuncData} {aN aO aT aH : Addr}
def RCanBe : RC := fun ds Q => ∃ N v, ds = [netD N, vD N.many v, natD (List.range N.deeds.length)] ∧ OkNet N ∧ ∀ ws fs, CanBe N v ws fs → Q (pr (natD ws) (natD fs))
theorem sc_can_be : FnScope ["net", "stand", "deeds", "found", "wet"] ["net", "stand", "deeds"] (defScope (top 49)) := ⟨rfl, rfl, rfl, by decide +kernel, rfl, by decide +kernel, by decide +kernel⟩
theorem ok_can_be (F : FnT K "can_be" (top 49) f fd) (B : Bt mg) (g_in_turn : Fn P w K mg base "in_turn" 2 (spD K RInTurn)) : FnOk P w K mg base CX0 3 f fd ["net", "stand", "deeds"] (spD K RCanBe) := by
  have nd := sc_can_be.nd
  refine okD F sc_can_be (by decide) (fun ds Q h => ?_) (fun cdv A outer s H hr => ?_)
  · obtain ⟨N, v, rfl, _⟩ := h
    rfl
  refine ⟨_, _, (sss_cons (ss_asg (se_call g_in_turn hr (sa_cons (sv 0) (sa_cons (sv 1) (sa_cons (sv 2) sa_nil)))) (sg_two 3 4 rfl nd (sg_name 3 nd) (sg_name 4 nd)))
      (sss_one (ss_ret (se_tup (sa_cons (se_sorted B.sorted (sv 4)) (sa_cons (se_sorted B.sorted (sv 3)) sa_nil)))))), fun ds Q h => ?_⟩
  obtain ⟨N, v, rfl, o, hQ⟩ := h
  refine ⟨_, rfl, _, rfl, _, rfl, N, v, rfl, o, fun fs ws r c wl => ?_⟩
  have l1 := r.len
  have l2 := wl.len o r
  have l3 := o.2.2.1
  refine ⟨_, rfl, _, _, rfl, _, _, rfl, rfl, _, rfl, ws.map fun i : Nat => (i : Int), by rw [natD_ints], by rw [List.length_map]; omega, fun ms p1 s1 => ?_⟩
  refine ⟨_, rfl, fs.map fun i : Nat => (i : Int), by rw [natD_ints], by rw [List.length_map]; omega, fun ns p2 s2 => ?_⟩
  obtain ⟨ws', rfl, pw, sw⟩ := sorted_nat p1 s1 wl.nd
  obtain ⟨fs', rfl, pf, sf⟩ := sorted_nat p2 s2 r.nd
  refine ⟨by show (2 : Nat) ≤ 1000; decide, ?_⟩
  have q := hQ ws' fs' ⟨sw, sf, fs, r, c, fun j => pf.mem_iff, fun p => pw.mem_iff.trans (wl.iff p)⟩
  rw [natD_ints, natD_ints] at q
  exact q
def RWetting : RC := fun ds Q => ∃ (N : Net) (v : Nat → Rat) (D V : Nat), ds = [netD N, vD N.many v, natD (List.range N.deeds.length), .list (mapD N.deeds.length fun _ => fr 1)] ∧ OkNet N ∧ (∀ p, p < N.many → 0 ≤ v p ∧ v p ≤ (V : Rat) ∧ Dn D (v p)) ∧ 0 < D ∧ D ≤ 2 ^ 50 ∧ V ≤ 2 ^ 60 ∧
  ∀ s D', WSt N v V D' s → 0 < D' → D' ≤ 2 ^ 729 → s.length ≤ 7 → Reach N v (s.map (·.1)) → Closed N v (s.map (·.1)) → Q (run1D s)
theorem run1D_ne {s : Steps} (h : s ≠ []) : run1D s = .list [turnD 1 s] := by
  cases s with
  | nil => exact absurd rfl h
  | cons e r => rfl
theorem wlvl {D i : Nat} (hi : i ≤ 7) (h : D ≤ 2 ^ (50 + 97 * i)) : D ≤ 2 ^ 729 := Nat.le_trans h (Nat.pow_le_pow_right (by decide) (by omega))
set_option exponentiation.threshold 10000 in
theorem pw_le {a b c : Nat} (h : a ≤ 2 ^ b) (hb : b < c) : a < 2 ^ c := Nat.lt_of_le_of_lt h (Nat.pow_lt_pow_right (by decide) hb)
theorem mul_pw {a b c d : Nat} (h : a ≤ 2 ^ b) (g : c ≤ 2 ^ d) : a * c ≤ 2 ^ (b + d) := by
  rw [Nat.pow_add]
  exact Nat.mul_le_mul h g
/-- the values that one turn of wetting works with are small -/
theorem wst_val {N : Net} {v : Nat → Rat} {V D : Nat} {s : Steps} (w : WSt N v V D s) (hV : V ≤ 2 ^ 60) (hl : s.length ≤ 7) (p : Nat) (hp : p < N.many) : 0 ≤ afters N v s p ∧ afters N v s p ≤ ((2 ^ 72 : Nat) : Rat) := by
  refine ⟨w.nn p hp, ?_⟩
  have h1 := w.up p hp
  have h2 : (V : Rat) + (s.length : Rat) * (BA : Rat) = ((V + s.length * BA : Nat) : Rat) := by rw [Rat.natCast_add, Rat.natCast_mul]
  rw [h2] at h1
  have h3 : V + s.length * BA ≤ 2 ^ 72 := by
    have := Nat.mul_le_mul_right BA hl
    have e : BA = 2 ^ 68 := rfl
    omega
  have := natR.mpr h3
  grind
theorem sm_of_dn {D d V e : Nat} {x : Rat} (hD : 0 < D) (hd : D ≤ 2 ^ d) (hV : V ≤ 2 ^ e) (h : Dn D x) (l : 0 ≤ x) (u : x ≤ (V : Rat)) (hs : d + e < 4490) : Sm x :=
  h.sm hD (by have := natR0 V; grind) u (pw_le (mul_pw hd hV) hs) (pw_le hd (by omega))
theorem sm_two : Sm 2 := ⟨by unfold Sz; decide +kernel, by unfold Sz; decide +kernel⟩
theorem sc_wetting : FnScope ["net", "stand", "deeds", "bounds", "now", "steps", "deed", "part", "most"] ["net", "stand", "deeds", "bounds"] (defScope (top 50)) := ⟨rfl, rfl, rfl, by decide +kernel, rfl, by decide +kernel, by decide +kernel⟩
theorem ok_wetting (F : FnT K "wetting" (top 50) f fd) (B : Bt mg) (C : Cst K mg aN aO aT aH) (g_divided : Fn P w K mg base "divided" 3 (spD K RDivided)) (g_done : Fn P w K mg base "done" 4 (spD K RDone)) (g_in_turn : Fn P w K mg base "in_turn" 2 (spD K RInTurn)) (g_is_less : Fn P w K mg base "is_less" 1 (spD K RIsLess)) (g_most_of : Fn P w K mg base "most_of" 4 (spD K RMostOf)) : FnOk P w K mg base CX0 5 f fd ["net", "stand", "deeds", "bounds"] (spD K RWetting) := by
  have nd := sc_wetting.nd
  refine okD F sc_wetting (by decide) (fun ds Q h => ?_) (fun cdv A outer s H hr => ?_)
  · obtain ⟨N, v, D, V, rfl, _⟩ := h
    rfl
  refine ⟨_, _, (sss_cons (ss_set 4 nd (se_ofN (sn_listOf B.list (sv 1))))
      (sss_cons (ss_setN 5 nd (sn_lst sa_nil))
      (sss_cons (ss_for rfl PassesOwn.never (si_list (se_ixT (se_call g_in_turn hr (sa_cons (sv 0) (sa_cons (sv 1) (sa_cons (sv 2) sa_nil)))) se_int)) (sg_name 6 nd)
      (sss_cons (ss_set 7 nd (se_ixL (sv 3) (sv 6)))
      (sss_cons (ss_set 8 nd (se_call g_most_of hr (sa_cons (sv 0) (sa_cons (sv 4) (sa_cons (sv 6) sa_nil)))))
      (sss_cons (ss_if (sw_and (st_notN (sv 8)) (sw_and1 (st_val (se_call g_is_less hr (sa_cons (se_call g_divided hr (sa_cons (sv 8) (sa_cons C.TWO sa_nil))) (sa_cons (sv 7) sa_nil)))))).t (sss_one (ss_set 7 nd (se_call g_divided hr (sa_cons (sv 8) (sa_cons C.TWO sa_nil))))) sss_nil)
      (sss_cons (ss_set 4 nd (se_call g_done hr (sa_cons (sv 0) (sa_cons (sv 4) (sa_cons (sv 6) (sa_cons (sv 7) sa_nil))))))
      (sss_one (ss_appd 5 (se_tup (sa_cons (sv 6) (sa_cons (sv 7) sa_nil))))))))))
      (sss_cons (ss_if (st_eq (se_len B.len (svf 5)) se_int) (sss_one (ss_ret (se_lst sa_nil))) sss_nil)
      (sss_one (ss_ret (se_lst (sa_cons (se_tup (sa_cons se_int (sa_cons (sv 5) sa_nil))) sa_nil)))))))), fun ds Q h => ?_⟩
  obtain ⟨N, v, D, V, rfl, o, hv, hD, hDl, hV, hQ⟩ := h
  have l5 := o.2.1
  have l7 := o.2.2.1
  refine ⟨_, rfl, _, rfl, by decide, ?_⟩
  refine ⟨_, rfl, _, rfl, _, rfl, N, v, rfl, o, fun fs ws r c wl => ?_⟩
  have lf := r.len
  refine ⟨_, 0, _, rfl, rfl, rfl, _, rfl, ?_⟩
  refine ⟨fun i A => ∃ s D' a b m, A = [.fz (netD N), .fz (vD N.many v), .fz (natD (List.range N.deeds.length)), .fz (.list (mapD N.deeds.length fun _ => fr 1)), .fz (vD N.many (afters N v s)), .mu true (stepsL s), a, b, m] ∧ s.map (·.1) = fs.take i ∧ WSt N v V D' s ∧ 0 < D' ∧ D' ≤ 2 ^ (50 + 97 * i),
    ⟨[], D, _, _, _, rfl, rfl, WSt.nil (fun p hp => (hv p hp).1) (fun p hp => (hv p hp).2.1) (fun p hp => (hv p hp).2.2), hD, hDl⟩, ?_, ?_⟩
  · rintro i d A hd ⟨s, D', a, b, m, rfl, hs, ws', hD', hDl'⟩
    obtain ⟨j, hj, rfl⟩ := natL_get hd
    have hi := lt_of_get hj
    have jl := r.lt j (mem_at hj)
    have hdj := deedAt_of jl
    obtain ⟨o1, o2⟩ := o.deed hdj
    have sl : s.length = i := by
      have q := congrArg List.length hs
      rw [List.length_map, List.length_take] at q
      omega
    have hwet : ∀ p ∈ tk N j, Wet N v (s.map (·.1)) p := by
      rw [hs]
      exact r.ok i j hj
    have pos : ∀ p ∈ tk N j, 0 < afters N v s p := fun p hp => by
      obtain ⟨e, he, rfl⟩ := List.mem_map.mp hp
      exact ws'.wet _ (o1.1 e he).1 (hwet _ hp)
    have vals := fun p hp => wst_val ws' hV (by omega) p hp
    have e729 := wlvl (show i ≤ 7 by omega) hDl'
    have sx : ∀ p, p < N.many → Sm (afters N v s p) := fun p hp => sm_of_dn hD' e729 (Nat.le_refl _) (ws'.dn p hp) (vals p hp).1 (vals p hp).2 (by decide)
    have mk : ∀ e ∈ (deedAt N j).1, Sm (afters N v s e.1 / e.2) ∧ Sm (afters N v s e.1 / e.2 / 2) := fun e he => by
      have oe := o1.1 e he
      have a0 := oe.2.2
      obtain ⟨A, hA, hA2, eA⟩ := amt_int oe.2.1 a0 (by decide)
      have dn := div_dn hA eA a0 (ws'.dn e.1 oe.1)
      have ip := Rat.inv_pos.mpr a0
      have nn : 0 ≤ afters N v s e.1 / e.2 := by
        rw [Rat.div_def]
        exact Rat.mul_nonneg (vals _ oe.1).1 (Rat.le_of_lt ip)
      have hA1 : (1 : Rat) ≤ (A : Rat) := natR.mpr hA
      have ub : afters N v s e.1 / e.2 ≤ ((2 ^ 72 * DA : Nat) : Rat) := by
        have i1 : e.2⁻¹ ≤ (DA : Rat) := by
          have q := Rat.mul_le_mul_of_nonneg_left hA1 (Rat.le_of_lt ip)
          rw [← eA] at q
          have := Rat.inv_mul_cancel e.2 (by grind)
          grind
        rw [Rat.div_def, Rat.natCast_mul]
        have q1 := Rat.mul_le_mul_of_nonneg_right (vals _ oe.1).2 (Rat.le_of_lt ip)
        have q2 := Rat.mul_le_mul_of_nonneg_left i1 (natR0 (2 ^ 72))
        grind
      have b1 : D' * A ≤ 2 ^ (729 + 68) := mul_pw e729 hA2
      have dn2 : Dn (D' * A * 2) (afters N v s e.1 / e.2 / 2) := by
        obtain ⟨k, ek⟩ := dn
        refine ⟨k, ?_⟩
        rw [Rat.natCast_mul, ← ek]
        have e2 : ((2 : Nat) : Rat) = 2 := rfl
        rw [e2]
        grind
      have pA := Nat.mul_pos hD' hA
      have v100 : 2 ^ 72 * DA ≤ 2 ^ 100 := by decide
      exact ⟨sm_of_dn pA b1 v100 dn nn ub (by decide), sm_of_dn (d := 798) (by omega) (by
        have : (2 : Nat) ^ 798 = 2 ^ (729 + 68) * 2 := rfl
        omega) v100 dn2 (by grind) (by grind) (by decide)⟩
    have hend : ∀ c, ((mostS (deedAt N j).1 (afters N v s) = none ∧ c = 1) ∨ ∃ m, mostS (deedAt N j).1 (afters N v s) = some m ∧ ((m / 2 < 1 ∧ c = m / 2) ∨ (¬ m / 2 < 1 ∧ c = 1))) → ∀ m' (C : AEnds), (∀ A, (∃ s D' a b m, A = [.fz (netD N), .fz (vD N.many v), .fz (natD (List.range N.deeds.length)), .fz (.list (mapD N.deeds.length fun _ => fr 1)), .fz (vD N.many (afters N v s)), .mu true (stepsL s), a, b, m] ∧ s.map (·.1) = fs.take (i + 1) ∧ WSt N v V D' s ∧ 0 < D' ∧ D' ≤ 2 ^ (50 + 97 * (i + 1))) → C.nx A) →
        aSeq (aSet 4 (aCall RDone (aCons (aVar 0) (aCons (aVar 4) (aCons (aVar 6) (aCons (aVar 7) aNil)))))) (aApp 5 (aTup (aCons (aVar 6) (aCons (aVar 7) aNil))))
          C
          [.fz (netD N), .fz (vD N.many v), .fz (natD (List.range N.deeds.length)), .fz (.list (mapD N.deeds.length fun _ => fr 1)), .fz (vD N.many (afters N v s)), .mu true (stepsL s), .fz (.int (j : Nat)), .fz (fr c), m'] := fun c hc m' C hC => by
      obtain ⟨E, hE, hE2, pc⟩ := part_ok o jl pos hc
      have dc := pc.dn D' ws'.dn
      have pE : 0 < D' * (E * DA) := Nat.mul_pos hD' (Nat.mul_pos hE (by decide))
      have bE : D' * (E * DA) ≤ 2 ^ (50 + 97 * (i + 1)) := by
        have q := mul_pw hDl' (mul_pw hE2 (show DA ≤ 2 ^ 28 by decide))
        rw [show 50 + 97 * (i + 1) = 50 + 97 * i + (69 + 28) by omega]
        exact q
      have b826 : D' * (E * DA) ≤ 2 ^ 826 := mul_pw e729 (mul_pw hE2 (show DA ≤ 2 ^ 28 by decide))
      have w2 := ws'.snoc o jl hwet pc
      have scm : Sm c := sm_of_dn (V := 1) (e := 0) (Nat.mul_pos hD' hE) (mul_pw e729 hE2) (by decide) dc (Rat.le_of_lt pc.pos) pc.one (by decide)
      refine ⟨_, rfl, _, rfl, _, rfl, _, rfl, N, j, afters N v s, c, D' * (E * DA), D' * (E * DA) * 2 ^ 72, D' * (E * DA) * BA, rfl, o, jl, scm, fun p hp => ?_, fun x hx => ?_, ⟨pE, pw_le b826 (by decide), ?_⟩, fun x hx => ?_, ?_⟩
      · have q := vals p hp
        exact (ws'.dn p hp).up.ov (by have := natR0 (2 ^ 72); grind) q.2
      · have q := w2.ds (j, c) (by simp) x hx
        have oa : Ov DA BA x.2 ∧ 0 < x.2 := by
          rcases List.mem_append.mp hx with h | h
          · exact (o1.1 x h).2
          · exact (o2.1 x h).2
        have v1 := (oa.1.val (by decide)).2
        have n1 := Rat.mul_nonneg (Rat.le_of_lt pc.pos) (Rat.le_of_lt oa.2)
        have u1 := Rat.mul_le_mul_of_nonneg_right pc.one (Rat.le_of_lt oa.2)
        exact q.ov (by have := natR0 BA; grind) (by grind)
      · have q := Nat.mul_le_mul_right (2 ^ 72 + 10 * BA) b826
        rw [Nat.mul_add] at q
        have e : 2 ^ 826 * (2 ^ 72 + 10 * BA) < 2 ^ 4490 := by decide +kernel
        have e3 : D' * (E * DA) * (10 * BA) = 10 * (D' * (E * DA) * BA) := by rw [Nat.mul_left_comm]
        omega
      · have q := pc.half x hx
        have q2 := (vals x.1 (o1.1 x hx).1).1
        grind
      refine ⟨⟨_, _, rfl⟩, _, rfl, _, rfl, by show (2 : Nat) ≤ 1000; decide, _, _, rfl, by rw [stepsL_len]; omega, ?_⟩
      refine hC _ ⟨s ++ [(j, c)], D' * (E * DA), .fz (.int (j : Nat)), .fz (fr c), m', ?_, ?_, w2, pE, bE⟩
      · rw [afters_snoc]
        unfold stepsL
        rw [List.map_append]
        rfl
      · rw [List.map_append, hs, take_next hj]
        rfl
    refine ⟨_, rfl, _, rfl, _, _, _, rfl, rfl, mapD_ix jl, ?_⟩
    refine ⟨_, rfl, _, rfl, _, rfl, N, j, _, rfl, o, jl, sx, fun e he => (mk e he).1, ?_⟩
    refine ⟨_, rfl, rfl, _, rfl, ?_⟩
    cases q : mostS (deedAt N j).1 (afters N v s) with
    | none =>
      refine iteF ?_
      refine iteF ?_
      exact hend 1 (.inl ⟨q, rfl⟩) _ _ fun A h => h
    | some m0 =>
      obtain ⟨e, he, em⟩ := mostS_in q
      refine iteT ?_
      refine ⟨_, rfl, _, _, rfl, by rw [em]; exact (mk e he).1, sm_two, by decide, _, rfl, _, _, rfl, by rw [em]; exact (mk e he).2, sm_one, _, rfl, ?_⟩
      refine ite2 (fun hl => ?_) (fun hl => ?_)
      · refine ⟨_, rfl, _, _, rfl, by rw [em]; exact (mk e he).1, sm_two, by decide, ?_⟩
        exact hend (m0 / 2) (.inr ⟨m0, q, .inl ⟨of_decide_eq_true hl, rfl⟩⟩) _ _ fun A h => h
      · exact hend 1 (.inr ⟨m0, q, .inr ⟨fun z => hl (decide_eq_true z), rfl⟩⟩) _ _ fun A h => h
  · rintro A ⟨s, D', a, b, m, rfl, hs, ws', hD', hDl'⟩
    rw [natL_len, List.take_length] at hs
    rw [natL_len] at hDl'
    have sl : s.length = fs.length := by
      have q := congrArg List.length hs
      rw [List.length_map] at q
      exact q
    have hR := hQ s D' ws' hD' (wlvl (by omega) hDl') (by omega) (by rw [hs]; exact r) (by rw [hs]; exact c)
    refine ⟨_, rfl, _, .inl rfl, _, rfl, _, rfl, ?_⟩
    cases s with
    | nil =>
      refine iteT ?_
      exact ⟨by decide, hR⟩
    | cons e r =>
      refine iteF ?_
      exact ⟨_, rfl, by show (2 : Nat) ≤ 1000; decide, by show (1 : Nat) ≤ 1000; decide, hR⟩
end
end Tk
end
section
set_option Elab.async false
set_option linter.all false
set_option maxRecDepth 100000
set_option maxHeartbeats 4000000
set_option exponentiation.threshold 10000
namespace Tk
open PySem PySem.Spec PyProof.Rows L2
/-! ### dict(x).get(k, d) -/
inductive KVs (K : PySem.W.Frag) (F : Hp) : List (Int × PyData) → List (Key × V) → Prop
  | nil : KVs K F [] []
  | cons {i : Int} {d : PyData} {v : V} {es : List (Int × PyData)} {kvs : List (Key × V)} (h : DD K F v d) (hs : KVs K F es kvs) : KVs K F ((i, d) :: es) ((.inl i, v) :: kvs)
theorem KVs.keys {K : PySem.W.Frag} {F : Hp} : ∀ {es : List (Int × PyData)} {kvs : List (Key × V)}, KVs K F es kvs → kvs.map (·.1) = es.map fun e => (Sum.inl e.1 : Key)
  | _, _, .nil => rfl
  | _, _, .cons _ hs => by rw [List.map_cons, List.map_cons, KVs.keys hs]
theorem KVs.val {K : PySem.W.Frag} {F : Hp} {i : Int} {v0 : V} {d0 : PyData} (h0 : DD K F v0 d0) : ∀ {es : List (Int × PyData)} {kvs : List (Key × V)}, KVs K F es kvs → DD K F ((valV kvs (.inl i)).getD v0) (((es.find? fun e => decide (e.1 = i)).map (·.2)).getD d0)
  | _, _, .nil => h0
  | _, _, .cons (i := k) (d := d) (v := v) (es := es) (kvs := kvs) h hs => by
    unfold valV
    rw [List.find?_cons, List.find?_cons]
    by_cases hk : k = i
    · rw [decide_eq_true (show (Sum.inl k : Key) = .inl i by rw [hk]), decide_eq_true hk]
      exact h
    · rw [decide_eq_false (fun z : (Sum.inl k : Key) = .inl i => hk (Sum.inl.inj z)), decide_eq_false hk]
      exact KVs.val h0 hs
theorem KVs.mono {K : PySem.W.Frag} {F F' : Hp} (e : Same F F') : ∀ {es : List (Int × PyData)} {kvs : List (Key × V)}, KVs K F es kvs → KVs K F' es kvs
  | _, _, .nil => .nil
  | _, _, .cons h hs => .cons (h.mono e) (KVs.mono e hs)
theorem pairs_kv {K : PySem.W.Frag} {F : Hp} : ∀ {es : List (Int × PyData)} {vs : List V}, DDs K F vs (es.map fun e => pr (.int e.1) e.2) → ∃ (ps : List Addr) (kvs : List (Key × V)), vs = ps.map V.ref ∧ Paired (fun p kv => SqT K F p [kV kv.1, kv.2]) ps kvs ∧ KVs K F es kvs
  | [], _, h => by
    cases h
    exact ⟨[], [], rfl, .nil, .nil⟩
  | (i, d) :: es, _, h => by
    cases h with
    | cons h hs =>
      obtain ⟨ps, kvs, rfl, hp, hk⟩ := pairs_kv hs
      obtain ⟨a, ws, rfl, sq, hw⟩ := h.tup_v
      obtain ⟨v, u, rfl, h1, h2⟩ := hw.two
      have e1 := h1.int_v
      subst e1
      exact ⟨a :: ps, (.inl i, u) :: kvs, rfl, .cons sq hp, .cons h2 hk⟩
theorem paired_mono {α β : Type} {R S : α → β → Prop} (h : ∀ a b, R a b → S a b) : ∀ {l : List α} {m : List β}, Paired R l m → Paired S l m
  | _, _, .nil => .nil
  | _, _, .cons q qs => .cons (h _ _ q) (paired_mono h qs)
theorem merge_nd : ∀ (more kvs : List (Key × V)), ((kvs ++ more).map (·.1)).Nodup → mergeK kvs more = kvs ++ more
  | [], kvs, _ => by
    rw [List.append_nil]
    rfl
  | (k, v) :: r, kvs, h => by
    show mergeK (putK kvs k v) r = _
    have hn : (kvs.any fun kv => decide (kv.1 = k)) = false := by
      rw [List.any_eq_false]
      intro kv hkv
      have h1 := h
      rw [List.map_append, List.map_cons, List.nodup_append] at h1
      have h2 := h1.2.2 kv.1 (List.mem_map.mpr ⟨kv, hkv, rfl⟩) k List.mem_cons_self
      simpa using h2
    have e : putK kvs k v = kvs ++ [(k, v)] := by
      unfold putK
      rw [hn]
      rfl
    rw [e, merge_nd r (kvs ++ [(k, v)]) (by rw [List.append_assoc]; exact h), List.append_assoc]
    rfl
def aDictGet (a k d : AE) : AE := fun A Q => a A fun x A1 => ∃ es : List (Int × PyData), x = .list (es.map fun e => pr (.int e.1) e.2) ∧ (es.map (·.1)).Nodup ∧ k A1 fun y A2 => d A2 fun z A3 => ∃ i : Int, y = .int i ∧ Q (((es.find? fun e => decide (e.1 = i)).map (·.2)).getD z) A3
section
variable {X : Cx} {e ek ed : Expr} {te tk td : TE} {ae ak ad : AE} {p apos p2 pos : Pos}
theorem se_dictGet {K : PySem.W.Frag} (hc : X.calm = true) (hu : X.A.units + 64 < cLine) (hm : X.mg "dict" = none) (he : SE X e te ae) (hk : SE X ek tk ak) (hd : SE X ed td ad) (hg : Gl X "dict" := by rfl)
    (h1 : starEach [e] X.env = (false, eval e X.env) :: starEach [] X.env := by rfl) (h2 : (backTo p2 (starEach [] X.env)).any (·.1) = false := by rfl)
    (hb : attributeBase (.Call (.Name "dict" p) [e] [] p2) "get" X.env (eval (.Call (.Name "dict" p) [e] [] p2) X.env) = eval (.Call (.Name "dict" p) [e] [] p2) X.env := by rfl)
    (hf : ((backTo pos (starEach [ek, ed] X.env)).all (fun x => !x.1) && (backToKw pos (keywordEach [] X.env)).all (fun x => x.1.isSome) && decide (([ek, ed] : List Expr).length + ([] : List Keyword).length + (if ([] : List Keyword).isEmpty then 0 else 1) < 30)) = true := by rfl)
    (hl : (apos.endLine == pos.line) = true := by rfl) (ht : backTo pos (starEach [ek, ed] X.env) = [(false, eval ek X.env), (false, eval ed X.env)] := by rfl) (hK : X.K = K := by rfl) :
    SE X (.Call (.Attribute (.Call (.Name "dict" p) [e] [] p2) "get" apos) [ek, ed] [] pos)
      (tDGet2 (tCB (fun xs H Q => ∃ (a : Addr) (ps : List Addr) (kvs : List (Key × V)), xs = [.ref a] ∧ SqL K H a (ps.map V.ref) ∧ Paired (fun p kv => SqT K H p [kV kv.1, kv.2]) ps kvs ∧ ∀ p, H p = none → Q (.ref p) (upd H p (.dK (mergeK [] kvs)))) (tCons te tNil)) tk td)
      (aDictGet ae ak ad) := by
  subst hK
  refine ⟨pe_dget2 (by omega) (pe_callTy (call_dictP hc) hg hm (by decide +kernel) (sa_cons he sa_nil h1).p (by decide) (by decide) h1 h2) hk.p hd.p ⟨hb, hf, hl, ht⟩, fun M F0 H0 A σ F H Qd Q rp h k => ?_⟩
  refine he.s M F0 H0 A σ F H _ _ rp h fun x v A1 F1 H1 q1 e1 d1 => ?_
  obtain ⟨es, rfl, nd, q1⟩ := q1
  obtain ⟨a, vs, rfl, fa, hvs⟩ := d1.list_v
  obtain ⟨ps, kvs, rfl, hp, hkv⟩ := pairs_kv hvs
  have sub1 := e1.rp.sub
  refine ⟨a, ps, kvs, rfl, SqL.of (sub1 _ _ fa), paired_mono (fun p kv z => sameT sub1 z) hp, fun q hq => ?_⟩
  have mk : mergeK [] kvs = kvs := by
    rw [merge_nd kvs [] ?_, List.nil_append]
    rw [List.nil_append, hkv.keys]
    have e2 : (es.map fun e => (Sum.inl e.1 : Key)) = (es.map (·.1)).map Sum.inl := by rw [List.map_map]; rfl
    rw [e2]
    exact List.Pairwise.map _ (fun a b hab z => hab (Sum.inl.inj z)) nd
  rw [mk]
  have g1 : Gr F1 H1 F1 (upd H1 q (.dK kvs)) := Gr.laid sub1 hq
  have r1 := e1.rp.grow g1
  have ev1 := e1.trans (Ev.grow e1.rp g1)
  have nq : ∀ {A' : Sto} {F' H' : Hp}, Rp X.K M F0 H0 A' σ F' H' → (∀ p, MutA A' σ p → MutA A1 σ p) → ¬ MutA A' σ q := fun r mm m => by
    obtain ⟨i, o, es', z1, z2⟩ := mm q m
    obtain ⟨p', vs', y1, y2, _⟩ := e1.rp.mu_at z1
    have ep : p' = q := ref_inj y1 z2
    subst ep
    rw [hq] at y2
    cases y2
  refine ⟨q, rfl, .inl ⟨kvs, Rd.of upd_same⟩, ?_⟩
  refine hk.s M F0 H0 A1 σ F1 _ _ _ r1 q1 fun y u A2 F2 H2 q2 e2 d2 => ?_
  refine hd.s M F0 H0 A2 σ F2 H2 _ _ e2.rp q2 fun z u' A3 F3 H3 q3 e3 d3 => ?_
  obtain ⟨i, rfl, q3⟩ := q3
  have eu := (d2.mono e3.ff).int_v
  subst eu
  have k2 := e2.kp q _ upd_same (nq r1 fun _ m => m)
  have k3 := e3.kp q _ k2 (nq e2.rp fun p m => e2.mm p m)
  refine ⟨_, .inl ⟨kvs, .inl i, Rd.of k3, rfl, rfl⟩, ?_⟩
  refine k _ _ A3 F3 H3 q3 (ev1.trans (e2.trans e3)) ?_
  have hkv3 : KVs X.K F3 es kvs := hkv.mono (e2.ff.trans e3.ff)
  exact hkv3.val d3
end
/-! ### data -/
def absR (x : Rat) : Rat := if x < 0 then -x else x
theorem fr_abs (x : Rat) : PyData.tuple [.int (if x.num < 0 then -x.num else x.num), .int (x.den : Int)] = fr (absR x) := by
  unfold absR
  by_cases h : x < 0
  · rw [if_pos h, if_pos (num_neg.mpr h)]
    rfl
  · rw [if_neg h, if_neg (fun z => h (num_neg.mp z))]
theorem absR_nn (x : Rat) : 0 ≤ absR x := by
  unfold absR
  split <;> grind
theorem absR_pos {x : Rat} (h : x ≠ 0) : 0 < absR x := by
  unfold absR
  split <;> grind
theorem absR_le {x y : Rat} (h1 : x ≤ y) (h2 : -x ≤ y) : absR x ≤ y := by
  unfold absR
  split <;> assumption
theorem Sz.neg {i : Int} (h : Sz i) : Sz (-i) := by
  unfold Sz at h ⊢
  rw [Int.natAbs_neg]
  exact h
theorem Sm.abs {x : Rat} (h : Sm x) : Sm (absR x) := by
  unfold absR
  split
  · exact ⟨by rw [Rat.neg_num]; exact h.1.neg, h.2⟩
  · exact h
theorem dig_fr (x : Rat) : fr x = .tuple [.int x.num, .int (x.den : Int)] := rfl
/-- what is taken from a place in all -/
abbrev tkv (N : Net) (p : Nat) : Nat → Rat := fun j => amt (deedAt N j).1 p
def taken (N : Net) (parts : Nat → Rat) (p : Nat) : Rat := dotN parts (tkv N p) N.deeds.length
theorem find_amt {s : Side} {p : Nat} : (s.map (·.1)).Nodup → (((s.map fun e => ((e.1 : Int), fr e.2)).find? fun e => decide (e.1 = (p : Int))).map (·.2)).getD (fr 0) = fr (amt s p) := by
  induction s with
  | nil => intro _; rfl
  | cons e r ih =>
    intro nd
    have nd' := List.nodup_cons.mp nd
    rw [List.map_cons, List.find?_cons]
    by_cases h : e.1 = p
    · rw [decide_eq_true (show ((e.1 : Nat) : Int) = (p : Int) by rw [h])]
      show fr e.2 = fr ((if e.1 = p then e.2 else 0) + amt r p)
      rw [if_pos h, amt_none (h ▸ nd'.1), Rat.add_zero]
    · rw [decide_eq_false (show ¬ ((e.1 : Nat) : Int) = (p : Int) by omega)]
      show (((r.map fun e => ((e.1 : Int), fr e.2)).find? fun e => decide (e.1 = (p : Int))).map (·.2)).getD (fr 0) = fr ((if e.1 = p then e.2 else 0) + amt r p)
      rw [if_neg h, Rat.zero_add]
      exact ih nd'.2
theorem mapD_of_list {N : Net} {i : Nat} {d : PyData} (h : (N.deeds.map deedD)[i]? = some d) : i < N.deeds.length ∧ d = deedD (deedAt N i) := by
  have hi := lt_of_get h
  rw [List.length_map] at hi
  rw [List.getElem?_map, deedAt_of hi] at h
  exact ⟨hi, (Option.some.inj h).symm⟩
theorem ceil_le {x : Rat} {n : Int} (h : x ≤ (n : Rat)) : x.ceil ≤ n := Rat.ceil_le_iff.mpr h
section
variable {P : Program} {w : World} {K : PySem.W.Frag} {mg : Str → Option Value} {base : Heap} {f : Addr} {fd : FuncData} {aN aO aT aH : Addr}
def RLeftOut : RC := fun ds Q => ∃ (n : Nat) (l : List Nat), ds = [.int (n : Nat), natD l] ∧ n ≤ 1000 ∧ Q (natD ((List.range n).filter fun p => !decide (p ∈ l)))
theorem sc_left_out : FnScope ["many", "places", "place"] ["many", "places"] (defScope (top 52)) := ⟨rfl, rfl, rfl, by decide +kernel, rfl, by decide +kernel, by decide +kernel⟩
theorem ok_left_out (F : FnT K "left_out" (top 52) f fd) (B : Bt mg) : FnOk P w K mg base CX0 1 f fd ["many", "places"] (spD K RLeftOut) := by
  have nd := sc_left_out.nd
  refine okD F sc_left_out (by decide) (fun ds Q h => ?_) (fun cdv A outer s H hr => ?_)
  · obtain ⟨n, l, rfl, _⟩ := h
    rfl
  refine ⟨_, _, (sss_one (ss_ret (se_ofN (sn_lc [("place", 2)] rfl nd (si_range B.range (sa_cons (sv 0) sa_nil)) (by kernel_rfl) (fun _ _ _ _ _ => by exact (sg_name 2 nd)) (fun _ _ _ _ _ => by exact (sts_one (st_notIn (sv 2) (sv 1)))) (fun _ _ _ _ _ => by exact (sv 2)))))), fun ds Q h => ?_⟩
  obtain ⟨n, l, rfl, hn, hQ⟩ := h
  refine ⟨_, rfl, n, rfl, hn, rfl, by rw [rgD_map, mapD_len]; exact hn, fun i => if !decide (i ∈ l) then some (.int (i : Nat)) else none, fun i d hd => ?_, ?_⟩
  · rw [rgD_map] at hd
    obtain ⟨hi, rfl⟩ := mapD_get hd
    refine ⟨_, rfl, _, rfl, i, l.map fun i : Nat => (i : Int), rfl, natD_ints l, _, rfl, rfl, ?_⟩
    rw [if_pos rfl, dec_ints]
    refine ite2 (fun hy => ?_) (fun hy => ?_)
    · refine ⟨_, rfl, rfl, ?_⟩
      dsimp only
      rw [if_pos hy]
    · dsimp only
      rw [if_neg hy]
  · rw [rgD_map, mapD_len, outs_filter fun i _ => rfl]
    exact hQ
def RDoneDeeds : RC := fun ds Q => ∃ n v, ds = [vD n v] ∧ n ≤ 1000 ∧ Q (natD ((List.range n).filter fun p => decide (0 < v p)))
theorem sc_done_deeds : FnScope ["parts", "deed", "part"] ["parts"] (defScope (top 53)) := ⟨rfl, rfl, rfl, by decide +kernel, rfl, by decide +kernel, by decide +kernel⟩
theorem ok_done_deeds (F : FnT K "done_deeds" (top 53) f fd) (B : Bt mg) : FnOk P w K mg base CX0 1 f fd ["parts"] (spD K RDoneDeeds) := by
  have nd := sc_done_deeds.nd
  refine okD F sc_done_deeds (by decide) (fun ds Q h => ?_) (fun cdv A outer s H hr => ?_)
  · obtain ⟨N, x, rfl, _⟩ := h
    rfl
  refine ⟨_, _, (sss_one (ss_ret (se_ofN (sn_lc [("deed", 1), ("part", 2)] rfl nd (si_enum B.enumerate (sa_cons (sv 0) sa_nil)) (by kernel_rfl) (fun _ _ _ _ _ => by exact (sg_two 1 2 rfl nd (sg_name 1 nd) (sg_name 2 nd))) (fun _ _ _ _ _ => by exact (sts_one (st_gt (se_ixT (sv 2) se_int) se_int))) (fun _ _ _ _ _ => by exact (sv 1)))))), fun ds Q h => ?_⟩
  obtain ⟨n, v, rfl, hn, hQ⟩ := h
  refine ⟨_, rfl, _, rfl, ?_⟩
  unfold vL
  rw [mapD_enum]
  refine ⟨rfl, by rw [mapD_len]; exact hn, fun i => if decide (0 < v i) then some (.int (i : Nat)) else none, fun i d hd => ?_, ?_⟩
  · obtain ⟨hi, rfl⟩ := mapD_get hd
    refine ⟨_, rfl, _, _, rfl, _, _, rfl, rfl, _, rfl, _, 0, _, rfl, rfl, rfl, _, _, rfl, rfl, _, rfl, rfl, ?_⟩
    rw [decide_num_pos]
    cases h : decide (0 < v i) with
    | true =>
      refine iteT ?_
      refine ⟨_, rfl, rfl, ?_⟩
      dsimp only
      rw [h, if_pos rfl]
    | false =>
      refine iteF ?_
      dsimp only
      rw [h, if_neg Bool.false_ne_true]
  · rw [mapD_len, outs_filter fun i _ => rfl]
    exact hQ
def RSmaller : RC := fun ds Q => ∃ x y : Rat, ds = [fr x, fr y] ∧ Sm x ∧ Sm y ∧ Q (fr (if y < x then y else x))
theorem sc_smaller : FnScope ["one", "other"] ["one", "other"] (defScope (top 60)) := ⟨rfl, rfl, rfl, by decide +kernel, rfl, by decide +kernel, by decide +kernel⟩
theorem ok_smaller (F : FnT K "smaller" (top 60) f fd) (g_is_less : Fn P w K mg base "is_less" 1 (spD K RIsLess)) : FnOk P w K mg base CX0 2 f fd ["one", "other"] (spD K RSmaller) := by
  have nd := sc_smaller.nd
  refine okD F sc_smaller (by decide) (fun ds Q h => ?_) (fun cdv A outer s H hr => ?_)
  · obtain ⟨x, y, rfl, _⟩ := h
    rfl
  refine ⟨_, _, (sss_cons (ss_if (st_val (se_call g_is_less hr (sa_cons (sv 1) (sa_cons (sv 0) sa_nil)))) (sss_one (ss_ret (sv 1))) sss_nil)
      (sss_one (ss_ret (sv 0)))), fun ds Q h => ?_⟩
  obtain ⟨x, y, rfl, sx, sy, hQ⟩ := h
  refine ⟨_, rfl, _, rfl, _, _, rfl, sy, sx, _, rfl, ?_⟩
  refine ite2 (fun hy => ?_) (fun hy => ?_)
  · rw [if_pos (of_decide_eq_true hy)] at hQ
    exact ⟨_, rfl, hQ⟩
  · rw [if_neg (fun z => hy (decide_eq_true z))] at hQ
    exact ⟨_, rfl, hQ⟩
structure RdOk (N : Net) (parts b e : Nat → Rat) (R p : Nat) : Prop where
  sj : ∀ j, j < N.deeds.length → Sm (parts j) ∧ Sm (amt (deedAt N j).1 p) ∧ Sm (parts j * amt (deedAt N j).1 p)
  st : ∀ i, i ≤ N.deeds.length → Sm (dotN parts (tkv N p) i)
  sb : Sm (b p)
  se : Sm (e p)
  pos : 0 < taken N parts p → 0 < b p ∧ 0 < e p ∧ Sm (taken N parts p / b p) ∧ Sm (taken N parts p / e p) ∧ taken N parts p ≤ (R : Rat) * b p ∧ taken N parts p ≤ (R : Rat) * e p
def RdRes (N : Net) (parts b e : Nat → Rat) (r p : Nat) : Prop := 0 < taken N parts p → taken N parts p ≤ (r : Rat) * b p ∧ taken N parts p ≤ (r : Rat) * e p
def RRounds : RC := fun ds Q => ∃ N parts b e R, ds = [netD N, vD N.deeds.length parts, vD N.many b, vD N.many e] ∧ OkNet N ∧ 1 ≤ R ∧ (∀ p, p < N.many → RdOk N parts b e R p) ∧
  ∀ r : Nat, 1 ≤ r → r ≤ R → (∀ p, p < N.many → RdRes N parts b e r p) → Q (.int (r : Nat))
theorem div_le_of {x y z : Rat} (hy : 0 < y) (h : x ≤ z * y) : x / y ≤ z := by
  have hi := Rat.inv_pos.mpr hy
  have q := Rat.mul_le_mul_of_nonneg_right h (Rat.le_of_lt hi)
  have c := Rat.mul_inv_cancel y (by grind)
  rw [Rat.mul_assoc, c, Rat.mul_one] at q
  rw [Rat.div_def]
  exact q
theorem le_of_div {x y z : Rat} (hy : 0 < y) (h : x / y ≤ z) : x ≤ z * y := by
  have q := Rat.mul_le_mul_of_nonneg_right h (Rat.le_of_lt hy)
  rw [Rat.div_mul_cancel (by grind)] at q
  exact q
/-- the rounds that one place asks for -/
theorem round_one {N : Net} {parts b e : Nat → Rat} {R p r : Nat} (k : RdOk N parts b e R p) (h : 0 < taken N parts p) (hr : 1 ≤ r) (hR : r ≤ R) {l : Rat} (hl : 0 < l) (hlb : l ≤ b p) (hle : l ≤ e p) (hm : l = b p ∨ l = e p) :
    ∃ r' : Nat, (if (taken N parts p / l).ceil > (r : Int) then (taken N parts p / l).ceil else (r : Int)) = (r' : Int) ∧ r ≤ r' ∧ r' ≤ R ∧ RdRes N parts b e r' p := by
  obtain ⟨pb, pe, _, _, h1, h2⟩ := k.pos h
  have hc : (taken N parts p / l).ceil ≤ (R : Int) := by
    refine ceil_le ?_
    rw [Rat.intCast_natCast]
    refine div_le_of hl ?_
    rcases hm with rfl | rfl
    · exact h1
    · exact h2
  refine ⟨(max (r : Int) (taken N parts p / l).ceil).toNat, by omega, by omega, by omega, fun _ => ?_⟩
  have q : taken N parts p / l ≤ (((max (r : Int) (taken N parts p / l).ceil).toNat : Nat) : Rat) := by
    have q1 : taken N parts p / l ≤ ((taken N parts p / l).ceil : Rat) := Rat.le_ceil
    have q2 : ((taken N parts p / l).ceil : Rat) ≤ (((max (r : Int) (taken N parts p / l).ceil).toNat : Nat) : Rat) := by
      rw [← Rat.intCast_natCast, Rat.intCast_le_intCast]
      omega
    grind
  have q3 := le_of_div hl q
  have n0 := natR0 (max (r : Int) (taken N parts p / l).ceil).toNat
  exact ⟨Rat.le_trans q3 (Rat.mul_le_mul_of_nonneg_left hlb n0), Rat.le_trans q3 (Rat.mul_le_mul_of_nonneg_left hle n0)⟩
theorem sc_rounds_for : FnScope ["net", "parts", "begin", "end", "found", "place", "takes", "taken", "deed_takes", "gives", "least"] ["net", "parts", "begin", "end"] (defScope (top 54)) := ⟨rfl, rfl, rfl, by decide +kernel, rfl, by decide +kernel, by decide +kernel⟩
theorem ok_rounds_for (F : FnT K "rounds_for" (top 54) f fd) (B : Bt mg) (g_ceiling : Fn P w K mg base "ceiling" 1 (spD K RCeiling)) (g_divided : Fn P w K mg base "divided" 3 (spD K RDivided)) (g_is_less : Fn P w K mg base "is_less" 1 (spD K RIsLess)) (g_weighed : Fn P w K mg base "weighed" 4 (spD K RWeighed)) : FnOk P w K mg base CX0 5 f fd ["net", "parts", "begin", "end"] (spD K RRounds) := by
  have nd := sc_rounds_for.nd
  refine okD F sc_rounds_for (by decide) (fun ds Q h => ?_) (fun cdv A outer s H hr => ?_)
  · obtain ⟨N, parts, b, e, R, rfl, _⟩ := h
    rfl
  have hu := hr.units
  refine ⟨_, _, (sss_cons (ss_set 4 nd se_int)
      (sss_cons (ss_for rfl PassesOwn.never (si_range B.range (sa_cons (se_ixT (sv 0) se_int) sa_nil)) (sg_name 5 nd)
      (sss_cons (ss_setN 6 nd (sn_lst sa_nil))
      (sss_cons (ss_for rfl PassesOwn.never (si_list (se_ixT (sv 0) se_int)) (sg_two 8 9 rfl nd (sg_name 8 nd) (sg_name 9 nd))
      (sss_one (ss_appd 6 (se_dictGet rfl hu B.dict (sv 8) (sv 5) (se_tup (sa_cons se_int (sa_cons se_int sa_nil)))))))
      (sss_cons (ss_set 7 nd (se_call g_weighed hr (sa_cons (sv 1) (sa_cons (svf 6) sa_nil))))
      (sss_one (ss_if (st_gt (se_ixT (sv 7) se_int) se_int) (sss_cons (ss_set 10 nd (se_ixL (sv 2) (sv 5)))
      (sss_cons (ss_if (st_val (se_call g_is_less hr (sa_cons (se_ixL (sv 3) (sv 5)) (sa_cons (sv 10) sa_nil)))) (sss_one (ss_set 10 nd (se_ixL (sv 3) (sv 5)))) sss_nil)
      (sss_one (ss_set 4 nd (se_callB (call_max2 rfl) soc_I2 B.max (sa_cons (sv 4) (sa_cons (se_call g_ceiling hr (sa_cons (se_call g_divided hr (sa_cons (sv 7) (sa_cons (sv 10) sa_nil))) sa_nil)) sa_nil))))))) sss_nil))))))
      (sss_one (ss_ret (sv 4))))), fun ds Q h => ?_⟩
  obtain ⟨N, parts, b, e, R, rfl, o, hR, hk, hQ⟩ := h
  have l5 := o.2.1
  have l7 := o.2.2.1
  refine ⟨_, rfl, _, 0, _, rfl, rfl, rfl, N.many, rfl, by omega, ?_⟩
  refine ⟨fun i A => ∃ (r : Nat) (x1 x2 x3 x4 x5 x6 : Slot), A = [.fz (netD N), .fz (vD N.deeds.length parts), .fz (vD N.many b), .fz (vD N.many e), .fz (.int (r : Nat)), x1, x2, x3, x4, x5, x6] ∧ 1 ≤ r ∧ r ≤ R ∧ ∀ p, p < i → RdRes N parts b e r p,
    ⟨1, _, _, _, _, _, _, rfl, Nat.le_refl _, hR, fun p hp => by omega⟩, ?_, ?_⟩
  · rintro i d A hd ⟨r, x1, x2, x3, x4, x5, x6, rfl, hr1, hr2, hr3⟩
    rw [rgD_map] at hd
    obtain ⟨hi, rfl⟩ := mapD_get hd
    have k := hk i hi
    refine ⟨by decide, ?_⟩
    refine ⟨_, rfl, _, 1, _, rfl, rfl, rfl, _, rfl, ?_⟩
    refine ⟨fun t A => ∃ (x3 x4 x5 x6 : Slot), A = [.fz (netD N), .fz (vD N.deeds.length parts), .fz (vD N.many b), .fz (vD N.many e), .fz (.int (r : Nat)), .fz (.int (i : Nat)), .mu true (vL t (tkv N i)), x3, x4, x5, x6], ⟨_, _, _, _, rfl⟩, ?_, ?_⟩
    · rintro t d A hd2 ⟨x3, x4, x5, x6, rfl⟩
      obtain ⟨ht, rfl⟩ := mapD_of_list hd2
      obtain ⟨o1, o2⟩ := o.deed (deedAt_of ht)
      refine ⟨_, rfl, _, _, rfl, _, _, rfl, rfl, ?_⟩
      refine ⟨⟨_, _, rfl⟩, _, rfl, (deedAt N t).1.map fun e => ((e.1 : Int), fr e.2), ?_, ?_, _, rfl, by show (2 : Nat) ≤ 1000; decide, i, rfl, _, _, rfl, ?_, ?_⟩
      · show PyData.list ((deedAt N t).1.map entD) = _
        rw [List.map_map]
        rfl
      · rw [List.map_map]
        have := nodup_of o1.2
        have e2 : (deedAt N t).1.map ((fun e : Int × PyData => e.1) ∘ fun e : Nat × Rat => ((e.1 : Int), fr e.2)) = ((deedAt N t).1.map (·.1)).map fun i : Nat => (i : Int) := by rw [List.map_map]; rfl
        rw [e2]
        exact List.Pairwise.map _ (fun a b hab z => hab (by omega)) this
      · rw [vL_len]
        omega
      · refine ⟨x3, .fz (sideD (deedAt N t).1), .fz (sideD (deedAt N t).2), x6, ?_⟩
        have q := find_amt (p := i) (nodup_of o1.2)
        have e0 : (PyData.tuple [.int 0, .int 1]) = fr 0 := rfl
        rw [e0, q]
        have e3 : vL (t + 1) (tkv N i) = vL t (tkv N i) ++ [fr (amt (deedAt N t).1 i)] := by
          unfold vL mapD
          rw [List.range_succ, List.map_append]
          rfl
        rw [e3]
        rfl
    · rintro A ⟨x3, x4, x5, x6, rfl⟩
      rw [List.length_map]
      refine ⟨_, rfl, _, rfl, N.deeds.length, parts, tkv N i, rfl, by omega, k.sj, k.st, ?_⟩
      refine ⟨_, rfl, _, 0, _, rfl, rfl, rfl, _, _, rfl, rfl, _, rfl, ?_⟩
      rw [decide_num_pos]
      refine ite2 (fun hy => ?_) (fun hy => ?_)
      · have hp : 0 < taken N parts i := of_decide_eq_true hy
        obtain ⟨pb, pe, sdb, sde, h1, h2⟩ := k.pos hp
        refine ⟨_, rfl, _, rfl, _, _, _, rfl, rfl, vL_ix hi, ?_⟩
        have fin : ∀ l : Rat, 0 < l → l ≤ b i → l ≤ e i → (l = b i ∨ l = e i) → Sm l ∧ Sm (taken N parts i / l) := fun l hl hlb hle hm => by
          rcases hm with rfl | rfl
          · exact ⟨k.sb, sdb⟩
          · exact ⟨k.se, sde⟩
        refine ⟨_, rfl, _, rfl, _, _, _, rfl, rfl, vL_ix hi, _, rfl, _, _, rfl, k.se, k.sb, _, rfl, ?_⟩
        have st : Sm (taken N parts i) := k.st _ (Nat.le_refl _)
        refine ite2 (fun hz => ?_) (fun hz => ?_)
        · have hz := of_decide_eq_true hz
          refine ⟨_, rfl, _, rfl, _, _, _, rfl, rfl, vL_ix hi, ?_⟩
          obtain ⟨s1, s2⟩ := fin (e i) pe (Rat.le_of_lt hz) Rat.le_refl (.inr rfl)
          obtain ⟨r', e1, e2, e3, e4⟩ := round_one k hp hr1 hr2 pe (Rat.le_of_lt hz) Rat.le_refl (.inr rfl)
          refine ⟨_, rfl, _, rfl, _, rfl, _, _, rfl, st, s1, by grind, _, rfl, s2, _, _, rfl, ?_⟩
          refine ⟨r', .fz (.int (i : Nat)), .fz (.list (vL N.deeds.length (tkv N i))), .fz (fr (taken N parts i)), x4, x5, .fz (fr (e i)), ?_, by omega, e3, fun p hp2 => ?_⟩
          · exact congrArg (fun z : Int => ([.fz (netD N), .fz (vD N.deeds.length parts), .fz (vD N.many b), .fz (vD N.many e), .fz (.int z), .fz (.int (i : Nat)), .fz (.list (vL N.deeds.length (tkv N i))), .fz (fr (taken N parts i)), x4, x5, .fz (fr (e i))] : Sto)) e1
          · by_cases hpi : p = i
            · rw [hpi]; exact e4
            · intro ht
              have q := hr3 p (by omega) ht
              obtain ⟨pb', pe', _⟩ := (hk p (by omega)).pos ht
              have le := natR.mpr e2
              exact ⟨Rat.le_trans q.1 (Rat.mul_le_mul_of_nonneg_right le (Rat.le_of_lt pb')), Rat.le_trans q.2 (Rat.mul_le_mul_of_nonneg_right le (Rat.le_of_lt pe'))⟩
        · have hz : ¬ e i < b i := fun z => hz (decide_eq_true z)
          have hle : b i ≤ e i := Rat.not_lt.mp hz
          obtain ⟨s1, s2⟩ := fin (b i) pb Rat.le_refl hle (.inl rfl)
          obtain ⟨r', e1, e2, e3, e4⟩ := round_one k hp hr1 hr2 pb Rat.le_refl hle (.inl rfl)
          refine ⟨_, rfl, _, rfl, _, rfl, _, _, rfl, st, s1, by grind, _, rfl, s2, _, _, rfl, ?_⟩
          refine ⟨r', .fz (.int (i : Nat)), .fz (.list (vL N.deeds.length (tkv N i))), .fz (fr (taken N parts i)), x4, x5, .fz (fr (b i)), ?_, by omega, e3, fun p hp2 => ?_⟩
          · exact congrArg (fun z : Int => ([.fz (netD N), .fz (vD N.deeds.length parts), .fz (vD N.many b), .fz (vD N.many e), .fz (.int z), .fz (.int (i : Nat)), .fz (.list (vL N.deeds.length (tkv N i))), .fz (fr (taken N parts i)), x4, x5, .fz (fr (b i))] : Sto)) e1
          · by_cases hpi : p = i
            · rw [hpi]; exact e4
            · intro ht
              have q := hr3 p (by omega) ht
              obtain ⟨pb', pe', _⟩ := (hk p (by omega)).pos ht
              have le := natR.mpr e2
              exact ⟨Rat.le_trans q.1 (Rat.mul_le_mul_of_nonneg_right le (Rat.le_of_lt pb')), Rat.le_trans q.2 (Rat.mul_le_mul_of_nonneg_right le (Rat.le_of_lt pe'))⟩
      · refine ⟨r, _, _, _, _, _, _, rfl, hr1, hr2, fun p hp2 => ?_⟩
        by_cases hpi : p = i
        · rw [hpi]
          exact fun ht => absurd (decide_eq_true ht) hy
        · exact hr3 p (by omega)
  · rintro A ⟨r, x1, x2, x3, x4, x5, x6, rfl, hr1, hr2, hr3⟩
    rw [rgD_map, mapD_len] at hr3
    exact ⟨_, rfl, hQ r hr1 hr2 hr3⟩
end
end Tk
end
section
set_option Elab.async false
set_option linter.all false
set_option maxRecDepth 100000
set_option maxHeartbeats 4000000
set_option exponentiation.threshold 10000
namespace Tk
open PySem PySem.Spec PyProof.Rows L2
def posL (n : Nat) (parts : Nat → Rat) : List Nat := (List.range n).filter fun p => decide (0 < parts p)
def midS (n : Nat) (parts : Nat → Rat) (r : Nat) : Steps := (posL n parts).map fun j => (j, parts j * Rat.divInt 1 (r : Int))
def midD (n : Nat) (parts : Nat → Rat) (r : Nat) : PyData := if posL n parts = [] then .list [] else .list [turnD (r : Int) (midS n parts r)]
section
variable {P : Program} {w : World} {K : PySem.W.Frag} {mg : Str → Option Value} {base : Heap} {f : Addr} {fd : FuncData} {aN aO aT aH : Addr}
def RMiddle : RC := fun ds Q => ∃ N parts b e R, ds = [netD N, vD N.deeds.length parts, vD N.many b, vD N.many e] ∧ OkNet N ∧ 1 ≤ R ∧ R < 2 ^ 4490 ∧ (∀ p, p < N.many → RdOk N parts b e R p) ∧ (∀ j, j < N.deeds.length → Sm (parts j)) ∧
  ∀ r : Nat, 1 ≤ r → r ≤ R → (∀ p, p < N.many → RdRes N parts b e r p) → Q (midD N.deeds.length parts r)
theorem sm_inv {r R : Nat} (h1 : 1 ≤ r) (h2 : r ≤ R) (h3 : R < 2 ^ 4490) : Sm (Rat.divInt 1 (r : Int)) := by
  have e : Dn r (Rat.divInt 1 (r : Int)) := ⟨1, by
    rw [Rat.divInt_eq_div, Rat.intCast_natCast, Rat.div_mul_cancel (by have := natRp h1; grind)]⟩
  have p : (0 : Rat) < r := natRp h1
  have ip := Rat.inv_pos.mpr p
  have ev : Rat.divInt 1 (r : Int) = (r : Rat)⁻¹ := by
    rw [Rat.divInt_eq_div, Rat.intCast_natCast, Rat.div_def]
    have : ((1 : Int) : Rat) = 1 := rfl
    rw [this, Rat.one_mul]
  have u : Rat.divInt 1 (r : Int) ≤ ((1 : Nat) : Rat) := by
    have r1 : (1 : Rat) ≤ r := natR.mpr h1
    have q := Rat.mul_le_mul_of_nonneg_left r1 (Rat.le_of_lt ip)
    rw [Rat.inv_mul_cancel _ (by grind), Rat.mul_one] at q
    rw [ev]
    exact q
  refine e.sm (V := 1) h1 ?_ u (by omega) (by omega)
  rw [ev]
  have : (0 : Rat) ≤ ((1 : Nat) : Rat) := natR0 1
  grind
theorem sc_middle_turn : FnScope ["net", "parts", "begin", "end", "deeds", "rounds", "deed"] ["net", "parts", "begin", "end"] (defScope (top 55)) := ⟨rfl, rfl, rfl, by decide +kernel, rfl, by decide +kernel, by decide +kernel⟩
theorem ok_middle_turn (F : FnT K "middle_turn" (top 55) f fd) (B : Bt mg) (g_done_deeds : Fn P w K mg base "done_deeds" 1 (spD K RDoneDeeds)) (g_fraction : Fn P w K mg base "fraction" 2 (spD K RFraction)) (g_rounds_for : Fn P w K mg base "rounds_for" 5 (spD K RRounds)) (g_timed : Fn P w K mg base "timed" 3 (spD K (R2F (· * ·)))) : FnOk P w K mg base CX0 6 f fd ["net", "parts", "begin", "end"] (spD K RMiddle) := by
  have nd := sc_middle_turn.nd
  refine okD F sc_middle_turn (by decide) (fun ds Q h => ?_) (fun cdv A outer s H hr => ?_)
  · obtain ⟨N, parts, b, e, R, rfl, _⟩ := h
    rfl
  refine ⟨_, _, (sss_cons (ss_set 4 nd (se_call g_done_deeds hr (sa_cons (sv 1) sa_nil)))
      (sss_cons (ss_if (st_eq (se_len B.len (sv 4)) se_int) (sss_one (ss_ret (se_lst sa_nil))) sss_nil)
      (sss_cons (ss_set 5 nd (se_call g_rounds_for hr (sa_cons (sv 0) (sa_cons (sv 1) (sa_cons (sv 2) (sa_cons (sv 3) sa_nil))))))
      (sss_one (ss_ret (se_lst (sa_cons (se_tup (sa_cons (sv 5) (sa_cons (se_ofN (sn_lc [("deed", 6)] rfl nd (si_list (sv 4)) (by kernel_rfl) (fun _ _ _ _ _ => by exact (sg_name 6 nd)) (fun _ _ _ _ _ => by exact sts_nil) (fun _ _ _ _ _ => by exact (se_tup (sa_cons (sv 6) (sa_cons (se_call g_timed hr (sa_cons (se_ixL (sv 1) (sv 6)) (sa_cons (se_call g_fraction hr (sa_cons se_int (sa_cons (sv 5) sa_nil))) sa_nil))) sa_nil)))))) sa_nil))) sa_nil))))))), fun ds Q h => ?_⟩
  obtain ⟨N, parts, b, e, R, rfl, o, hR, hR2, hk, hs, hQ⟩ := h
  have l7 := o.2.2.1
  refine ⟨_, rfl, _, _, rfl, by omega, ?_⟩
  refine ⟨_, rfl, _, .inl rfl, _, rfl, _, rfl, ?_⟩
  have key : ∀ r : Nat, midD N.deeds.length parts r = if posL N.deeds.length parts = [] then .list [] else .list [turnD (r : Int) (midS N.deeds.length parts r)] := fun r => rfl
  have hpl : (natL ((List.range N.deeds.length).filter fun p => decide (0 < parts p))).length = (posL N.deeds.length parts).length := natL_len _
  have hln : (posL N.deeds.length parts).length ≤ 7 := by
    have q := List.length_filter_le (fun p => decide (0 < parts p)) (List.range N.deeds.length)
    rw [List.length_range] at q
    exact Nat.le_trans q l7
  have hj : ∀ j ∈ posL N.deeds.length parts, j < N.deeds.length := fun j h => List.mem_range.mp (List.mem_filter.mp h).1
  show (if decide (((natL ((List.range N.deeds.length).filter fun p => decide (0 < parts p))).length : Int) = 0) = true then _ else _)
  rw [hpl]
  by_cases h0 : posL N.deeds.length parts = []
  · rw [h0]
    refine iteT ?_
    have q := hQ R hR (Nat.le_refl _) fun p hp ht => ⟨((hk p hp).pos ht).2.2.2.2.1, ((hk p hp).pos ht).2.2.2.2.2⟩
    rw [key, if_pos h0] at q
    exact ⟨by decide, q⟩
  · rw [decide_eq_false (by have := List.length_pos_iff.mpr h0; omega)]
    refine iteF ?_
    refine ⟨_, rfl, _, rfl, _, rfl, _, rfl, N, parts, b, e, R, rfl, o, hR, hk, fun r h1 h2 h3 => ?_⟩
    refine ⟨_, rfl, _, rfl, _, rfl, rfl, by rw [hpl]; omega, fun i => ((posL N.deeds.length parts)[i]?).map fun j => entD (j, parts j * Rat.divInt 1 (r : Int)), fun i d hd => ?_, ?_⟩
    · obtain ⟨j, hj2, rfl⟩ := natL_get hd
      have jl := hj j (mem_at hj2)
      refine ⟨rfl, _, rfl, _, rfl, _, rfl, _, _, _, rfl, rfl, vL_ix jl, _, rfl, 1, r, rfl, by omega, fun z g hg e => ⟨hg, by rw [e, Int.gcd_one_left]; decide⟩, _, _, rfl, hs j jl, sm_inv h1 h2 hR2, by show (2 : Nat) ≤ 1000; decide, rfl, ?_⟩
      show Option.map _ (posL N.deeds.length parts)[i]? = _
      rw [show (posL N.deeds.length parts)[i]? = some j from hj2]
      rfl
    · rw [hpl, outs_list (g := fun j => entD (j, parts j * Rat.divInt 1 (r : Int))) fun i j h => by rw [h]; rfl]
      refine ⟨by show (2 : Nat) ≤ 1000; decide, by show (1 : Nat) ≤ 1000; decide, ?_⟩
      have q := hQ r h1 h2 h3
      rw [key, if_neg h0] at q
      have e1 : turnD (r : Int) (midS N.deeds.length parts r) = .tuple [.int (r : Nat), .list ((posL N.deeds.length parts).map fun j => entD (j, parts j * Rat.divInt 1 (r : Int)))] := by
        unfold turnD stepsD stepsL midS
        rw [List.map_map]
        rfl
      rw [e1] at q
      exact q
def diffA (s e : Nat → Rat) (p : Nat) : Rat := absR (s p - e p)
structure WayOk (m : Nat) (s e : Nat → Rat) (wi by_ : Rat) : Prop where
  pos : 0 < by_
  half : by_ ≤ 1 / 2
  le : ∀ p, p < m → by_ * diffA s e p ≤ wi
  or : by_ = 1 / 2 ∨ ∃ p, p < m ∧ s p - e p ≠ 0 ∧ by_ = wi / diffA s e p
def RShare : RC := fun ds Q => ∃ m s e wi, ds = [vD m s, vD m e, fr wi] ∧ m ≤ 1000 ∧ 0 < wi ∧ Sm wi ∧ (∀ p, p < m → Sm (s p) ∧ Sm (e p) ∧ Sm (s p - e p) ∧ Sm (wi / diffA s e p)) ∧ ∀ by_, WayOk m s e wi by_ → Q (fr by_)
theorem sm_half : Sm (1 / 2) := ⟨by unfold Sz; decide +kernel, by unfold Sz; decide +kernel⟩
theorem sc_share_of_way : FnScope ["stand", "end", "within", "found", "here", "there", "much"] ["stand", "end", "within"] (defScope (top 59)) := ⟨rfl, rfl, rfl, by decide +kernel, rfl, by decide +kernel, by decide +kernel⟩
theorem ok_share_of_way (F : FnT K "share_of_way" (top 59) f fd) (B : Bt mg) (C : Cst K mg aN aO aT aH) (g_divided : Fn P w K mg base "divided" 3 (spD K RDivided)) (g_lessened : Fn P w K mg base "lessened" 3 (spD K (R2F (· - ·)))) (g_smaller : Fn P w K mg base "smaller" 2 (spD K RSmaller)) : FnOk P w K mg base CX0 4 f fd ["stand", "end", "within"] (spD K RShare) := by
  have nd := sc_share_of_way.nd
  refine okD F sc_share_of_way (by decide) (fun ds Q h => ?_) (fun cdv A outer s H hr => ?_)
  · obtain ⟨m, s, e, wi, rfl, _⟩ := h
    rfl
  refine ⟨_, _, (sss_cons (ss_set 3 nd C.HALF)
      (sss_cons (ss_for rfl PassesOwn.never (si_zip B.zip (sa_cons (sv 0) (sa_cons (sv 1) sa_nil))) (sg_two 4 5 rfl nd (sg_name 4 nd) (sg_name 5 nd))
      (sss_cons (ss_set 6 nd (se_call g_lessened hr (sa_cons (sv 4) (sa_cons (sv 5) sa_nil))))
      (sss_one (ss_if (st_ne (se_ixT (sv 6) se_int) se_int) (sss_one (ss_set 3 nd (se_call g_smaller hr (sa_cons (sv 3) (sa_cons (se_call g_divided hr (sa_cons (sv 2) (sa_cons (se_tup (sa_cons (se_callB call_abs soc_abs B.abs (sa_cons (se_ixT (sv 6) se_int) sa_nil)) (sa_cons (se_ixT (sv 6) se_int) sa_nil))) sa_nil))) sa_nil))))) sss_nil))))
      (sss_one (ss_ret (sv 3))))), fun ds Q h => ?_⟩
  obtain ⟨m, s, e, wi, rfl, hm, hw, sw, hs, hQ⟩ := h
  refine ⟨_, rfl, _, rfl, _, _, rfl, ?_⟩
  rw [vL_zip]
  refine ⟨fun i A => ∃ (c : Rat) (x1 x2 x3 : Slot), A = [.fz (vD m s), .fz (vD m e), .fz (fr wi), .fz (fr c), x1, x2, x3] ∧ 0 < c ∧ c ≤ 1 / 2 ∧ (∀ p, p < i → c * diffA s e p ≤ wi) ∧ (c = 1 / 2 ∨ ∃ p, p < m ∧ s p - e p ≠ 0 ∧ c = wi / diffA s e p),
    ⟨1 / 2, _, _, _, rfl, by grind, Rat.le_refl, fun p hp => by omega, .inl rfl⟩, ?_, ?_⟩
  · rintro i d A hd ⟨c, x1, x2, x3, rfl, c0, c1, c2, c3⟩
    obtain ⟨hi, rfl⟩ := mapD_get hd
    obtain ⟨h1, h2, h3, h4⟩ := hs i hi
    refine ⟨_, rfl, _, _, rfl, _, _, rfl, rfl, ?_⟩
    refine ⟨_, rfl, _, rfl, _, _, rfl, h1, h2, ?_⟩
    refine ⟨_, rfl, _, 0, _, rfl, rfl, rfl, _, rfl, _, rfl, ?_⟩
    have sc : Sm c := by
      rcases c3 with rfl | ⟨p, hp, _, rfl⟩
      · exact sm_half
      · exact (hs p hp).2.2.2
    by_cases h0 : s i - e i = 0
    · rw [show (s i - e i).num = 0 by rw [h0]; rfl]
      refine iteF ?_
      refine ⟨c, _, _, _, rfl, c0, c1, fun p hp => ?_, c3⟩
      by_cases hpi : p = i
      · subst hpi
        unfold diffA
        rw [h0]
        have : absR 0 = 0 := rfl
        rw [this, Rat.mul_zero]
        exact Rat.le_of_lt hw
      · exact c2 p (by omega)
    · rw [decide_eq_false (fun z => h0 (Rat.num_eq_zero.mp z))]
      refine iteT ?_
      have ap := absR_pos h0
      refine ⟨_, rfl, _, rfl, _, rfl, _, 0, _, rfl, rfl, rfl, _, rfl, _, rfl, _, 1, _, rfl, rfl, rfl, by show (2 : Nat) ≤ 1000; decide, ?_⟩
      refine ⟨wi, absR (s i - e i), congrArg (fun z => [fr wi, z]) (fr_abs _), sw, h3.abs, by grind, _, _, rfl, sc, h4, ?_⟩
      have wp : 0 < wi / diffA s e i := by
        rw [Rat.div_def]
        exact Rat.mul_pos hw (Rat.inv_pos.mpr ap)
      have eqw : wi / diffA s e i * diffA s e i = wi := Rat.div_mul_cancel (by unfold diffA; grind)
      refine ⟨if wi / absR (s i - e i) < c then wi / absR (s i - e i) else c, _, _, _, rfl, ?_, ?_, fun p hp => ?_, ?_⟩
      · split
        · exact wp
        · exact c0
      · split <;> grind
      · by_cases hlt : wi / absR (s i - e i) < c
        · rw [if_pos hlt]
          by_cases hpi : p = i
          · subst hpi
            show wi / diffA s e p * diffA s e p ≤ wi
            rw [eqw]
            exact Rat.le_refl
          · exact Rat.le_trans (Rat.mul_le_mul_of_nonneg_right (Rat.le_of_lt hlt) (absR_nn _)) (c2 p (by omega))
        · rw [if_neg hlt]
          by_cases hpi : p = i
          · subst hpi
            have q := Rat.mul_le_mul_of_nonneg_right (Rat.not_lt.mp hlt) (absR_nn (s p - e p))
            exact Rat.le_trans q (by rw [show wi / absR (s p - e p) * absR (s p - e p) = wi from eqw]; exact Rat.le_refl)
          · exact c2 p (by omega)
      · split
        · exact .inr ⟨i, hi, h0, rfl⟩
        · exact c3
  · rintro A ⟨c, x1, x2, x3, rfl, c0, c1, c2, c3⟩
    rw [mapD_len] at c2
    exact ⟨_, rfl, hQ c ⟨c0, c1, c2, c3⟩⟩
end
end Tk
end
section
set_option Elab.async false
set_option linter.all false
set_option maxRecDepth 100000
namespace Tk
/-! ### whole sums -/
def sumZ (f : Nat → Int) : Nat → Int
  | 0 => 0
  | n + 1 => sumZ f n + f n
theorem sumZ_congr {f g : Nat → Int} : ∀ {n : Nat}, (∀ i, i < n → f i = g i) → sumZ f n = sumZ g n
  | 0, _ => rfl
  | n + 1, h => by
    show sumZ f n + f n = sumZ g n + g n
    rw [sumZ_congr fun i hi => h i (by omega), h n (by omega)]
theorem sumZ_add (f g : Nat → Int) : ∀ n, sumZ (fun i => f i + g i) n = sumZ f n + sumZ g n
  | 0 => rfl
  | n + 1 => by
    show sumZ (fun i => f i + g i) n + (f n + g n) = sumZ f n + f n + (sumZ g n + g n)
    rw [sumZ_add f g n]
    omega
theorem sumZ_mul (c : Int) (f : Nat → Int) : ∀ n, sumZ (fun i => c * f i) n = c * sumZ f n
  | 0 => (Int.mul_zero c).symm
  | n + 1 => by
    show sumZ (fun i => c * f i) n + c * f n = c * (sumZ f n + f n)
    rw [sumZ_mul c f n, Int.mul_add]
theorem sumZ_zero {f : Nat → Int} : ∀ {n : Nat}, (∀ i, i < n → f i = 0) → sumZ f n = 0
  | 0, _ => rfl
  | n + 1, h => by
    show sumZ f n + f n = 0
    rw [sumZ_zero fun i hi => h i (by omega), h n (by omega)]
    rfl
theorem sumZ_sub (f g : Nat → Int) (n : Nat) : sumZ (fun i => f i - g i) n = sumZ f n - sumZ g n := by
  have e : (fun i => f i - g i) = fun i => f i + (-1) * g i := by
    funext i
    omega
  rw [e, sumZ_add, sumZ_mul]
  omega
theorem sumZ_one {f : Nat → Int} {i : Nat} : ∀ {n : Nat}, i < n → (∀ k, k < n → k ≠ i → f k = 0) → sumZ f n = f i
  | 0, h, _ => absurd h (Nat.not_lt_zero _)
  | n + 1, h, hz => by
    show sumZ f n + f n = f i
    by_cases e : i = n
    · subst e
      rw [sumZ_zero fun k hk => hz k (by omega) (by omega), Int.zero_add]
    · rw [sumZ_one (i := i) (by omega) fun k hk hne => hz k (by omega) hne, hz n (by omega) (fun z => e z.symm), Int.add_zero]
theorem sumZ_two {f : Nat → Int} {i j n : Nat} (hi : i < n) (hj : j < n) (hij : i ≠ j) (hz : ∀ k, k < n → k ≠ i → k ≠ j → f k = 0) : sumZ f n = f i + f j := by
  have e : f = fun k => (if k = i then f i else 0) + (if k = i then 0 else f k) := by
    funext k
    by_cases h : k = i
    · rw [if_pos h, if_pos h, h, Int.add_zero]
    · rw [if_neg h, if_neg h, Int.zero_add]
  have e1 : sumZ (fun k => if k = i then f i else 0) n = f i := by
    rw [sumZ_one hi fun k _ hk => if_neg hk, if_pos rfl]
  have e2 : sumZ (fun k => if k = i then 0 else f k) n = f j := by
    rw [sumZ_one hj fun k hk hne => ?_, if_neg (fun z => hij z.symm)]
    by_cases h : k = i
    · rw [if_pos h]
    · rw [if_neg h]
      exact hz k hk h hne
  rw [e, sumZ_add, e1, e2]
  dsimp only
  rw [if_pos rfl, if_pos rfl, if_neg (fun z => hij z.symm), if_neg (fun z => hij z.symm)]
  omega
theorem sumZ_comm (f : Nat → Nat → Int) (m : Nat) : ∀ n, sumZ (fun i => sumZ (fun j => f i j) m) n = sumZ (fun j => sumZ (fun i => f i j) n) m
  | 0 => (sumZ_zero fun _ _ => rfl).symm
  | n + 1 => by
    show sumZ (fun i => sumZ (fun j => f i j) m) n + sumZ (fun j => f n j) m = sumZ (fun j => sumZ (fun i => f i j) n + f n j) m
    rw [sumZ_comm f m n, sumZ_add]
theorem sumZ_abs {f : Nat → Int} {B : Nat} : ∀ {n : Nat}, (∀ i, i < n → (f i).natAbs ≤ B) → (sumZ f n).natAbs ≤ n * B
  | 0, _ => Nat.zero_le _
  | n + 1, h => by
    show (sumZ f n + f n).natAbs ≤ (n + 1) * B
    have h1 := sumZ_abs (n := n) fun i hi => h i (by omega)
    have h2 := h n (by omega)
    rw [Nat.add_mul, Nat.one_mul]
    omega
theorem sumZ_nonneg {f : Nat → Int} : ∀ {n : Nat}, (∀ i, i < n → 0 ≤ f i) → 0 ≤ sumZ f n
  | 0, _ => Int.le_refl 0
  | n + 1, h => by
    show 0 ≤ sumZ f n + f n
    have h1 := sumZ_nonneg (n := n) fun i hi => h i (by omega)
    have h2 := h n (by omega)
    omega
/-- a sum of numbers not below nought is nought: so are they all -/
theorem sumZ_zero_of {f : Nat → Int} : ∀ {n : Nat}, (∀ i, i < n → 0 ≤ f i) → sumZ f n = 0 → ∀ i, i < n → f i = 0
  | 0, _, _, i, hi => absurd hi (Nat.not_lt_zero _)
  | n + 1, h, e, i, hi => by
    have e : sumZ f n + f n = 0 := e
    have h1 := sumZ_nonneg (n := n) fun i hi => h i (by omega)
    have h2 := h n (by omega)
    by_cases hin : i = n
    · subst hin
      omega
    · exact sumZ_zero_of (n := n) (fun i hi => h i (by omega)) (by omega) i (by omega)
/-- a sum below nought has a term below nought -/
theorem sumZ_neg {f : Nat → Int} : ∀ {n : Nat}, sumZ f n < 0 → ∃ i, i < n ∧ f i < 0
  | 0, h => absurd h (Int.lt_irrefl 0)
  | n + 1, h => by
    have h : sumZ f n + f n < 0 := h
    by_cases hn : f n < 0
    · exact ⟨n, by omega, hn⟩
    · obtain ⟨i, hi, q⟩ := sumZ_neg (f := f) (n := n) (by omega)
      exact ⟨i, by omega, q⟩
/-! ### determinants, by columns -/
abbrev Vec := Nat → Int
abbrev Mat := Nat → Vec
def upC (B : Mat) (i : Nat) (x : Vec) : Mat := fun k => if k = i then x else B k
theorem upC_same (B : Mat) (i : Nat) (x : Vec) : upC B i x i = x := if_pos rfl
theorem upC_ne {B : Mat} {i k : Nat} {x : Vec} (h : k ≠ i) : upC B i x k = B k := if_neg h
theorem upC_upC (B : Mat) (i : Nat) (x y : Vec) : upC (upC B i x) i y = upC B i y := by
  funext k
  unfold upC
  by_cases h : k = i
  · rw [if_pos h, if_pos h]
  · rw [if_neg h, if_neg h, if_neg h]
theorem upC_comm {B : Mat} {i j : Nat} {x y : Vec} (h : i ≠ j) : upC (upC B i x) j y = upC (upC B j y) i x := by
  funext k
  unfold upC
  by_cases h1 : k = j
  · rw [if_pos h1, if_neg (fun z => h (z.symm.trans h1)), if_pos h1]
  · rw [if_neg h1]
    by_cases h2 : k = i
    · rw [if_pos h2, if_pos h2]
    · rw [if_neg h2, if_neg h2, if_neg h1]
theorem upC_self (B : Mat) (i : Nat) : upC B i (B i) = B := by
  funext k
  unfold upC
  by_cases h : k = i
  · rw [if_pos h, h]
  · rw [if_neg h]
def del (B : Mat) (t : Nat) : Mat := fun k p => (if k < t then B k else B (k + 1)) (p + 1)
def sgn (i : Nat) : Int := if i % 2 = 0 then 1 else -1
theorem sgn_succ (i : Nat) : sgn (i + 1) = -sgn i := by
  unfold sgn
  by_cases h : i % 2 = 0
  · rw [if_neg (by omega), if_pos h]
  · rw [if_pos (by omega), if_neg h]
    rfl
def det : Nat → Mat → Int
  | 0, _ => 1
  | m + 1, B => sumZ (fun t => sgn t * (B t 0 * det m (del B t))) (m + 1)
theorem det_congr : ∀ {m : Nat} {B C : Mat}, (∀ k p, k < m → p < m → B k p = C k p) → det m B = det m C
  | 0, _, _, _ => rfl
  | m + 1, B, C, h => sumZ_congr fun t ht => by
    rw [h t 0 ht (by omega), det_congr (m := m) (B := del B t) (C := del C t) fun k p hk hp => ?_]
    unfold del
    by_cases q : k < t
    · rw [if_pos q, if_pos q]
      exact h k (p + 1) (by omega) (by omega)
    · rw [if_neg q, if_neg q]
      exact h (k + 1) (p + 1) (by omega) (by omega)
theorem del_up_same (B : Mat) (i : Nat) (x : Vec) : del (upC B i x) i = del B i := by
  funext k p
  unfold del upC
  by_cases q : k < i
  · rw [if_pos q, if_pos q, if_neg (by omega)]
  · rw [if_neg q, if_neg q, if_neg (by omega)]
theorem del_up_lt {B : Mat} {i t : Nat} (x : Vec) (h : i < t) : del (upC B i x) t = upC (del B t) i fun p => x (p + 1) := by
  funext k p
  unfold del upC
  by_cases q : k < t
  · rw [if_pos q]
    by_cases e : k = i
    · rw [if_pos e, if_pos e]
    · rw [if_neg e, if_neg e]
      dsimp only
      rw [if_pos q]
  · rw [if_neg q, if_neg (by omega), if_neg (by omega)]
    dsimp only
    rw [if_neg q]
theorem del_up_gt {B : Mat} {i t : Nat} (x : Vec) (h : t ≤ i) : del (upC B (i + 1) x) t = upC (del B t) i fun p => x (p + 1) := by
  funext k p
  unfold del upC
  by_cases q : k < t
  · rw [if_pos q, if_neg (by omega), if_neg (by omega)]
    dsimp only
    rw [if_pos q]
  · rw [if_neg q]
    by_cases e : k = i
    · rw [if_pos (by omega), if_pos e]
    · rw [if_neg (by omega), if_neg e]
      dsimp only
      rw [if_neg q]
/-- linear in each column -/
theorem det_lin (a b : Int) (x y : Vec) : ∀ {m : Nat} {B : Mat} {i : Nat}, i < m → det m (upC B i fun p => a * x p + b * y p) = a * det m (upC B i x) + b * det m (upC B i y)
  | 0, _, _, h => absurd h (Nat.not_lt_zero _)
  | m + 1, B, i, hi => by
    show sumZ _ (m + 1) = a * sumZ _ (m + 1) + b * sumZ _ (m + 1)
    rw [← sumZ_mul, ← sumZ_mul, ← sumZ_add]
    refine sumZ_congr fun t ht => ?_
    by_cases e : t = i
    · subst e
      rw [upC_same, upC_same, upC_same, del_up_same, del_up_same, del_up_same]
      grind
    · rw [upC_ne e, upC_ne e, upC_ne e]
      by_cases q : i < t
      · have ih := det_lin a b (fun p => x (p + 1)) (fun p => y (p + 1)) (m := m) (B := del B t) (i := i) (by omega)
        rw [del_up_lt _ q, del_up_lt _ q, del_up_lt _ q, ih]
        grind
      · obtain ⟨i', rfl⟩ : ∃ i', i = i' + 1 := ⟨i - 1, by omega⟩
        have ih := det_lin a b (fun p => x (p + 1)) (fun p => y (p + 1)) (m := m) (B := del B t) (i := i') (by omega)
        rw [del_up_gt _ (by omega), del_up_gt _ (by omega), del_up_gt _ (by omega), ih]
        grind
theorem det_add {m : Nat} {B : Mat} {i : Nat} (h : i < m) (x y : Vec) : det m (upC B i fun p => x p + y p) = det m (upC B i x) + det m (upC B i y) := by
  have q := det_lin 1 1 x y (B := B) h
  rw [Int.one_mul, Int.one_mul] at q
  have e : (fun p => 1 * x p + 1 * y p) = fun p => x p + y p := by
    funext p
    omega
  rw [e] at q
  exact q
theorem det_mul {m : Nat} {B : Mat} {i : Nat} (h : i < m) (a : Int) (x : Vec) : det m (upC B i fun p => a * x p) = a * det m (upC B i x) := by
  have q := det_lin a 0 x x (B := B) h
  rw [Int.zero_mul, Int.add_zero] at q
  have e : (fun p => a * x p + 0 * x p) = fun p => a * x p := by
    funext p
    omega
  rw [e] at q
  exact q
theorem det_zero {m : Nat} {B : Mat} {i : Nat} (h : i < m) : det m (upC B i fun _ => 0) = 0 := by
  have q := det_mul (B := B) h 0 (fun _ => 0)
  rw [Int.zero_mul] at q
  rw [Int.zero_mul] at q
  exact q
/-- a column that is a sum of columns -/
theorem det_sum {m : Nat} {B : Mat} {i : Nat} (h : i < m) (c : Nat → Int) (X : Mat) : ∀ n, det m (upC B i fun p => sumZ (fun k => c k * X k p) n) = sumZ (fun k => c k * det m (upC B i (X k))) n
  | 0 => det_zero h
  | n + 1 => by
    show det m (upC B i fun p => sumZ (fun k => c k * X k p) n + c n * X n p) = _
    rw [det_add h (fun p => sumZ (fun k => c k * X k p) n) (fun p => c n * X n p), det_sum h c X n, det_mul h]
    rfl
/-- two like columns side by side -/
theorem det_adj : ∀ {m : Nat} {B : Mat} {i : Nat}, i + 1 < m → B i = B (i + 1) → det m B = 0
  | 0, _, _, h, _ => absurd h (Nat.not_lt_zero _)
  | m + 1, B, i, hi, e => by
    show sumZ _ (m + 1) = 0
    rw [sumZ_two (i := i) (j := i + 1) (by omega) hi (by omega) fun k hk h1 h2 => ?_]
    · have ed : del B i = del B (i + 1) := by
        funext k p
        unfold del
        by_cases q : k < i
        · rw [if_pos q, if_pos (by omega)]
        · rw [if_neg q]
          by_cases q2 : k = i
          · rw [if_pos (by omega), q2, e]
          · rw [if_neg (by omega)]
      rw [sgn_succ, ← ed, ← e]
      grind
    · have z : det m (del B k) = 0 := by
        by_cases q : k < i
        · refine det_adj (i := i - 1) (by omega) ?_
          funext p
          unfold del
          rw [if_neg (by omega), if_neg (by omega)]
          have e1 : i - 1 + 1 = i := by omega
          rw [e1, e]
        · refine det_adj (i := i) (by omega) ?_
          funext p
          unfold del
          rw [if_pos (by omega), if_pos (by omega), e]
      rw [z, Int.mul_zero, Int.mul_zero]
/-- an alternating form of two columns changes its sign -/
theorem anti {m : Nat} {B : Mat} {i j : Nat} (hi : i < m) (hj : j < m) (hij : i ≠ j) (h : ∀ x, det m (upC (upC B i x) j x) = 0) (x y : Vec) : det m (upC (upC B i x) j y) = -det m (upC (upC B i y) j x) := by
  have h0 := h fun p => x p + y p
  rw [det_add hj] at h0
  have s1 : ∀ z : Vec, det m (upC (upC B i fun p => x p + y p) j z) = det m (upC (upC B i x) j z) + det m (upC (upC B i y) j z) := fun z => by
    rw [upC_comm hij, det_add hi, upC_comm (fun q => hij q.symm), upC_comm (fun q => hij q.symm)]
  rw [s1, s1, h x, h y] at h0
  omega
/-- two like columns -/
theorem det_alt : ∀ (d : Nat) {m : Nat} {B : Mat} {i : Nat}, i + 1 + d < m → B i = B (i + 1 + d) → det m B = 0
  | 0, _, _, _, h, e => det_adj h e
  | d + 1, m, B, i, h, e => by
    have hk : i + 1 + (d + 1) = i + 1 + d + 1 := by omega
    rw [hk] at h e
    have q := anti (B := B) (i := i + 1 + d) (j := i + 1 + d + 1) (by omega) h (by omega) (fun x => det_adj (i := i + 1 + d) h (by
      rw [upC_same, upC_ne (by omega), upC_same])) (B (i + 1 + d)) (B (i + 1 + d + 1))
    rw [upC_self, upC_self] at q
    rw [q]
    have z : det m (upC (upC B (i + 1 + d) (B (i + 1 + d + 1))) (i + 1 + d + 1) (B (i + 1 + d))) = 0 := by
      refine det_alt d (i := i) (by omega) ?_
      rw [upC_ne (by omega), upC_ne (by omega), upC_ne (by omega), upC_same, e]
    rw [z]
    rfl
theorem det_eq {m : Nat} {B : Mat} {i j : Nat} (hi : i < m) (hj : j < m) (hij : i ≠ j) (e : B i = B j) : det m B = 0 := by
  by_cases h : i < j
  · exact det_alt (j - i - 1) (i := i) (by omega) (by rw [e]; congr 1; omega)
  · exact det_alt (i - j - 1) (i := j) (by omega) (by rw [← e]; congr 1; omega)
theorem det_swap {m : Nat} {B : Mat} {i j : Nat} (hi : i < m) (hj : j < m) (hij : i ≠ j) (x y : Vec) : det m (upC (upC B i x) j y) = -det m (upC (upC B i y) j x) :=
  anti hi hj hij (fun z => det_eq hi hj hij (by rw [upC_ne hij, upC_same, upC_same])) x y
def unitC (i : Nat) : Vec := fun p => if p = i then 1 else 0
theorem det_id : ∀ m, det m unitC = 1
  | 0 => rfl
  | m + 1 => by
    show sumZ _ (m + 1) = 1
    rw [sumZ_one (i := 0) (by omega) fun k hk h => ?_]
    · have e : det m (del unitC 0) = det m unitC := det_congr fun k p hk hp => by
        unfold del unitC
        rw [if_neg (Nat.not_lt_zero _)]
        by_cases q : p = k
        · rw [if_pos (by omega), if_pos q]
        · rw [if_neg (by omega), if_neg q]
      rw [e, det_id m]
      decide
    · show sgn k * ((if 0 = k then 1 else 0) * _) = 0
      rw [if_neg (fun z => h z.symm), Int.zero_mul, Int.mul_zero]
def detB (M : Nat) : Nat → Nat
  | 0 => 1
  | m + 1 => (m + 1) * (M * detB M m)
theorem det_bound {M : Nat} : ∀ {m : Nat} {B : Mat}, (∀ k p, k < m → p < m → (B k p).natAbs ≤ M) → (det m B).natAbs ≤ detB M m
  | 0, _, _ => Nat.le_refl 1
  | m + 1, B, h => by
    refine sumZ_abs fun t ht => ?_
    have h1 := h t 0 ht (by omega)
    have h2 := det_bound (M := M) (m := m) (B := del B t) fun k p hk hp => by
      unfold del
      by_cases q : k < t
      · rw [if_pos q]
        exact h _ _ (by omega) (by omega)
      · rw [if_neg q]
        exact h _ _ (by omega) (by omega)
    have h3 : (sgn t * (B t 0 * det m (del B t))).natAbs = (B t 0).natAbs * (det m (del B t)).natAbs := by
      rw [Int.natAbs_mul, Int.natAbs_mul]
      have : (sgn t).natAbs = 1 := by
        unfold sgn
        split <;> rfl
      rw [this, Nat.one_mul]
    rw [h3]
    exact Nat.mul_le_mul h1 h2
end Tk
end
section
set_option Elab.async false
set_option linter.all false
set_option maxRecDepth 100000
namespace Tk
/-! ### tableaus by determinants -/
section
variable (m n : Nat) (A : Mat)
def bmat (b : Nat → Nat) : Mat := fun i => A (b i)
def byZ (b : Nat → Nat) : Int := det m (bmat A b)
def tab (b : Nat → Nat) (i j : Nat) : Int := det m (upC (bmat A b) i (A j))
def kap (j : Nat) : Int := if n ≤ j ∧ j < n + m then 1 else 0
def costZ (b : Nat → Nat) (j : Nat) : Int := kap m n j * byZ m A b - sumZ (fun i => kap m n (b i) * tab m A b i j) m
/-- the spare columns -/
def Spare : Prop := ∀ q, q < m → ∀ p, p < m → A (n + q) p = unitC q p
structure Inv0 (b : Nat → Nat) : Prop where
  pos : 0 < byZ m A b
  rep : ∀ j p, p < m → byZ m A b * A j p = sumZ (fun i => tab m A b i j * A (b i) p) m
  feas : ∀ i, i < m → 0 ≤ tab m A b i (n + m)
  lt : ∀ i, i < m → b i < n + m
end
def upB (b : Nat → Nat) (r c : Nat) : Nat → Nat := fun k => if k = r then c else b k
theorem upB_same (b : Nat → Nat) (r c : Nat) : upB b r c r = c := if_pos rfl
theorem upB_ne {b : Nat → Nat} {r c k : Nat} (h : k ≠ r) : upB b r c k = b k := if_neg h
theorem bmat_up (A : Mat) (b : Nat → Nat) (r c : Nat) : bmat A (upB b r c) = upC (bmat A b) r (A c) := by
  funext k
  unfold bmat upB upC
  by_cases h : k = r
  · rw [if_pos h, if_pos h]
  · rw [if_neg h, if_neg h]
section
variable {m n : Nat} {A : Mat} {b : Nat → Nat}
theorem by_up (r c : Nat) : byZ m A (upB b r c) = tab m A b r c := by
  unfold byZ tab
  rw [bmat_up]
theorem tab_up_r (r c j : Nat) : tab m A (upB b r c) r j = tab m A b r j := by
  unfold tab
  rw [bmat_up, upC_upC]
theorem tab_basic {i k : Nat} (hi : i < m) (hk : k < m) : tab m A b i (b k) = if i = k then byZ m A b else 0 := by
  by_cases h : i = k
  · subst h
    rw [if_pos rfl]
    unfold tab byZ
    rw [show A (b i) = bmat A b i from rfl, upC_self]
  · rw [if_neg h]
    refine det_eq hi hk h ?_
    rw [upC_same, upC_ne (fun z => h z.symm)]
    rfl
/-- a column of the tableau is linear in the column of the matrix -/
theorem tab_lin {i : Nat} (hi : i < m) (X : Mat) (c : Nat → Int) (k : Nat) (x : Vec) (hx : ∀ p, p < m → x p = sumZ (fun t => c t * X t p) k) : det m (upC (bmat A b) i x) = sumZ (fun t => c t * det m (upC (bmat A b) i (X t))) k := by
  rw [← det_sum hi c X k]
  refine det_congr fun t p ht hp => ?_
  by_cases h : t = i
  · subst h
    rw [upC_same, upC_same]
    exact hx p hp
  · rw [upC_ne h, upC_ne h]
theorem unit_sum (x : Vec) {p : Nat} (hp : p < m) : x p = sumZ (fun t => x t * unitC t p) m := by
  rw [sumZ_one hp fun k hk h => ?_]
  · unfold unitC
    rw [if_pos rfl, Int.mul_one]
  · unfold unitC
    rw [if_neg (fun z => h z.symm), Int.mul_zero]
theorem tab_spare (S : Spare m n A) {i : Nat} (hi : i < m) (j : Nat) : tab m A b i j = sumZ (fun p => tab m A b i (n + p) * A j p) m := by
  have q := tab_lin (A := A) (b := b) hi (fun t => A (n + t)) (fun t => A j t) m (A j) fun p hp => by
    conv => lhs; rw [unit_sum (A j) hp]
    exact sumZ_congr fun t ht => by rw [S t ht p hp]
  show det m (upC (bmat A b) i (A j)) = _
  rw [q]
  exact sumZ_congr fun t ht => Int.mul_comm _ _
/-- the pivot -/
theorem tab_up (I : Inv0 m n A b) {r c i : Nat} (hr : r < m) (hi : i < m) (h : i ≠ r) (j : Nat) : byZ m A b * tab m A (upB b r c) i j = tab m A b i j * tab m A b r c - tab m A b i c * tab m A b r j := by
  unfold tab
  rw [bmat_up]
  have e1 : byZ m A b * det m (upC (upC (bmat A b) r (A c)) i (A j)) = det m (upC (upC (bmat A b) r (A c)) i fun p => byZ m A b * A j p) := (det_mul hi _ _).symm
  rw [e1]
  have e2 : det m (upC (upC (bmat A b) r (A c)) i fun p => byZ m A b * A j p) = sumZ (fun k => tab m A b k j * det m (upC (upC (bmat A b) r (A c)) i (bmat A b k))) m := by
    rw [← det_sum hi (fun k => tab m A b k j) (bmat A b) m]
    refine det_congr fun t p ht hp => ?_
    by_cases q : t = i
    · subst q
      rw [upC_same, upC_same]
      exact I.rep j p hp
    · rw [upC_ne q, upC_ne q]
  rw [e2, sumZ_two hi hr h fun k hk h1 h2 => ?_]
  · have e3 : det m (upC (upC (bmat A b) r (A c)) i (bmat A b i)) = det m (upC (bmat A b) r (A c)) := by
      rw [upC_comm (fun z => h z.symm), upC_self]
    have e4 : det m (upC (upC (bmat A b) r (A c)) i (bmat A b r)) = -det m (upC (bmat A b) i (A c)) := by
      rw [det_swap hr hi (fun z => h z.symm), upC_self]
    rw [e3, e4]
    unfold tab
    grind
  · have z : det m (upC (upC (bmat A b) r (A c)) i (bmat A b k)) = 0 := by
      refine det_eq hi hk (fun z => h1 z.symm) ?_
      rw [upC_same, upC_ne h1, upC_ne h2]
    rw [z, Int.mul_zero]
theorem cost_basic (I : Inv0 m n A b) {k : Nat} (hk : k < m) : costZ m n A b (b k) = 0 := by
  unfold costZ
  rw [sumZ_one hk fun i hi h => ?_, tab_basic hk hk, if_pos rfl]
  · omega
  · rw [tab_basic hi hk, if_neg h, Int.mul_zero]
theorem cost_up (I : Inv0 m n A b) {r c : Nat} (hr : r < m) (hc : c < n) (j : Nat) : byZ m A b * costZ m n A (upB b r c) j = costZ m n A b j * tab m A b r c - costZ m n A b c * tab m A b r j := by
  unfold costZ
  have kc : kap m n c = 0 := if_neg (by omega)
  rw [by_up, kc, Int.zero_mul, Int.mul_sub, ← sumZ_mul]
  have e : sumZ (fun i => byZ m A b * (kap m n (upB b r c i) * tab m A (upB b r c) i j)) m = sumZ (fun i => tab m A b r c * (kap m n (b i) * tab m A b i j) - tab m A b r j * (kap m n (b i) * tab m A b i c)) m := by
    refine sumZ_congr fun i hi => ?_
    by_cases h : i = r
    · subst h
      rw [upB_same, kc]
      grind
    · rw [upB_ne h]
      have q := tab_up I (c := c) hr hi h j
      grind
  rw [e, sumZ_sub, sumZ_mul, sumZ_mul]
  grind
/-- reduced costs as a row -/
def rowZ (m n : Nat) (A : Mat) (b : Nat → Nat) (p : Nat) : Int := sumZ (fun i => kap m n (b i) * tab m A b i (n + p)) m
theorem cost_row (S : Spare m n A) (j : Nat) : costZ m n A b j = kap m n j * byZ m A b - sumZ (fun p => rowZ m n A b p * A j p) m := by
  unfold costZ rowZ
  congr 1
  have e : sumZ (fun i => kap m n (b i) * tab m A b i j) m = sumZ (fun i => sumZ (fun p => kap m n (b i) * (tab m A b i (n + p) * A j p)) m) m := by
    refine sumZ_congr fun i hi => ?_
    rw [tab_spare S hi j, sumZ_mul]
  rw [e, sumZ_comm]
  refine sumZ_congr fun p hp => ?_
  rw [Int.mul_comm, ← sumZ_mul]
  exact sumZ_congr fun i hi => by grind
/-- the costs of two tableaus -/
theorem cost_two {d : Nat → Nat} (S : Spare m n A) (I : Inv0 m n A d) (s : Nat) : byZ m A d * costZ m n A b s - sumZ (fun i => costZ m n A b (d i) * tab m A d i s) m = byZ m A b * costZ m n A d s := by
  have e1 : sumZ (fun i => costZ m n A b (d i) * tab m A d i s) m = byZ m A b * sumZ (fun i => kap m n (d i) * tab m A d i s) m - sumZ (fun p => rowZ m n A b p * (byZ m A d * A s p)) m := by
    have e2 : sumZ (fun i => costZ m n A b (d i) * tab m A d i s) m = sumZ (fun i => byZ m A b * (kap m n (d i) * tab m A d i s) - sumZ (fun p => rowZ m n A b p * (tab m A d i s * A (d i) p)) m) m := by
      refine sumZ_congr fun i hi => ?_
      rw [cost_row S, Int.sub_mul]
      have e3 : sumZ (fun p => rowZ m n A b p * A (d i) p) m * tab m A d i s = sumZ (fun p => rowZ m n A b p * (tab m A d i s * A (d i) p)) m := by
        rw [Int.mul_comm, ← sumZ_mul]
        exact sumZ_congr fun p hp => by grind
      rw [e3]
      grind
    rw [e2, sumZ_sub, sumZ_mul, sumZ_comm]
    congr 1
    refine sumZ_congr fun p hp => ?_
    rw [sumZ_mul, I.rep s p hp]
  rw [e1, cost_row S (b := b)]
  have e4 : sumZ (fun p => rowZ m n A b p * (byZ m A d * A s p)) m = byZ m A d * sumZ (fun p => rowZ m n A b p * A s p) m := by
    rw [← sumZ_mul]
    exact sumZ_congr fun p hp => by grind
  rw [e4]
  unfold costZ
  grind
/-! the first tableau -/
theorem first_det (S : Spare m n A) : byZ m A (fun i => n + i) = 1 := by
  rw [← det_id m]
  exact det_congr fun k p hk hp => S k hk p hp
theorem first_tab (S : Spare m n A) {i : Nat} (hi : i < m) (j : Nat) : tab m A (fun i => n + i) i j = A j i := by
  have q := tab_lin (A := A) (b := fun i => n + i) hi (fun t => bmat A (fun i => n + i) t) (fun t => A j t) m (A j) fun p hp => by
    conv => lhs; rw [unit_sum (A j) hp]
    exact sumZ_congr fun t ht => by rw [show bmat A (fun i => n + i) t p = unitC t p from S t ht p hp]
  show det m (upC _ i (A j)) = _
  rw [q, sumZ_one hi fun k hk h => ?_]
  · rw [upC_self]
    have e : det m (bmat A fun i => n + i) = 1 := first_det S
    rw [e, Int.mul_one]
  · rw [det_eq hi hk (fun z => h z.symm) (by rw [upC_same, upC_ne h]), Int.mul_zero]
theorem first_inv (S : Spare m n A) (hg : ∀ p, p < m → 0 ≤ A (n + m) p) : Inv0 m n A (fun i => n + i) where
  pos := by rw [first_det S]; decide
  rep := fun j p hp => by
    rw [first_det S, Int.one_mul]
    conv => lhs; rw [unit_sum (A j) hp]
    exact sumZ_congr fun i hi => by rw [first_tab S hi, S i hi p hp]
  feas := fun i hi => by
    rw [first_tab S hi]
    exact hg i hi
  lt := fun i hi => by omega
theorem first_cost (S : Spare m n A) (j : Nat) : costZ m n A (fun i => n + i) j = kap m n j - sumZ (fun i => A j i) m := by
  unfold costZ
  rw [first_det S, Int.mul_one]
  congr 1
  refine sumZ_congr fun i hi => ?_
  rw [first_tab S hi, show kap m n (n + i) = 1 from if_pos ⟨by omega, by omega⟩, Int.one_mul]
/-! ### which column comes, which row goes -/
/-- the first column whose cost is below nought -/
def Coming (m n : Nat) (A : Mat) (b : Nat → Nat) (c : Nat) : Prop := c < n ∧ costZ m n A b c < 0 ∧ ∀ j, j < c → 0 ≤ costZ m n A b j
/-- row r goes ahead of row i -/
def Ahead (m n : Nat) (A : Mat) (b : Nat → Nat) (c r i : Nat) : Prop := 0 < tab m A b i (n + m) * tab m A b r c - tab m A b r (n + m) * tab m A b i c ∨ (tab m A b i (n + m) * tab m A b r c - tab m A b r (n + m) * tab m A b i c = 0 ∧ b r ≤ b i)
def Going (m n : Nat) (A : Mat) (b : Nat → Nat) (c r : Nat) : Prop := r < m ∧ 0 < tab m A b r c ∧ ∀ i, i < m → 0 < tab m A b i c → Ahead m n A b c r i
theorem inj_of (I : Inv0 m n A b) {i k : Nat} (hi : i < m) (hk : k < m) (h : b i = b k) : i = k := by
  refine Classical.byContradiction fun z => ?_
  have q := det_eq (B := bmat A b) hi hk z (by unfold bmat; rw [h])
  have p := I.pos
  unfold byZ at p
  omega
theorem come_new (I : Inv0 m n A b) {c : Nat} (h : Coming m n A b c) {k : Nat} (hk : k < m) : b k ≠ c := fun z => by
  have q := cost_basic I hk
  rw [z] at q
  have := h.2.1
  omega
/-- some row can go -/
theorem can_go (I : Inv0 m n A b) {c : Nat} (h : Coming m n A b c) : ∃ i, i < m ∧ 0 < tab m A b i c := by
  have q := h.2.1
  unfold costZ at q
  rw [show kap m n c = 0 from if_neg (by have := h.1; omega), Int.zero_mul] at q
  refine Classical.byContradiction fun z => ?_
  have z2 : 0 ≤ sumZ (fun i => -(kap m n (b i) * tab m A b i c)) m := sumZ_nonneg fun i hi => by
    have : ¬ 0 < tab m A b i c := fun p => z ⟨i, hi, p⟩
    have hk : kap m n (b i) = 1 ∨ kap m n (b i) = 0 := by
      unfold kap
      split
      · exact .inl rfl
      · exact .inr rfl
    rcases hk with hk | hk
    · rw [hk]; omega
    · rw [hk]; omega
  have e : (fun i => -(kap m n (b i) * tab m A b i c)) = fun i => (-1) * (kap m n (b i) * tab m A b i c) := by
    funext i
    omega
  rw [e, sumZ_mul] at z2
  omega
theorem inv_up (I : Inv0 m n A b) {r c : Nat} (hc : c < n) (hg : Going m n A b c r) : Inv0 m n A (upB b r c) := by
  obtain ⟨hr, hp, ha⟩ := hg
  have hby := I.pos
  refine ⟨by rw [by_up]; exact hp, fun j p hpm => ?_, fun i hi => ?_, fun i hi => ?_⟩
  · refine Int.eq_of_mul_eq_mul_left (a := byZ m A b) (by omega) ?_
    rw [by_up, ← sumZ_mul]
    have e : sumZ (fun i => byZ m A b * (tab m A (upB b r c) i j * A (upB b r c i) p)) m = sumZ (fun i => tab m A b r c * (tab m A b i j * A (b i) p) - tab m A b r j * (tab m A b i c * A (b i) p) + (if i = r then tab m A b r j * (byZ m A b * A c p) else 0)) m := by
      refine sumZ_congr fun i hi => ?_
      by_cases h : i = r
      · subst h
        rw [upB_same, tab_up_r, if_pos rfl]
        grind
      · rw [upB_ne h, if_neg h]
        have q := tab_up I (c := c) hr hi h j
        grind
    rw [e, sumZ_add, sumZ_sub, sumZ_mul, sumZ_mul, ← I.rep j p hpm, ← I.rep c p hpm, sumZ_one hr fun k hk h => if_neg h, if_pos rfl]
    grind
  · by_cases h : i = r
    · subst h
      rw [tab_up_r]
      exact I.feas i hi
    · have q := tab_up I (c := c) hr hi h (n + m)
      have f1 := I.feas i hi
      have f2 := I.feas r hr
      have k : 0 ≤ tab m A b i (n + m) * tab m A b r c - tab m A b i c * tab m A b r (n + m) := by
        by_cases h2 : 0 < tab m A b i c
        · have cm := Int.mul_comm (tab m A b i c) (tab m A b r (n + m))
          rcases ha i hi h2 with z | ⟨z, _⟩ <;> omega
        · have z1 := Int.mul_nonneg f1 (Int.le_of_lt hp)
          have z2 := Int.mul_nonneg (show 0 ≤ -tab m A b i c by omega) f2
          rw [Int.neg_mul] at z2
          omega
      rw [← q] at k
      refine Classical.byContradiction fun z => ?_
      have := Int.mul_pos hby (show 0 < -tab m A (upB b r c) i (n + m) by omega)
      rw [Int.mul_neg] at this
      omega
  · by_cases h : i = r
    · rw [h, upB_same]
      omega
    · rw [upB_ne h]
      exact I.lt i hi
end
end Tk
end
section
set_option Elab.async false
set_option linter.all false
set_option maxRecDepth 100000
namespace Tk
/-! ### Bland's rule never turns in a circle -/
section
variable {m n : Nat} {A : Mat}
structure Walk (m n : Nat) (A : Mat) (s : Nat → Nat → Nat) (c r : Nat → Nat) : Prop where
  inv : ∀ k, Inv0 m n A (s k)
  com : ∀ k, Coming m n A (s k) (c k)
  goi : ∀ k, Going m n A (s k) (c k) (r k)
  nxt : ∀ k, s (k + 1) = upB (s k) (r k) (c k)
def basic (m : Nat) (b : Nat → Nat) (j : Nat) : Prop := ∃ i, i < m ∧ b i = j
variable {s : Nat → Nat → Nat} {c r : Nat → Nat}
theorem walk_in (w : Walk m n A s c r) {k j : Nat} (h : basic m (s (k + 1)) j) : basic m (s k) j ∨ j = c k := by
  obtain ⟨i, hi, e⟩ := h
  rw [w.nxt k] at e
  by_cases q : i = r k
  · rw [q, upB_same] at e
    exact .inr e.symm
  · rw [upB_ne q] at e
    exact .inl ⟨i, hi, e⟩
theorem walk_out (w : Walk m n A s c r) {k j : Nat} (h : basic m (s k) j) : basic m (s (k + 1)) j ∨ j = s k (r k) := by
  obtain ⟨i, hi, e⟩ := h
  by_cases q : i = r k
  · exact .inr (by rw [← e, q])
  · refine .inl ⟨i, hi, ?_⟩
    rw [w.nxt k, upB_ne q]
    exact e
theorem walk_new (w : Walk m n A s c r) (k : Nat) : ¬ basic m (s k) (c k) := fun ⟨i, hi, e⟩ => come_new (w.inv k) (w.com k) hi e
/-- between a place where it holds and one where it does not, it ends somewhere -/
theorem ends_between {p : Nat → Prop} {a : Nat} (h : p a) : ∀ d, ¬ p (a + d) → ∃ k, a ≤ k ∧ k < a + d ∧ p k ∧ ¬ p (k + 1)
  | 0, h2 => absurd h h2
  | d + 1, h2 => by
    by_cases q : p (a + d)
    · exact ⟨a + d, by omega, by omega, q, h2⟩
    · obtain ⟨k, h3, h4, h5⟩ := ends_between h d q
      exact ⟨k, h3, by omega, h5⟩
theorem max_at {f : Nat → Nat} {u : Nat} : ∀ B, (∀ k, u ≤ k → f k ≤ B) → ∃ a, u ≤ a ∧ ∀ k, u ≤ k → f k ≤ f a
  | 0, h => ⟨u, Nat.le_refl u, fun k hk => by have := h k hk; omega⟩
  | B + 1, h => by
    by_cases q : ∃ k, u ≤ k ∧ f k = B + 1
    · obtain ⟨a, ha, e⟩ := q
      exact ⟨a, ha, fun k hk => by rw [e]; exact h k hk⟩
    · exact max_at B fun k hk => by
        have h1 := h k hk
        have h2 : f k ≠ B + 1 := fun z => q ⟨k, hk, z⟩
        omega
/-- the goal's cost, as a fraction -/
theorem cost_mono (w : Walk m n A s c r) (k : Nat) : byZ m A (s k) * costZ m n A (s (k + 1)) (n + m) = costZ m n A (s k) (n + m) * byZ m A (s (k + 1)) - costZ m n A (s k) (c k) * tab m A (s k) (r k) (n + m) := by
  rw [w.nxt k, by_up]
  exact cost_up (w.inv k) (w.goi k).1 (w.com k).1 (n + m)
/-- a / b <= c / d, for b, d above nought -/
def leF (a b c d : Int) : Prop := a * d ≤ c * b
theorem leF_trans {a b c d e f : Int} (hb : 0 < b) (hd : 0 < d) (hf : 0 < f) (h1 : leF a b c d) (h2 : leF c d e f) : leF a b e f := by
  unfold leF at h1 h2 ⊢
  have q1 := Int.mul_le_mul_of_nonneg_right h1 (Int.le_of_lt hf)
  have q2 := Int.mul_le_mul_of_nonneg_right h2 (Int.le_of_lt hb)
  have e1 : a * d * f = a * f * d := by rw [Int.mul_assoc, Int.mul_comm d f, ← Int.mul_assoc]
  have e2 : c * b * f = c * f * b := by rw [Int.mul_assoc, Int.mul_comm b f, ← Int.mul_assoc]
  have e3 : e * d * b = e * b * d := by rw [Int.mul_assoc, Int.mul_comm d b, ← Int.mul_assoc]
  rw [e1, e2] at q1
  rw [e3] at q2
  exact Int.le_of_mul_le_mul_right (Int.le_trans q1 q2) hd
theorem cost_le (w : Walk m n A s c r) (k : Nat) : leF (costZ m n A (s k) (n + m)) (byZ m A (s k)) (costZ m n A (s (k + 1)) (n + m)) (byZ m A (s (k + 1))) := by
  have q := cost_mono w k
  have h1 := (w.com k).2.1
  have h2 := (w.inv k).feas _ (w.goi k).1
  have h3 := Int.mul_nonneg (show 0 ≤ -costZ m n A (s k) (c k) by omega) h2
  rw [Int.neg_mul] at h3
  unfold leF
  rw [Int.mul_comm (costZ m n A (s (k + 1)) (n + m))]
  omega
theorem cost_les (w : Walk m n A s c r) (k : Nat) : ∀ d, leF (costZ m n A (s k) (n + m)) (byZ m A (s k)) (costZ m n A (s (k + d)) (n + m)) (byZ m A (s (k + d)))
  | 0 => Int.le_refl _
  | d + 1 => leF_trans (w.inv k).pos (w.inv (k + d)).pos (w.inv (k + (d + 1))).pos (cost_les w k d) (cost_le w (k + d))
theorem degenerate (w : Walk m n A s c r) {k P : Nat} (hP : 0 < P) (h : s (k + P) = s k) : tab m A (s k) (r k) (n + m) = 0 := by
  have q := cost_les w (k + 1) (P - 1)
  have e : k + 1 + (P - 1) = k + P := by omega
  rw [e, h] at q
  have q2 := cost_mono w k
  unfold leF at q
  rw [Int.mul_comm] at q
  have h1 := (w.com k).2.1
  have h2 := (w.inv k).feas _ (w.goi k).1
  refine Classical.byContradiction fun z => ?_
  have h3 := Int.mul_pos (show 0 < -costZ m n A (s k) (c k) by omega) (show 0 < tab m A (s k) (r k) (n + m) by omega)
  rw [Int.neg_mul] at h3
  omega
/-- what stands at nought -/
def AtZero (m n : Nat) (A : Mat) (b : Nat → Nat) (j : Nat) : Prop := ∀ i, i < m → b i = j → tab m A b i (n + m) = 0
theorem zero_keep (w : Walk m n A s c r) {k j : Nat} (h : tab m A (s k) (r k) (n + m) = 0) (z : AtZero m n A (s k) j) : AtZero m n A (s (k + 1)) j := by
  intro i hi e
  rw [w.nxt k] at e ⊢
  by_cases q : i = r k
  · rw [q, tab_up_r]
    exact h
  · rw [upB_ne q] at e
    have p := tab_up (w.inv k) (c := c k) (w.goi k).1 hi q (n + m)
    rw [z i hi e, h, Int.zero_mul, Int.mul_zero, Int.sub_zero] at p
    rcases Int.mul_eq_zero.mp p with p | p
    · have := (w.inv k).pos
      omega
    · exact p
theorem no_circle (S : Spare m n A) (w : Walk m n A s c r) {u P : Nat} (hP : 0 < P) (h : ∀ k, u ≤ k → s (k + P) = s k) : False := by
  obtain ⟨a, hua, hmax⟩ := max_at (f := c) (u := u) n fun k _ => Nat.le_of_lt (w.com k).1
  have deg : ∀ k, u ≤ k → tab m A (s k) (r k) (n + m) = 0 := fun k hk => degenerate w hP (h k hk)
  have b1 : basic m (s (a + 1)) (c a) := ⟨r a, (w.goi a).1, by rw [w.nxt a, upB_same]⟩
  have b2 : ¬ basic m (s (a + 1 + (P - 1))) (c a) := by
    rw [show a + 1 + (P - 1) = a + P by omega, h a hua]
    exact walk_new w a
  obtain ⟨b, hab, _, hb1, hb2⟩ := ends_between (p := fun k => basic m (s k) (c a)) b1 (P - 1) b2
  have et : c a = s b (r b) := (walk_out w hb1).resolve_left hb2
  have cs : c b < c a := by
    have h1 := hmax b (by omega)
    have h2 : c b ≠ c a := fun z => walk_new w b (z ▸ hb1)
    omega
  have hI := w.inv b
  have hJ := w.inv a
  have hS := (w.com a).2.2 (c b) cs
  have hcb := (w.com b).2.1
  -- the two tableaus' costs
  have fin : False := by
    have q := cost_two (b := s a) (d := s b) S hI (c b)
    have n1 : byZ m A (s a) * costZ m n A (s b) (c b) < 0 := by
      have := Int.mul_pos hJ.pos (show 0 < -costZ m n A (s b) (c b) by omega)
      rw [Int.mul_neg] at this
      omega
    have n2 := Int.mul_nonneg (Int.le_of_lt hI.pos) hS
    have n3 : sumZ (fun i => (-1) * (costZ m n A (s a) (s b i) * tab m A (s b) i (c b))) m < 0 := by
      rw [sumZ_mul]
      omega
    obtain ⟨i, hi, hneg⟩ := sumZ_neg n3
    have hpos : 0 < costZ m n A (s a) (s b i) * tab m A (s b) i (c b) := by omega
    have hb : basic m (s b) (s b i) := ⟨i, hi, rfl⟩
    have hnb : ¬ basic m (s a) (s b i) := fun ⟨k, hk, e⟩ => by
      have := cost_basic hJ hk
      rw [e] at this
      rw [this, Int.zero_mul] at hpos
      exact absurd hpos (Int.lt_irrefl 0)
    obtain ⟨k, h1, h2, h3, h4⟩ := ends_between (p := fun k => ¬ basic m (s k) (s b i)) hnb (b - a) (by
      rw [show a + (b - a) = b by omega]
      exact fun z => z hb)
    have hk : s b i = c k := (walk_in w (Classical.not_not.mp h4)).resolve_left h3
    have qle : s b i ≤ c a := by
      rw [hk]
      exact hmax k (by omega)
    have rp := (w.goi b).2.1
    have qne : s b i ≠ c a := fun z => by
      have er : i = r b := inj_of hI hi (w.goi b).1 (by rw [z, et])
      rw [z, er] at hpos
      have := Int.mul_pos (show 0 < -costZ m n A (s a) (c a) by have := (w.com a).2.1; omega) rp
      rw [Int.neg_mul] at this
      omega
    have qc := (w.com a).2.2 (s b i) (by omega)
    have ti : 0 < tab m A (s b) i (c b) := by
      refine Classical.byContradiction fun z => ?_
      have := Int.mul_nonneg qc (show 0 ≤ -tab m A (s b) i (c b) by omega)
      rw [Int.mul_neg] at this
      omega
    have za : ∀ d, AtZero m n A (s (a + d)) (s b i) := by
      intro d
      induction d with
      | zero => exact fun k hk e => absurd ⟨k, hk, e⟩ hnb
      | succ d ih => exact zero_keep w (deg (a + d) (by omega)) ih
    have zb := za (b - a)
    rw [show a + (b - a) = b by omega] at zb
    have z0 := zb i hi rfl
    have rf := deg b (by omega)
    rcases (w.goi b).2.2 i hi ti with z | ⟨_, z⟩
    · rw [z0, rf, Int.zero_mul, Int.zero_mul] at z
      exact absurd z (by decide)
    · rw [← et] at z
      omega
  exact fin
end
/-! ### it comes to an end -/
theorem pigeon {f : Nat → Nat} {K : Nat} (h : ∀ k, f k < K) : ∃ u v, u < v ∧ f u = f v := by
  refine Classical.byContradiction fun z => ?_
  have inj : ∀ i j, f i = f j → i = j := fun i j e => by
    rcases Nat.lt_trichotomy i j with q | q | q
    · exact absurd ⟨i, j, q, e⟩ z
    · exact q
    · exact absurd ⟨j, i, q, e.symm⟩ z
  have nd : ((List.range (K + 1)).map f).Nodup := by
    refine List.Pairwise.map _ (fun a b hab e => hab (inj a b e)) (List.nodup_range (n := K + 1))
  have q := List.Nodup.length_le_of_subset nd (show (List.range (K + 1)).map f ⊆ List.range K from fun x hx => by
    obtain ⟨i, _, rfl⟩ := List.mem_map.mp hx
    exact List.mem_range.mpr (h i))
  rw [List.length_map, List.length_range, List.length_range] at q
  omega
def codeB (W : Nat) (b : Nat → Nat) : Nat → Nat
  | 0 => 0
  | m + 1 => codeB W b m * W + b m
theorem codeB_lt {W : Nat} {b : Nat → Nat} : ∀ {m : Nat}, (∀ i, i < m → b i < W) → codeB W b m < W ^ m
  | 0, _ => Nat.one_pos
  | m + 1, h => by
    show codeB W b m * W + b m < W ^ m * W
    have h1 := codeB_lt (m := m) fun i hi => h i (by omega)
    have h2 := h m (by omega)
    have h3 := Nat.mul_le_mul_right W (show codeB W b m + 1 ≤ W ^ m from h1)
    rw [Nat.add_mul, Nat.one_mul] at h3
    omega
theorem codeB_inj {W : Nat} {b d : Nat → Nat} : ∀ {m : Nat}, (∀ i, i < m → b i < W) → (∀ i, i < m → d i < W) → codeB W b m = codeB W d m → ∀ i, i < m → b i = d i
  | 0, _, _, _, i, hi => absurd hi (Nat.not_lt_zero _)
  | m + 1, h, g, e, i, hi => by
    have e : codeB W b m * W + b m = codeB W d m * W + d m := e
    have h1 := h m (by omega)
    have g1 := g m (by omega)
    have e1 : b m = d m := by
      have q := congrArg (· % W) e
      rw [Nat.add_comm, Nat.add_mul_mod_self_right, Nat.add_comm (codeB W d m * W), Nat.add_mul_mod_self_right, Nat.mod_eq_of_lt h1, Nat.mod_eq_of_lt g1] at q
      exact q
    have e2 : codeB W b m = codeB W d m := by
      have e3 : codeB W b m * W = codeB W d m * W := by omega
      exact Nat.eq_of_mul_eq_mul_right (by omega) e3
    by_cases q : i = m
    · rw [q]; exact e1
    · exact codeB_inj (m := m) (fun i hi => h i (by omega)) (fun i hi => g i (by omega)) e2 i (by omega)
section
variable {m n : Nat} {A : Mat} {b : Nat → Nat}
theorem come_one {c d : Nat} (h : Coming m n A b c) (g : Coming m n A b d) : c = d := by
  rcases Nat.lt_trichotomy c d with q | q | q
  · have := g.2.2 c q
    have := h.2.1
    omega
  · exact q
  · have := h.2.2 d q
    have := g.2.1
    omega
theorem go_one (I : Inv0 m n A b) {c r i : Nat} (h : Going m n A b c r) (g : Going m n A b c i) : r = i := by
  have h1 := h.2.2 i g.1 g.2.1
  have g1 := g.2.2 r h.1 h.2.1
  unfold Ahead at h1 g1
  exact inj_of I h.1 g.1 (by omega)
/-- the row that is found so far gives way -/
theorem ahead_new {c f k i : Nat} (hf : 0 < tab m A b f c) (hk : 0 < tab m A b k c) (hi : 0 < tab m A b i c)
    (h : tab m A b k (n + m) * tab m A b f c - tab m A b f (n + m) * tab m A b k c < 0 ∨ (tab m A b k (n + m) * tab m A b f c - tab m A b f (n + m) * tab m A b k c = 0 ∧ b k < b f)) (a : Ahead m n A b c f i) : Ahead m n A b c k i := by
  unfold Ahead at a ⊢
  have e : tab m A b f c * (tab m A b i (n + m) * tab m A b k c - tab m A b k (n + m) * tab m A b i c) = tab m A b k c * (tab m A b i (n + m) * tab m A b f c - tab m A b f (n + m) * tab m A b i c) + tab m A b i c * -(tab m A b k (n + m) * tab m A b f c - tab m A b f (n + m) * tab m A b k c) := by grind
  have pos : ∀ {x y : Int}, 0 < x → 0 < x * y → 0 < y := fun {x y} hx hxy => by
    refine Classical.byContradiction fun z => ?_
    have := Int.mul_nonneg (Int.le_of_lt hx) (show 0 ≤ -y by omega)
    rw [Int.mul_neg] at this
    omega
  rcases h with h | ⟨h, hb⟩ <;> rcases a with a | ⟨a, ha⟩
  · left
    refine pos hf ?_
    have h1 := Int.mul_pos hk a
    have h2 := Int.mul_pos hi (show 0 < -(tab m A b k (n + m) * tab m A b f c - tab m A b f (n + m) * tab m A b k c) by omega)
    omega
  · left
    refine pos hf ?_
    have h2 := Int.mul_pos hi (show 0 < -(tab m A b k (n + m) * tab m A b f c - tab m A b f (n + m) * tab m A b k c) by omega)
    rw [a, Int.mul_zero] at e
    omega
  · left
    refine pos hf ?_
    have h1 := Int.mul_pos hk a
    rw [h, Int.neg_zero, Int.mul_zero] at e
    omega
  · right
    rw [a, h, Int.neg_zero, Int.mul_zero, Int.mul_zero, Int.add_zero] at e
    refine ⟨?_, by omega⟩
    rcases Int.mul_eq_zero.mp e with z | z
    · omega
    · exact z
/-- what the search for the row that goes has found behind k rows -/
def GoneTo (m n : Nat) (A : Mat) (b : Nat → Nat) (c k : Nat) : Option Nat → Prop
  | none => ∀ i, i < k → ¬ 0 < tab m A b i c
  | some r => r < k ∧ 0 < tab m A b r c ∧ ∀ i, i < k → 0 < tab m A b i c → Ahead m n A b c r i
theorem ahead_self (c k : Nat) : Ahead m n A b c k k := .inr ⟨by omega, Nat.le_refl _⟩
theorem gone_skip {c k : Nat} {o : Option Nat} (h : GoneTo m n A b c k o) (hk : ¬ 0 < tab m A b k c) : GoneTo m n A b c (k + 1) o := by
  cases o with
  | none =>
    intro i hi
    by_cases q : i = k
    · rw [q]; exact hk
    · exact h i (by omega)
  | some r =>
    refine ⟨by have := h.1; omega, h.2.1, fun i hi hp => ?_⟩
    by_cases q : i = k
    · rw [q] at hp; exact absurd hp hk
    · exact h.2.2 i (by omega) hp
theorem gone_first {c k : Nat} (h : GoneTo m n A b c k none) (hk : 0 < tab m A b k c) : GoneTo m n A b c (k + 1) (some k) := by
  refine ⟨by omega, hk, fun i hi hp => ?_⟩
  by_cases q : i = k
  · rw [q]; exact ahead_self c k
  · exact absurd hp (h i (by omega))
theorem gone_new {c k r : Nat} (h : GoneTo m n A b c k (some r)) (hk : 0 < tab m A b k c)
    (hl : tab m A b k (n + m) * tab m A b r c - tab m A b r (n + m) * tab m A b k c < 0 ∨ (tab m A b k (n + m) * tab m A b r c - tab m A b r (n + m) * tab m A b k c = 0 ∧ b k < b r)) : GoneTo m n A b c (k + 1) (some k) := by
  refine ⟨by omega, hk, fun i hi hp => ?_⟩
  by_cases q : i = k
  · rw [q]; exact ahead_self c k
  · exact ahead_new h.2.1 hk hp hl (h.2.2 i (by omega) hp)
theorem gone_old {c k r : Nat} (h : GoneTo m n A b c k (some r)) (hk : 0 < tab m A b k c)
    (hl : ¬ (tab m A b k (n + m) * tab m A b r c - tab m A b r (n + m) * tab m A b k c < 0 ∨ (tab m A b k (n + m) * tab m A b r c - tab m A b r (n + m) * tab m A b k c = 0 ∧ b k < b r))) : GoneTo m n A b c (k + 1) (some r) := by
  refine ⟨by have := h.1; omega, h.2.1, fun i hi hp => ?_⟩
  by_cases q : i = k
  · rw [q]
    unfold Ahead
    omega
  · exact h.2.2 i (by omega) hp
theorem gone_all (c : Nat) : ∀ k, ∃ o, GoneTo m n A b c k o
  | 0 => ⟨none, fun i hi => absurd hi (Nat.not_lt_zero _)⟩
  | k + 1 => by
    obtain ⟨o, h⟩ := gone_all c k
    by_cases hk : 0 < tab m A b k c
    · cases o with
      | none => exact ⟨_, gone_first h hk⟩
      | some r =>
        by_cases hl : tab m A b k (n + m) * tab m A b r c - tab m A b r (n + m) * tab m A b k c < 0 ∨ (tab m A b k (n + m) * tab m A b r c - tab m A b r (n + m) * tab m A b k c = 0 ∧ b k < b r)
        · exact ⟨_, gone_new h hk hl⟩
        · exact ⟨_, gone_old h hk hl⟩
    · exact ⟨_, gone_skip h hk⟩
theorem going_of (I : Inv0 m n A b) {c : Nat} (hc : Coming m n A b c) {o : Option Nat} (h : GoneTo m n A b c m o) : ∃ r, o = some r ∧ Going m n A b c r := by
  cases o with
  | none =>
    obtain ⟨i, hi, hp⟩ := can_go I hc
    exact absurd hp (h i hi)
  | some r => exact ⟨r, rfl, h⟩
theorem go_some (I : Inv0 m n A b) {c : Nat} (hc : Coming m n A b c) : ∃ r, Going m n A b c r := by
  obtain ⟨o, h⟩ := gone_all (m := m) (n := n) (A := A) (b := b) c m
  obtain ⟨r, _, g⟩ := going_of I hc h
  exact ⟨r, g⟩
end
open Classical in
noncomputable def stepB (m n : Nat) (A : Mat) (b : Nat → Nat) : Nat → Nat :=
  if h : ∃ c r, Coming m n A b c ∧ Going m n A b c r then upB b (choose (choose_spec h)) (choose h) else b
theorem step_is {m n : Nat} {A : Mat} {b : Nat → Nat} (I : Inv0 m n A b) {c r : Nat} (hc : Coming m n A b c) (hg : Going m n A b c r) : stepB m n A b = upB b r c := by
  have h : ∃ c r, Coming m n A b c ∧ Going m n A b c r := ⟨c, r, hc, hg⟩
  unfold stepB
  rw [dif_pos h]
  have h1 := Classical.choose_spec (Classical.choose_spec h)
  have e1 := come_one h1.1 hc
  have e2 : Classical.choose (Classical.choose_spec h) = r := go_one I (e1 ▸ h1.2) hg
  rw [e2, e1]
noncomputable def iterB (m n : Nat) (A : Mat) : Nat → Nat → Nat
  | 0 => fun i => n + i
  | k + 1 => stepB m n A (iterB m n A k)
/-- the first tableau at which no column comes -/
theorem it_ends {m n : Nat} {A : Mat} (S : Spare m n A) (hg : ∀ p, p < m → 0 ≤ A (n + m) p) : ∃ k, ∀ c, ¬ Coming m n A (iterB m n A k) c := by
  refine Classical.byContradiction fun z => ?_
  have all : ∀ k, ∃ c, Coming m n A (iterB m n A k) c := fun k => Classical.byContradiction fun y => z ⟨k, fun c hc => y ⟨c, hc⟩⟩
  have inv : ∀ k, Inv0 m n A (iterB m n A k) ∧ ∀ i, m ≤ i → iterB m n A k i = n + i := by
    intro k
    induction k with
    | zero => exact ⟨first_inv S hg, fun i _ => rfl⟩
    | succ k ih =>
      obtain ⟨c, hc⟩ := all k
      obtain ⟨r, hr⟩ := go_some ih.1 hc
      show Inv0 m n A (stepB m n A (iterB m n A k)) ∧ ∀ i, m ≤ i → stepB m n A (iterB m n A k) i = n + i
      rw [step_is ih.1 hc hr]
      refine ⟨inv_up ih.1 hc.1 hr, fun i hi => ?_⟩
      rw [upB_ne (by have := hr.1; omega)]
      exact ih.2 i hi
  have alr : ∀ k, ∃ r, Going m n A (iterB m n A k) (Classical.choose (all k)) r := fun k => go_some (inv k).1 (Classical.choose_spec (all k))
  have w : Walk m n A (iterB m n A) (fun k => Classical.choose (all k)) (fun k => Classical.choose (alr k)) := ⟨fun k => (inv k).1, fun k => Classical.choose_spec (all k), fun k => Classical.choose_spec (alr k), fun k => step_is (inv k).1 (Classical.choose_spec (all k)) (Classical.choose_spec (alr k))⟩
  obtain ⟨u, v, huv, e⟩ := pigeon (f := fun k => codeB (n + m) (iterB m n A k) m) (K := (n + m) ^ m) fun k => codeB_lt (inv k).1.lt
  have e2 : iterB m n A u = iterB m n A v := by
    funext i
    by_cases hi : i < m
    · exact codeB_inj (inv u).1.lt (inv v).1.lt e i hi
    · rw [(inv u).2 i (by omega), (inv v).2 i (by omega)]
  refine no_circle S w (u := u) (P := v - u) (by omega) ?_
  have key : ∀ d, iterB m n A (u + d + (v - u)) = iterB m n A (u + d) := by
    intro d
    induction d with
    | zero =>
      rw [Nat.add_zero, show u + (v - u) = v by omega]
      exact e2.symm
    | succ d ih =>
      show iterB m n A (u + (d + 1) + (v - u)) = stepB m n A (iterB m n A (u + d))
      rw [← ih, show u + (d + 1) + (v - u) = u + d + (v - u) + 1 by omega]
      rfl
  intro k hk
  have q := key (k - u)
  rw [show u + (k - u) = k by omega] at q
  exact q
end Tk
end
section
set_option Elab.async false
set_option linter.all false
set_option maxRecDepth 100000
namespace Tk
/-! ### what the last tableau tells -/
theorem sumZ_rat (f : Nat → Int) : ∀ n, ((sumZ f n : Int) : Rat) = sumN (fun i => (f i : Rat)) n
  | 0 => rfl
  | n + 1 => by
    show ((sumZ f n + f n : Int) : Rat) = sumN (fun i => (f i : Rat)) n + (f n : Rat)
    rw [Rat.intCast_add, sumZ_rat f n]
theorem rat_cancel {a x y : Rat} (h : a ≠ 0) (e : a * x = a * y) : x = y := by
  have i1 := Rat.inv_mul_cancel a h
  have e3 : a⁻¹ * (a * x) = a⁻¹ * (a * y) := by rw [e]
  rw [← Rat.mul_assoc, ← Rat.mul_assoc, i1, Rat.one_mul, Rat.one_mul] at e3
  exact e3
/-- the matrix of a balance: columns cs j, goal g, scales s -/
structure Bal (m n : Nat) (A : Mat) (cs : Nat → Nat → Rat) (g : Nat → Rat) (s : Nat → Int) : Prop where
  spare : Spare m n A
  nz : ∀ p, p < m → s p ≠ 0
  col : ∀ j, j < n → ∀ p, p < m → (A j p : Rat) = cs j p * (s p : Rat)
  goal : ∀ p, p < m → (A (n + m) p : Rat) = g p * (s p : Rat)
  pos : ∀ p, p < m → 0 ≤ A (n + m) p
/-- the shares, as they are put down row by row -/
def shF (m n : Nat) (A : Mat) (b : Nat → Nat) : Nat → Nat → Rat
  | 0 => fun _ => 0
  | k + 1 => if b k < n then updN (shF m n A b k) (b k) (Rat.divInt (tab m A b k (n + m)) (byZ m A b)) else shF m n A b k
section
variable {m n : Nat} {A : Mat} {cs : Nat → Nat → Rat} {g : Nat → Rat} {s : Nat → Int} {b : Nat → Nat}
theorem shF_out : ∀ {k j : Nat}, (∀ i, i < k → b i ≠ j) → shF m n A b k j = 0
  | 0, _, _ => rfl
  | k + 1, j, h => by
    show (if b k < n then updN (shF m n A b k) (b k) _ else shF m n A b k) j = 0
    have ih := shF_out (k := k) (j := j) fun i hi => h i (by omega)
    split
    · rw [updN_ne (fun z => h k (by omega) z.symm), ih]
    · exact ih
theorem sumN_upd {f y : Nat → Rat} {c : Nat} {x : Rat} (h0 : f c = 0) : ∀ {n : Nat}, sumN (fun j => updN f c x j * y j) n = sumN (fun j => f j * y j) n + (if c < n then x * y c else 0)
  | 0 => by
    rw [if_neg (Nat.not_lt_zero c)]
    show (0 : Rat) = 0 + 0
    rw [Rat.add_zero]
  | n + 1 => by
    show sumN (fun j => updN f c x j * y j) n + updN f c x n * y n = sumN (fun j => f j * y j) n + f n * y n + _
    rw [sumN_upd h0 (n := n)]
    by_cases h : c < n
    · rw [if_pos h, if_pos (by omega), updN_ne (by omega)]
      grind
    · rw [if_neg h]
      by_cases e : n = c
      · subst e
        rw [if_pos (by omega), updN_same, h0]
        grind
      · rw [if_neg (by omega), updN_ne e]
        grind
theorem shF_sum (y : Nat → Rat) (inj : ∀ i k, i < m → k < m → b i = b k → i = k) : ∀ {k : Nat}, k ≤ m → sumN (fun j => shF m n A b k j * y j) n = sumN (fun i => if b i < n then Rat.divInt (tab m A b i (n + m)) (byZ m A b) * y (b i) else 0) k
  | 0, _ => by
    show sumN (fun j => (0 : Rat) * y j) n = 0
    have e : (fun j => (0 : Rat) * y j) = fun _ => 0 := by
      funext j
      exact Rat.zero_mul _
    rw [e, sumN_zero]
  | k + 1, hk => by
    have ih := shF_sum y inj (k := k) (by omega)
    show sumN (fun j => (if b k < n then updN (shF m n A b k) (b k) _ else shF m n A b k) j * y j) n = _ + (if b k < n then _ else 0)
    by_cases h : b k < n
    · rw [if_pos h, if_pos h, sumN_upd (shF_out fun i hi e => by have := inj i k (by omega) (by omega) e; omega), ih, if_pos h]
    · rw [if_neg h, if_neg h, ih, Rat.add_zero]
theorem shares_right (B : Bal m n A cs g s) (I : Inv0 m n A b) (hz : costZ m n A b (n + m) = 0) {p : Nat} (hp : p < m) : sumN (fun j => shF m n A b m j * cs j p) n = g p := by
  rw [shF_sum (fun j => cs j p) (fun i k hi hk e => inj_of I hi hk e) (Nat.le_refl m)]
  have hby : ((byZ m A b : Int) : Rat) ≠ 0 := fun z => by
    have e0 : ((0 : Int) : Rat) = 0 := rfl
    have := Rat.intCast_inj.mp (z.trans e0.symm)
    have := I.pos
    omega
  have hs : ((s p : Int) : Rat) ≠ 0 := fun z => by
    have e0 : ((0 : Int) : Rat) = 0 := rfl
    exact B.nz p hp (Rat.intCast_inj.mp (z.trans e0.symm))
  have art : ∀ i, i < m → ¬ b i < n → tab m A b i (n + m) = 0 := by
    unfold costZ at hz
    rw [show kap m n (n + m) = 0 from if_neg (by omega), Int.zero_mul] at hz
    intro i hi hn
    have q := sumZ_zero_of (f := fun i => kap m n (b i) * tab m A b i (n + m)) (n := m) (fun i hi => by
      have := I.feas i hi
      unfold kap
      split
      · omega
      · omega) (by omega) i hi
    rw [show kap m n (b i) = 1 from if_pos ⟨by omega, I.lt i hi⟩, Int.one_mul] at q
    exact q
  have r1 : ((byZ m A b * A (n + m) p : Int) : Rat) = ((sumZ (fun i => tab m A b i (n + m) * A (b i) p) m : Int) : Rat) := by rw [I.rep (n + m) p hp]
  rw [Rat.intCast_mul, B.goal p hp, sumZ_rat] at r1
  have r2 : sumN (fun i => ((tab m A b i (n + m) * A (b i) p : Int) : Rat)) m = sumN (fun i => (byZ m A b : Rat) * (s p : Rat) * (if b i < n then Rat.divInt (tab m A b i (n + m)) (byZ m A b) * cs (b i) p else 0)) m := by
    refine sumN_congr fun i hi => ?_
    rw [Rat.intCast_mul]
    by_cases h : b i < n
    · rw [if_pos h, B.col (b i) h p hp, Rat.divInt_eq_div, Rat.div_def]
      have := Rat.mul_inv_cancel _ hby
      grind
    · rw [if_neg h, art i hi h]
      have e0 : ((0 : Int) : Rat) = 0 := rfl
      rw [e0, Rat.zero_mul, Rat.mul_zero]
  rw [r2, sumN_mul] at r1
  have e : (byZ m A b : Rat) * (s p : Rat) * g p = (byZ m A b : Rat) * (s p : Rat) * sumN (fun i => if b i < n then Rat.divInt (tab m A b i (n + m)) (byZ m A b) * cs (b i) p else 0) m := by grind
  have hne : (byZ m A b : Rat) * (s p : Rat) ≠ 0 := fun z => by
    rcases Rat.mul_eq_zero.mp z with z | z
    · exact hby z
    · exact hs z
  exact (rat_cancel hne e).symm
/-- each share is a row's last number by the pivot, or nought -/
theorem shF_cases (k : Nat) (j : Nat) : shF m n A b k j = 0 ∨ ∃ i, i < k ∧ shF m n A b k j = Rat.divInt (tab m A b i (n + m)) (byZ m A b) := by
  induction k with
  | zero => exact .inl rfl
  | succ k ih =>
    have lift : shF m n A b k j = 0 ∨ (∃ i, i < k + 1 ∧ shF m n A b k j = Rat.divInt (tab m A b i (n + m)) (byZ m A b)) := by
      rcases ih with h | ⟨i, hi, h⟩
      · exact .inl h
      · exact .inr ⟨i, by omega, h⟩
    show (if b k < n then updN (shF m n A b k) (b k) _ else shF m n A b k) j = 0 ∨ ∃ i, i < k + 1 ∧ (if b k < n then updN (shF m n A b k) (b k) _ else shF m n A b k) j = _
    split
    · by_cases q : j = b k
      · subst q
        rw [updN_same]
        exact .inr ⟨k, by omega, rfl⟩
      · rw [updN_ne q]
        exact lift
    · exact lift
/-- the weights -/
def wtF (m n : Nat) (A : Mat) (s : Nat → Int) (b : Nat → Nat) (p : Nat) : Rat := Rat.divInt ((costZ m n A b (n + p) - byZ m A b) * s p) (byZ m A b)
theorem wt_row (S : Spare m n A) {p : Nat} (hp : p < m) : costZ m n A b (n + p) - byZ m A b = -rowZ m n A b p := by
  rw [cost_row S, show kap m n (n + p) = 1 from if_pos ⟨by omega, by omega⟩]
  have e : sumZ (fun q => rowZ m n A b q * A (n + p) q) m = rowZ m n A b p := by
    rw [sumZ_one hp fun k hk h => ?_, S p hp p hp]
    · unfold unitC
      rw [if_pos rfl, Int.mul_one]
    · rw [S p hp k hk]
      unfold unitC
      rw [if_neg h, Int.mul_zero]
  rw [e]
  omega
theorem wt_dot (B : Bal m n A cs g s) (I : Inv0 m n A b) (x : Nat → Rat) (j : Nat) (hk : kap m n j = 0) (hx : ∀ p, p < m → (A j p : Rat) = x p * (s p : Rat)) : sumN (fun p => wtF m n A s b p * x p) m = (costZ m n A b j : Rat) / (byZ m A b : Rat) := by
  have hby : ((byZ m A b : Int) : Rat) ≠ 0 := fun z => by
    have e0 : ((0 : Int) : Rat) = 0 := rfl
    have := Rat.intCast_inj.mp (z.trans e0.symm)
    have := I.pos
    omega
  have e : sumN (fun p => wtF m n A s b p * x p) m = sumN (fun p => (-(byZ m A b : Rat)⁻¹) * ((rowZ m n A b p * A j p : Int) : Rat)) m := by
    refine sumN_congr fun p hp => ?_
    unfold wtF
    rw [wt_row B.spare hp, Rat.divInt_eq_div, Rat.div_def, Rat.intCast_mul, Rat.intCast_neg, Rat.intCast_mul, hx p hp]
    grind
  rw [e, sumN_mul, ← sumZ_rat, cost_row B.spare, hk, Int.zero_mul, Int.zero_sub, Rat.intCast_neg, Rat.div_def]
  grind
theorem div_nn {a b : Int} (hb : 0 < b) (h : 0 ≤ a) : (0 : Rat) ≤ (a : Rat) / (b : Rat) := by
  have e0 : ((0 : Int) : Rat) = 0 := rfl
  have h1 : (0 : Rat) ≤ (a : Rat) := by rw [← e0]; exact Rat.intCast_le_intCast.mpr h
  have h2 : (0 : Rat) < (b : Rat) := by rw [← e0]; exact Rat.intCast_lt_intCast.mpr hb
  rw [Rat.div_def]
  exact Rat.mul_nonneg h1 (Rat.le_of_lt (Rat.inv_pos.mpr h2))
theorem div_neg' {a b : Int} (hb : 0 < b) (h : a < 0) : (a : Rat) / (b : Rat) < 0 := by
  have e0 : ((0 : Int) : Rat) = 0 := rfl
  have h1 : (a : Rat) < 0 := by rw [← e0]; exact Rat.intCast_lt_intCast.mpr h
  have h2 : (0 : Rat) < (b : Rat) := by rw [← e0]; exact Rat.intCast_lt_intCast.mpr hb
  have q := Rat.mul_pos (show (0 : Rat) < -(a : Rat) by grind) (Rat.inv_pos.mpr h2)
  rw [Rat.div_def]
  grind
theorem weights_right (B : Bal m n A cs g s) (I : Inv0 m n A b) (hn : ∀ c, ¬ Coming m n A b c) (hz : costZ m n A b (n + m) ≠ 0) : (∀ j, j < n → 0 ≤ sumN (fun p => wtF m n A s b p * cs j p) m) ∧ sumN (fun p => wtF m n A s b p * g p) m < 0 := by
  have nn : ∀ k, k ≤ n → ∀ j, j < k → 0 ≤ costZ m n A b j := by
    intro k
    induction k with
    | zero => intro _ j hj; omega
    | succ k ih =>
      intro hk j hj
      by_cases q : j = k
      · subst q
        refine Classical.byContradiction fun z => ?_
        exact hn j ⟨hk, by omega, ih (by omega)⟩
      · exact ih (by omega) j (by omega)
  constructor
  · intro j hj
    rw [wt_dot B I (cs j) j (if_neg (by omega)) (B.col j hj)]
    exact div_nn I.pos (nn n (Nat.le_refl n) j hj)
  · rw [wt_dot B I g (n + m) (if_neg (by omega)) B.goal]
    refine div_neg' I.pos ?_
    have h1 : 0 ≤ sumZ (fun i => kap m n (b i) * tab m A b i (n + m)) m := sumZ_nonneg fun i hi => by
      have := I.feas i hi
      unfold kap
      split
      · omega
      · omega
    have e : costZ m n A b (n + m) = -sumZ (fun i => kap m n (b i) * tab m A b i (n + m)) m := by
      unfold costZ
      rw [show kap m n (n + m) = 0 from if_neg (by omega)]
      omega
    omega
/-- both cannot be -/
theorem not_both {m n : Nat} {cs : Nat → Nat → Rat} {g : Nat → Rat} {x w : Nat → Rat} (hx : ∀ j, j < n → 0 ≤ x j) (hs : ∀ p, p < m → sumN (fun j => x j * cs j p) n = g p) (hw : ∀ j, j < n → 0 ≤ sumN (fun p => w p * cs j p) m) : 0 ≤ sumN (fun p => w p * g p) m := by
  have e : sumN (fun p => w p * g p) m = sumN (fun j => x j * sumN (fun p => w p * cs j p) m) n := by
    have e1 : sumN (fun p => w p * g p) m = sumN (fun p => sumN (fun j => w p * (x j * cs j p)) n) m := sumN_congr fun p hp => by
      rw [← hs p hp, sumN_mul]
    rw [e1, sumN_comm]
    refine sumN_congr fun j hj => ?_
    rw [← sumN_mul]
    exact sumN_congr fun p hp => by grind
  rw [e]
  exact sumN_nonneg fun j hj => Rat.mul_nonneg (hx j hj) (hw j hj)
end
/-! sizes -/
section
variable {m n : Nat} {A : Mat} {b : Nat → Nat} {M : Nat}
theorem tab_bound (hM : ∀ j, j ≤ n + m → ∀ p, p < m → (A j p).natAbs ≤ M) (lt : ∀ i, i < m → b i < n + m) {i j : Nat} (hj : j ≤ n + m) : (tab m A b i j).natAbs ≤ detB M m := by
  refine det_bound fun k p hk hp => ?_
  by_cases q : k = i
  · rw [q, upC_same]
    exact hM j hj p hp
  · rw [upC_ne q]
    exact hM (b k) (by have := lt k hk; omega) p hp
theorem by_bound (hM : ∀ j, j ≤ n + m → ∀ p, p < m → (A j p).natAbs ≤ M) (lt : ∀ i, i < m → b i < n + m) : (byZ m A b).natAbs ≤ detB M m := det_bound fun k p hk hp => hM (b k) (by have := lt k hk; omega) p hp
theorem cost_bound (hM : ∀ j, j ≤ n + m → ∀ p, p < m → (A j p).natAbs ≤ M) (lt : ∀ i, i < m → b i < n + m) {j : Nat} (hj : j ≤ n + m) : (costZ m n A b j).natAbs ≤ (m + 1) * detB M m := by
  have h1 : (sumZ (fun i => kap m n (b i) * tab m A b i j) m).natAbs ≤ m * detB M m := sumZ_abs fun i hi => by
    rw [Int.natAbs_mul]
    have h2 := tab_bound (b := b) hM lt (i := i) hj
    have h3 : (kap m n (b i)).natAbs ≤ 1 := by
      unfold kap
      split <;> decide
    have := Nat.mul_le_mul h3 h2
    omega
  have h2 : (kap m n j * byZ m A b).natAbs ≤ detB M m := by
    rw [Int.natAbs_mul]
    have h2 := by_bound (b := b) hM lt
    have h3 : (kap m n j).natAbs ≤ 1 := by
      unfold kap
      split <;> decide
    have := Nat.mul_le_mul h3 h2
    omega
  unfold costZ
  rw [Nat.add_mul, Nat.one_mul]
  omega
end
end Tk
end
section
set_option Elab.async false
set_option linter.all false
set_option maxRecDepth 100000
set_option maxHeartbeats 4000000
namespace Tk
open PySem PySem.Spec PyProof.Rows L2
/-! ### reading an own object's fields -/
def aFld (C : Addr) (i : Nat) (x : Str) : AE := fun A Q => ∃ fs d, A[i]? = some (.ob C fs) ∧ fs.lookup x = some d ∧ Q d A
section
variable {X : Cx} {C : Addr}
theorem se_fld {K : PySem.W.Frag} (i : Nat) {x y : Str} {p pos : Pos} (c : Cls K C) (na : NoAttr K C x) (hN : X.N[i]? = some y := by rfl) (hv : Vis X.env.scope y := by first | exact Or.inl rfl | exact Or.inr (Or.inl rfl) | exact Or.inr (Or.inr rfl)) (hd : (y == ("__debug__" : Str)) = false := by decide)
    (hcd : (y == ("__classdict__" : Str)) = false := by decide) (hb : attributeBase (.Name y p) x X.env (eval (.Name y p) X.env) = eval (.Name y p) X.env := by rfl) (hK : X.K = K := by rfl) : SE X (.Attribute (.Name y p) x pos) (tFld K (tVar i) x) (aFld C i x) := by
  subst hK
  refine ⟨pe_fld (pe_var hN hv hd hcd) hb, fun M F0 H0 A σ F H Qd Q rp h k => ?_⟩
  obtain ⟨fs, d, g, l, q⟩ := h
  obtain ⟨a, dx, vs, e, h0, m, dd⟩ := rp.slot i _ g
  obtain ⟨v, hl, dv⟩ := dd _ _ l
  exact ⟨.ref a, e, a, C, dx, vs, v, rfl, rp.keep _ _ h0 m, c, na, hl, k d v A F H q (Ev.refl rp) dv⟩
/-! a cut of a list -/
def cutD (ds : List PyData) (lo hi : Option Int) : List PyData := (ds.drop (HT.sIx ds.length 0 lo)).take (HT.sIx ds.length ds.length hi - HT.sIx ds.length 0 lo)
theorem DDs.take {K : PySem.W.Frag} {F : Hp} : ∀ {vs : List V} {ds : List PyData} (n : Nat), DDs K F vs ds → DDs K F (vs.take n) (ds.take n)
  | _, _, 0, _ => by rw [List.take_zero, List.take_zero]; exact .nil
  | _, _, n + 1, .nil => .nil
  | _, _, n + 1, .cons h hs => .cons h (DDs.take n hs)
theorem DDs.drop {K : PySem.W.Frag} {F : Hp} : ∀ {vs : List V} {ds : List PyData} (n : Nat), DDs K F vs ds → DDs K F (vs.drop n) (ds.drop n)
  | _, _, 0, h => h
  | _, _, n + 1, .nil => .nil
  | _, _, n + 1, .cons h hs => DDs.drop n hs
theorem DDs.cut {K : PySem.W.Frag} {F : Hp} {vs : List V} {ds : List PyData} (lo hi : Option Int) (h : DDs K F vs ds) : DDs K F (cutV vs lo hi) (cutD ds lo hi) := by
  unfold cutV cutD
  rw [h.len]
  exact (h.drop _).take _
/-- a[:hi], hi a whole number -/
def aCutHi (a b : AE) : AL := fun A Q => a A fun x A1 => b A1 fun y A2 => ∃ ds i, x = .list ds ∧ y = .int i ∧ Q (cutD ds none (some i)) A2
def aCutLo (a b : AE) : AL := fun A Q => a A fun x A1 => b A1 fun y A2 => ∃ ds i, x = .list ds ∧ y = .int i ∧ Q (cutD ds (some i) none) A2
variable {e b : Expr} {te tb : TE} {ae ab : AE} {pos p2 : Pos}
theorem sn_cutHi {K : PySem.W.Frag} (he : SE X e te ae) (hb : SE X b tb ab) (hK : X.K = K := by rfl) : SN X (.Subscript e (.Slice none (some b) none p2) pos) (tSl (rSlL K) te tNoPart (tPart tb)) (aCutHi ae ab) := by
  subst hK
  refine ⟨pe_slice sl_list he.p po_none (po_some hb.p), fun M F0 H0 A σ F H Qd Q rp h k => ?_⟩
  refine he.s M F0 H0 A σ F H _ _ rp h fun x v A1 F1 H1 q1 e1 d1 => ?_
  refine hb.s M F0 H0 A1 σ F1 H1 _ _ e1.rp q1 fun y u A2 F2 H2 q2 e2 d2 => ?_
  obtain ⟨ds, i, rfl, rfl, q⟩ := q2
  obtain ⟨a, vs, rfl, fa, hvs⟩ := d1.list_v
  have eu := d2.int_v
  subst eu
  refine ⟨i, rfl, a, vs, rfl, SqL.of (e2.rp.sub _ _ (e2.ff _ _ fa)), fun p hp => ?_⟩
  have h0 := (e1.trans e2).dm p hp
  have fp : F2 p = none := e2.rp.sub.free hp
  exact k _ p _ A2 F2 _ q ((e1.trans e2).trans (Ev.grow e2.rp (Gr.laid e2.rp.sub hp))) h0 fp upd_same ((hvs.mono e2.ff).cut none (some i))
theorem sn_cutLo {K : PySem.W.Frag} (he : SE X e te ae) (hb : SE X b tb ab) (hK : X.K = K := by rfl) : SN X (.Subscript e (.Slice (some b) none none p2) pos) (tSl (rSlL K) te (tPart tb) tNoPart) (aCutLo ae ab) := by
  subst hK
  refine ⟨pe_slice sl_list he.p (po_some hb.p) po_none, fun M F0 H0 A σ F H Qd Q rp h k => ?_⟩
  refine he.s M F0 H0 A σ F H _ _ rp h fun x v A1 F1 H1 q1 e1 d1 => ?_
  refine hb.s M F0 H0 A1 σ F1 H1 _ _ e1.rp q1 fun y u A2 F2 H2 q2 e2 d2 => ?_
  obtain ⟨ds, i, rfl, rfl, q⟩ := q2
  obtain ⟨a, vs, rfl, fa, hvs⟩ := d1.list_v
  have eu := d2.int_v
  subst eu
  refine ⟨i, rfl, a, vs, rfl, SqL.of (e2.rp.sub _ _ (e2.ff _ _ fa)), fun p hp => ?_⟩
  have h0 := (e1.trans e2).dm p hp
  have fp : F2 p = none := e2.rp.sub.free hp
  exact k _ p _ A2 F2 _ q ((e1.trans e2).trans (Ev.grow e2.rp (Gr.laid e2.rp.sub hp))) h0 fp upd_same ((hvs.mono e2.ff).cut (some i) none)
end
/-! ### methods that read -/
abbrev RM := List (Str × PyData) → List PyData → (PyData → Prop) → Prop
def spO (K : PySem.W.Frag) (C : Addr) (R : RM) : Sp := fun vs H Q _ => ∃ (F : Hp) (a dx : Addr) (fvs : List (Str × V)) (fs : List (Str × PyData)) (ws : List V) (ds : List PyData) (P : PyData → Prop),
  vs = .ref a :: ws ∧ Same F H ∧ H a = some (.ins C dx fvs) ∧ (∀ x d, fs.lookup x = some d → ∃ v, fvs.lookup x = some v ∧ DD K F v d) ∧ DDs K F ws ds ∧ R fs ds P ∧ ∀ d v F' H', P d → Gr F H F' H' → DD K F' v d → Q v H'
def startO (C : Addr) (fs : List (Str × PyData)) (n : Nat) (ds : List PyData) : Sto := .ob C fs :: startA (n - 1) ds
section
variable {P : Program} {w : World} {K : PySem.W.Frag} {mg : Str → Option Value} {base : Heap} {C f : Addr} {fd : FuncData}
theorem start_ob {F H : Hp} {a dx : Addr} {fvs : List (Str × V)} {fs : List (Str × PyData)} {vs : List V} {ds : List PyData} {y : Str} {N : List Str} (e : Same F H) (ha : H a = some (.ins C dx fvs)) (hf : ∀ x d, fs.lookup x = some d → ∃ v, fvs.lookup x = some v ∧ DD K F v d) (h : DDs K F vs ds) (hl : ds.length ≤ N.length) :
    Rp K (fun _ => False) F H (startO C fs (y :: N).length ds) (L2.start (y :: N) (.ref a :: vs)) F H := by
  have q := start_rp (N := N) e h hl
  have e1 : L2.start (y :: N) (.ref a :: vs) = some (.ref a) :: L2.start N vs := by
    unfold L2.start
    simp
  rw [e1]
  refine ⟨q.keep, q.dom, q.fz, q.sub, q.new, congrArg Nat.succ q.len, fun i s es => ?_, fun i j p o u d1 d2 e1 e2 e3 e4 => ?_⟩
  · cases i with
    | zero =>
      have z : Slot.ob C fs = s := Option.some.inj es
      subst z
      exact ⟨a, dx, fvs, rfl, ha, id, hf⟩
    | succ i => exact q.slot i s es
  · cases i with
    | zero => cases e1
    | succ i =>
      cases j with
      | zero => cases e2
      | succ j => exact congrArg Nat.succ (q.inj i j p o u d1 d2 e1 e2 e3 e4)
theorem okO {x qual : Str} {params : Arguments} {body : List Stmt} {scope : Scope} {dvs : List V} {kws : List (Str × V)} {y : Str} {N ps : List Str} {k : Nat} {R : RM} (F : FunD K x qual params body scope dvs kws f fd) (S : FnScope (y :: N) ps scope) (hps : ps.length ≤ N.length + 1) (len : ∀ fs ds P, R fs ds P → ds.length + 1 = ps.length)
    (hb : ∀ (cdv : Value) (A : Around) (outer : List Env) (s : Shared) (H : Hp), Room k (A.deeper (envOfC qual scope s.heap.objs.size f cdv)) →
      ∃ t a, SSs (cxOf CX0 P w K mg base (y :: N) qual scope f cdv A outer s H E0).nox body t a ∧ ∀ (fs : List (Str × PyData)) (ds : List PyData) (Pd : PyData → Prop), R fs ds Pd → a (endsD Pd) (startO C fs (y :: N).length ds)) : FnOk P w K mg base CX0 (k + 1) f fd ps (spO K C R) := by
  refine F.ok S (fun vs H Q E h => ?_) (fun cdv A outer s H vs Q E hr h => ?_)
  · obtain ⟨F', a, dx, fvs, fs, ws, ds, Pd, rfl, _, _, _, dd, hR, _⟩ := h
    rw [List.length_cons, dd.len]
    exact len fs ds Pd hR
  · obtain ⟨F', a, dx, fvs, fs, ws, ds, Pd, rfl, sf, ha, hf, dd, hR, q⟩ := h
    obtain ⟨t, ar, hp, har⟩ := hb cdv A outer s H hr
    refine ⟨t, hp.p.nox, ?_⟩
    have hl := len fs ds Pd hR
    refine hp.s (fun _ => False) F' H _ _ F' H (endsD Pd) _ (start_ob sf ha hf dd (by omega)) (har fs ds Pd hR) ⟨fun A1 σ1 F1 H1 h1 r1 s1 => ?_, fun d v A1 σ1 F1 H1 h1 r1 s1 d1 => ?_, fun _ _ _ _ h1 _ _ => h1.elim, fun _ _ _ _ h1 _ _ => h1.elim⟩
    · exact q .none .non F1 H1 h1 ⟨fun a o z => r1.keep a o z id, s1, r1.sub, r1.new⟩ .non
    · exact q d v F1 H1 h1 ⟨fun a o z => r1.keep a o z id, s1, r1.sub, r1.new⟩ d1
end
end Tk
end
section
set_option Elab.async false
set_option linter.all false
set_option maxRecDepth 100000
set_option maxHeartbeats 4000000
set_option exponentiation.threshold 10000
namespace Tk
open PySem PySem.Spec PyProof.Rows L2
/-- what the methods ask of their class -/
structure LT (K : PySem.W.Frag) (mg : Str → Option Value) (C : Addr) : Prop where
  cl : Cls K C
  n_many : NoAttr K C "many"
  n_scales : NoAttr K C "scales"
  n_rows : NoAttr K C "rows"
  n_base : NoAttr K C "base"
  n_by : NoAttr K C "by"
  n_costs : NoAttr K C "costs"
  mgC : mg "Lines" = some (.ref C)
abbrev zL (n : Nat) (x : Nat → Int) : List PyData := mapD n fun j => .int (x j)
abbrev zD (n : Nat) (x : Nat → Int) : PyData := .list (zL n x)
def linesF (n m : Nat) (A : Mat) (s : Nat → Int) (b : Nat → Nat) : List (Str × PyData) :=
  [("many", .int (n : Nat)), ("scales", zD m s), ("rows", .list (mapD m fun i => zD (n + m + 1) (tab m A b i))), ("base", .list (mapD m fun i => .int (b i : Nat))), ("by", .int (byZ m A b)), ("costs", zD (n + m + 1) (costZ m n A b))]
structure SzL (n m : Nat) (A : Mat) (s : Nat → Int) (b : Nat → Nat) : Prop where
  mn : m ≤ 5 ∧ n ≤ 7
  t : ∀ i j, i < m → j ≤ n + m → Sz (tab m A b i j)
  by_ : Sz (byZ m A b)
  pos : 0 < byZ m A b
  c : ∀ j, j ≤ n + m → Sz (costZ m n A b j) ∧ Sz (costZ m n A b j - byZ m A b)
  s : ∀ p, p < m → Sz (s p)
  lt : ∀ i, i < m → b i < n + m
section
variable {P : Program} {w : World} {K : PySem.W.Frag} {mg : Str → Option Value} {base : Heap} {f CL : Addr} {fd : FuncData} {aN aO aT aH : Addr}
theorem atI_last {n : Nat} {g : Nat → PyData} : atI (mapD (n + 1) g) (-1) = some (g n) := by
  have e : ixN (mapD (n + 1) g).length (-1) = some n := by
    rw [mapD_len]
    unfold ixN
    rw [if_neg (by decide), if_pos (by omega)]
    congr 1
    omega
  unfold atI
  rw [e]
  exact mapD_at (by omega)
def RScale : RC := fun ds Q => ∃ (L : Nat) (v : Nat → Rat) (D : Nat), ds = [vD (L + 1) v] ∧ L ≤ 100 ∧ 0 < D ∧ D < 2 ^ 4490 ∧ (∀ i, i < L + 1 → (v i).den ∣ D) ∧
  ∀ s : Int, s ≠ 0 → s.natAbs ∣ D → (∀ i, i < L + 1 → ((v i).den : Int) ∣ s) → (v L < 0 → s < 0) → (¬ v L < 0 → 0 < s) → Q (.int s)
theorem sc_scale_of : FnScope ["row", "found", "one"] ["row"] (defScope (top 27)) := ⟨rfl, rfl, rfl, by decide +kernel, rfl, by decide +kernel, by decide +kernel⟩
theorem ok_scale_of (F : FnT K "scale_of" (top 27) f fd) (g_divisor : Fn P w K mg base "divisor" 1 (spD K RDivisor)) : FnOk P w K mg base CX0 2 f fd ["row"] (spD K RScale) := by
  have nd := sc_scale_of.nd
  refine okD F sc_scale_of (by decide) (fun ds Q h => ?_) (fun cdv A outer s H hr => ?_)
  · obtain ⟨L, v, D, rfl, _⟩ := h
    rfl
  refine ⟨_, _, (sss_cons (ss_set 1 nd se_int)
      (sss_cons (ss_for rfl PassesOwn.never (si_list (sv 0)) (sg_name 2 nd)
      (sss_one (ss_set 1 nd (se_mul (se_fdiv (sv 1) (se_call g_divisor hr (sa_cons (sv 1) (sa_cons (se_ixT (sv 2) se_int) sa_nil)))) (se_ixT (sv 2) se_int)))))
      (sss_cons (ss_if (st_lt (se_ixT (se_ixL (sv 0) (se_neg se_int)) se_int) se_int) (sss_one (ss_ret (se_sub se_int (sv 1)))) sss_nil)
      (sss_one (ss_ret (sv 1)))))), fun ds Q h => ?_⟩
  obtain ⟨L, v, D, rfl, hL, hD, hD2, hv, hQ⟩ := h
  refine ⟨_, rfl, _, rfl, ?_⟩
  refine ⟨fun i A => ∃ (t : Nat) (x : Slot), A = [.fz (vD (L + 1) v), .fz (.int (t : Nat)), x] ∧ 0 < t ∧ t ∣ D ∧ ∀ k, k < i → (v k).den ∣ t, ⟨1, _, rfl, by decide, Nat.one_dvd D, fun k hk => by omega⟩, ?_, ?_⟩
  · rintro i d A hd ⟨t, x, rfl, t0, tD, ht⟩
    obtain ⟨hi, rfl⟩ := mapD_get hd
    have d0 := (v i).den_pos
    have dD := hv i hi
    have g0 : 0 < Nat.gcd t (v i).den := Nat.gcd_pos_of_pos_left _ t0
    have szt : ∀ k : Nat, k ≤ D → Sz (k : Int) := fun k hk => by
      unfold Sz
      rw [Int.natAbs_natCast]
      exact Nat.lt_of_le_of_lt hk hD2
    have gl : Nat.gcd t (v i).den ≤ D := Nat.le_trans (Nat.gcd_le_left _ t0) (Nat.le_of_dvd hD tD)
    have ef : ((t : Nat) : Int).fdiv ((Int.gcd (t : Int) ((v i).den : Int) : Nat) : Int) = ((t / Nat.gcd t (v i).den : Nat) : Int) := by
      show ((t : Nat) : Int).fdiv ((Nat.gcd t (v i).den : Nat) : Int) = _
      rw [Int.fdiv_eq_ediv_of_nonneg _ (by omega)]
      rfl
    refine ⟨_, rfl, _, rfl, _, rfl, _, 1, _, rfl, rfl, rfl, _, _, rfl, ?_⟩
    refine ⟨_, _, rfl, rfl, (szt _ gl).cf (by omega) _, _, rfl, _, 1, _, rfl, rfl, rfl, _, _, rfl, rfl, ?_, ?_⟩
    · rw [ef]
      exact (szt _ (Nat.le_trans (Nat.div_le_self _ _) (Nat.le_of_dvd hD tD))).mul (szt _ (Nat.le_of_dvd hD dD))
    · rw [ef]
      have el : t / Nat.gcd t (v i).den * (v i).den = Nat.lcm t (v i).den := by
        unfold Nat.lcm
        rw [Nat.div_mul_right_comm (Nat.gcd_dvd_left _ _)]
      refine ⟨Nat.lcm t (v i).den, .fz (fr (v i)), ?_, Nat.lcm_pos t0 d0, Nat.lcm_dvd tD dD, fun k hk => ?_⟩
      · rw [← el, Int.natCast_mul]
        rfl
      · by_cases q : k = i
        · rw [q]
          exact Nat.dvd_lcm_right _ _
        · exact Nat.dvd_trans (ht k (by omega)) (Nat.dvd_lcm_left _ _)
  · rintro A ⟨t, x, rfl, t0, tD, ht⟩
    rw [show (vL (L + 1) v).length = L + 1 from vL_len _ _] at ht
    refine ⟨_, rfl, _, rfl, _, -1, _, rfl, rfl, atI_last, _, 0, _, rfl, rfl, rfl, _, _, rfl, rfl, _, rfl, ?_⟩
    have hd : ∀ i, i < L + 1 → ((v i).den : Int) ∣ (t : Int) := fun i hi => Int.ofNat_dvd.mpr (ht i hi)
    refine ite2 (fun hy => ?_) (fun hy => ?_)
    · have hn : v L < 0 := num_neg.mp (of_decide_eq_true hy)
      refine ⟨_, rfl, _, _, rfl, rfl, ?_⟩
      refine hQ (0 - (t : Int)) (by omega) ?_ (fun i hi => ?_) (fun _ => by omega) (fun z => absurd hn z)
      · rw [Int.zero_sub, Int.natAbs_neg, Int.natAbs_natCast]
        exact tD
      · rw [Int.zero_sub]
        exact Int.dvd_neg.mpr (hd i hi)
    · have hn : ¬ v L < 0 := fun z => hy (decide_eq_true (num_neg.mpr z))
      refine ⟨_, rfl, ?_⟩
      exact hQ (t : Int) (by omega) (by rw [Int.natAbs_natCast]; exact tD) hd (fun z => absurd z hn) (fun _ => by omega)
def RComing : RM := fun fs ds Q => ∃ n m A s b, fs = linesF n m A s b ∧ ds = [] ∧ SzL n m A s b ∧ (∀ c, Coming m n A b c → Q (.int (c : Nat))) ∧ ((∀ c, ¬ Coming m n A b c) → Q .none)
theorem sc_coming : FnScope ["self", "column"] ["self"] (defScope (inClass (top 28) 1)) := ⟨rfl, rfl, rfl, by decide +kernel, rfl, by decide +kernel, by decide +kernel⟩
theorem ok_coming (F : FunD K "coming" "Lines.coming" (defArgs (inClass (top 28) 1)) (defBody (inClass (top 28) 1)) (defScope (inClass (top 28) 1)) [] [] f fd) (T : LT K mg CL) (B : Bt mg) : FnOk P w K mg base CX0 1 f fd ["self"] (spO K CL RComing) := by
  have nd := sc_coming.nd
  refine okO F sc_coming (by decide) (fun fs ds Q h => ?_) (fun cdv A outer s H hr => ?_)
  · obtain ⟨n, m, A, s, b, _, rfl, _⟩ := h
    rfl
  refine ⟨_, _, (sss_cons (ss_for rfl PassesOwn.never (si_range B.range (sa_cons (se_fld 0 T.cl T.n_many) sa_nil)) (sg_name 1 nd)
      (sss_one (ss_if (st_lt (se_ixL (se_fld 0 T.cl T.n_costs) (sv 1)) se_int) (sss_one (ss_ret (sv 1))) sss_nil)))
      (sss_one (ss_ret se_non))), fun fs ds Q h => ?_⟩
  obtain ⟨n, m, A, s, b, rfl, rfl, z, h1, h2⟩ := h
  obtain ⟨z1, z2⟩ := z.mn
  refine ⟨_, _, rfl, rfl, n, rfl, by omega, ?_⟩
  refine ⟨fun i B => ∃ x, B = [.ob CL (linesF n m A s b), x] ∧ ∀ j, j < i → 0 ≤ costZ m n A b j, ⟨_, rfl, fun j hj => by omega⟩, ?_, ?_⟩
  · rintro i d B hd ⟨x, rfl, hx⟩
    rw [rgD_map] at hd
    obtain ⟨hi, rfl⟩ := mapD_get hd
    refine ⟨_, _, rfl, rfl, _, rfl, _, _, _, rfl, rfl, mapD_ix (by omega), _, _, rfl, rfl, _, rfl, ?_⟩
    refine ite2 (fun hy => ?_) (fun hy => ?_)
    · exact ⟨_, rfl, h1 i ⟨hi, of_decide_eq_true hy, hx⟩⟩
    · refine ⟨_, rfl, fun j hj => ?_⟩
      by_cases q : j = i
      · rw [q]
        have : ¬ costZ m n A b i < 0 := fun z => hy (decide_eq_true z)
        omega
      · exact hx j (by omega)
  · rintro B ⟨x, rfl, hx⟩
    rw [rgD_map, mapD_len] at hx
    exact h2 fun c hc => by
      have := hx c hc.1
      have := hc.2.1
      omega
def optN : Option Nat → PyData
  | none => .none
  | some r => .int (r : Nat)
def RGoing : RM := fun fs ds Q => ∃ n m A s b c, fs = linesF n m A s b ∧ ds = [.int (c : Nat)] ∧ c < n ∧ SzL n m A s b ∧ ∀ o, GoneTo m n A b c m o → Q (optN o)
theorem sc_going : FnScope ["self", "column", "found", "number", "row", "less", "best"] ["self", "column"] (defScope (inClass (top 28) 2)) := ⟨rfl, rfl, rfl, by decide +kernel, rfl, by decide +kernel, by decide +kernel⟩
theorem ok_going (F : FunD K "going" "Lines.going" (defArgs (inClass (top 28) 2)) (defBody (inClass (top 28) 2)) (defScope (inClass (top 28) 2)) [] [] f fd) (T : LT K mg CL) (B : Bt mg) : FnOk P w K mg base CX0 1 f fd ["self", "column"] (spO K CL RGoing) := by
  have nd := sc_going.nd
  refine okO F sc_going (by decide) (fun fs ds Q h => ?_) (fun cdv A outer s H hr => ?_)
  · obtain ⟨n, m, A, s, b, c, _, rfl, _⟩ := h
    rfl
  refine ⟨_, _, (sss_cons (ss_set 2 nd se_non)
      (sss_cons (ss_for rfl PassesOwn.never (si_enum B.enumerate (sa_cons (se_fld 0 T.cl T.n_rows) sa_nil)) (sg_two 3 4 rfl nd (sg_name 3 nd) (sg_name 4 nd))
      (sss_one (ss_if (st_gt (se_ixL (sv 4) (sv 1)) se_int) (sss_cons (ss_set 5 nd (se_neg se_int))
      (sss_cons (ss_if (st_notN (sv 2)) (sss_cons (ss_set 6 nd (se_ixL (se_fld 0 T.cl T.n_rows) (sv 2)))
      (sss_one (ss_set 5 nd (se_sub (se_mul (se_ixL (sv 4) (se_neg se_int)) (se_ixL (sv 6) (sv 1))) (se_mul (se_ixL (sv 6) (se_neg se_int)) (se_ixL (sv 4) (sv 1))))))) sss_nil)
      (sss_one (ss_if (sw_or (st_lt (sv 5) se_int) (sw_or1 (sw_and (st_eq (sv 5) se_int) (sw_and1 (st_lt (se_ixL (se_fld 0 T.cl T.n_base) (sv 3)) (se_ixL (se_fld 0 T.cl T.n_base) (sv 2))))).t)).t (sss_one (ss_set 2 nd (sv 3))) sss_nil)))) sss_nil)))
      (sss_one (ss_ret (sv 2))))), fun fs ds Q h => ?_⟩
  obtain ⟨n, m, A, s, b, c, rfl, rfl, hc, z, hQ⟩ := h
  obtain ⟨z1, z2⟩ := z.mn
  refine ⟨_, _, rfl, rfl, _, rfl, ?_⟩
  rw [mapD_enum]
  refine ⟨fun i B => ∃ (o : Option Nat) (x3 x4 x5 x6 : Slot), B = [.ob CL (linesF n m A s b), .fz (.int (c : Nat)), .fz (optN o), x3, x4, x5, x6] ∧ GoneTo m n A b c i o, ⟨none, _, _, _, _, rfl, fun i hi => by omega⟩, ?_, ?_⟩
  · rintro i d B hd ⟨o, x3, x4, x5, x6, rfl, ho⟩
    obtain ⟨hi, rfl⟩ := mapD_get hd
    refine ⟨_, rfl, _, _, rfl, _, _, rfl, rfl, ?_⟩
    refine ⟨_, rfl, _, rfl, _, _, _, rfl, rfl, mapD_ix (by omega), _, _, rfl, rfl, _, rfl, ?_⟩
    refine ite2 (fun hy => ?_) (fun hy => ?_)
    · have hp : 0 < tab m A b i c := of_decide_eq_true hy
      refine ⟨_, rfl, _, rfl, rfl, _, rfl, ?_⟩
      cases o with
      | none =>
        refine iteF ?_
        refine ⟨_, rfl, _, _, rfl, rfl, _, rfl, ?_⟩
        refine iteT ?_
        refine iteT ?_
        exact ⟨_, rfl, some i, .fz (.int (i : Nat)), .fz (zD (n + m + 1) (tab m A b i)), .fz (.int (-1)), x6, rfl, gone_first ho hp⟩
      | some r =>
        have hr := ho.1
        refine iteT ?_
        refine ⟨_, _, rfl, rfl, _, rfl, _, _, _, rfl, rfl, mapD_ix (by omega), ?_⟩
        refine ⟨_, rfl, _, rfl, _, _, _, rfl, rfl, atI_last, _, rfl, _, rfl, _, _, _, rfl, rfl, mapD_ix (by omega), _, _, rfl, rfl, (z.t _ _ hi (by omega)).mul (z.t _ _ (by omega) (by omega)), ?_⟩
        refine ⟨_, rfl, _, rfl, _, _, _, rfl, rfl, atI_last, _, rfl, _, rfl, _, _, _, rfl, rfl, mapD_ix (by omega), _, _, rfl, rfl, (z.t _ _ (by omega) (by omega)).mul (z.t _ _ (by omega) (by omega)), _, _, rfl, rfl, ?_⟩
        refine ⟨_, rfl, _, _, rfl, rfl, _, rfl, ?_⟩
        refine ite2 (fun h1 => ?_) (fun h1 => ?_)
        · refine iteT ?_
          exact ⟨_, rfl, some i, _, _, _, _, rfl, gone_new ho hp (.inl (of_decide_eq_true h1))⟩
        · have h1 : ¬ _ < (0 : Int) := fun z => h1 (decide_eq_true z)
          refine ⟨_, rfl, _, rfl, _, rfl, ?_⟩
          refine ite2 (fun h2 => ?_) (fun h2 => ?_)
          · have h2 := of_decide_eq_true h2
            refine ⟨_, _, rfl, rfl, _, rfl, _, _, _, rfl, rfl, mapD_ix hi, _, _, rfl, rfl, _, rfl, _, _, _, rfl, rfl, mapD_ix (by omega), _, _, rfl, rfl, _, rfl, ?_⟩
            refine ite2 (fun h3 => ?_) (fun h3 => ?_)
            · have h3 := of_decide_eq_true h3
              exact ⟨_, rfl, some i, _, _, _, _, rfl, gone_new ho hp (.inr ⟨h2, by omega⟩)⟩
            · have h3 : ¬ ((b i : Int) < (b r : Int)) := fun z => h3 (decide_eq_true z)
              exact ⟨some r, _, _, _, _, rfl, gone_old ho hp (fun z => by
                rcases z with z | z
                · exact h1 z
                · exact h3 (by omega))⟩
          · have h2 : ¬ _ = (0 : Int) := fun z => h2 (decide_eq_true z)
            refine iteF ?_
            exact ⟨some r, _, _, _, _, rfl, gone_old ho hp (fun z => by
                rcases z with z | z
                · exact h1 z
                · exact h2 z.1)⟩
    · exact ⟨o, _, _, _, _, rfl, gone_skip ho (fun z => hy (decide_eq_true z))⟩
  · rintro B ⟨o, x3, x4, x5, x6, rfl, ho⟩
    rw [mapD_len] at ho
    exact ⟨_, rfl, hQ o ho⟩
def RExchanged : RM := fun fs ds Q => ∃ (l c : Nat) (by_ : Int) (x y : Nat → Int), fs = [(("by" : Str), PyData.int by_)] ∧ ds = [zD l x, .int (c : Nat), zD l y] ∧ c < l ∧ l ≤ 100 ∧ Sz by_ ∧ by_ ≠ 0 ∧ (∀ j, j < l → Sz (x j) ∧ Sz (y j)) ∧ Q (zD l fun j => (x j * y c - x c * y j).fdiv by_)
theorem sc_exchanged : FnScope ["self", "row", "column", "by", "much", "here", "there"] ["self", "row", "column", "by"] (defScope (inClass (top 28) 3)) := ⟨rfl, rfl, rfl, by decide +kernel, rfl, by decide +kernel, by decide +kernel⟩
theorem ok_exchanged (F : FunD K "exchanged" "Lines.exchanged" (defArgs (inClass (top 28) 3)) (defBody (inClass (top 28) 3)) (defScope (inClass (top 28) 3)) [] [] f fd) (T : LT K mg CL) (B : Bt mg) : FnOk P w K mg base CX0 1 f fd ["self", "row", "column", "by"] (spO K CL RExchanged) := by
  have nd := sc_exchanged.nd
  refine okO F sc_exchanged (by decide) (fun fs ds Q h => ?_) (fun cdv A outer s H hr => ?_)
  · obtain ⟨l, c, e, x, y, _, rfl, _⟩ := h
    rfl
  refine ⟨_, _, (sss_cons (ss_set 4 nd (se_ixL (sv 1) (sv 2)))
      (sss_one (ss_ret (se_ofN (sn_lc [("here", 5), ("there", 6)] rfl nd (si_zip B.zip (sa_cons (sv 1) (sa_cons (sv 3) sa_nil))) (by kernel_rfl) (fun _ _ _ _ _ => by exact (sg_two 5 6 rfl nd (sg_name 5 nd) (sg_name 6 nd))) (fun _ _ _ _ _ => by exact sts_nil) (fun _ _ _ _ _ => by exact (se_fdiv (se_sub (se_mul (sv 5) (se_ixL (sv 3) (sv 2))) (se_mul (sv 4) (sv 6))) (se_fld 0 T.cl T.n_by)))))))), fun fs ds Q h => ?_⟩
  obtain ⟨l, c, e, x, y, rfl, rfl, hc, hl, se, e0, hxy, hQ⟩ := h
  refine ⟨_, rfl, _, rfl, _, _, _, rfl, rfl, mapD_ix hc, ?_⟩
  refine ⟨_, rfl, _, rfl, _, _, rfl, ?_⟩
  rw [mapD_zip]
  refine ⟨rfl, by rw [mapD_len]; omega, fun j => some (.int ((x j * y c - x c * y j).fdiv e)), fun j d hd => ?_, ?_⟩
  · obtain ⟨hj, rfl⟩ := mapD_get hd
    refine ⟨_, rfl, _, _, rfl, _, _, rfl, rfl, rfl, _, rfl, _, rfl, _, rfl, _, _, _, rfl, rfl, mapD_ix hc, _, _, rfl, rfl, (hxy j hj).1.mul (hxy c hc).2, _, rfl, _, rfl, _, _, rfl, rfl, (hxy c hc).1.mul (hxy j hj).2, _, _, rfl, rfl, _, _, rfl, rfl, _, _, rfl, rfl, se.cf e0 _, rfl, rfl⟩
  · rw [mapD_len, outs_map fun i _ => rfl]
    exact hQ
def RSharesTold : RM := fun fs ds Q => ∃ n m A s b, fs = linesF n m A s b ∧ ds = [] ∧ SzL n m A s b ∧ Q (vD n (shF m n A b m))
theorem cf_gcd {a b : Int} (h : Sz b) (h0 : b ≠ 0) : ∀ z g : Int, g ≠ 0 → g.natAbs = Int.gcd a b → CFdiv z g := fun z g hg e => by
  refine Sz.cf ?_ hg z
  unfold Sz at h ⊢
  have := Int.gcd_le_natAbs_right a h0
  omega
theorem sc_shares_told : FnScope ["self", "found", "column", "row"] ["self"] (defScope (inClass (top 28) 5)) := ⟨rfl, rfl, rfl, by decide +kernel, rfl, by decide +kernel, by decide +kernel⟩
theorem ok_shares_told (F : FunD K "shares_told" "Lines.shares_told" (defArgs (inClass (top 28) 5)) (defBody (inClass (top 28) 5)) (defScope (inClass (top 28) 5)) [] [] f fd) (T : LT K mg CL) (B : Bt mg) (C : Cst K mg aN aO aT aH) (g_fraction : Fn P w K mg base "fraction" 2 (spD K RFraction)) : FnOk P w K mg base CX0 3 f fd ["self"] (spO K CL RSharesTold) := by
  have nd := sc_shares_told.nd
  refine okO F sc_shares_told (by decide) (fun fs ds Q h => ?_) (fun cdv A outer s H hr => ?_)
  · obtain ⟨n, m, A, s, b, _, rfl, _⟩ := h
    rfl
  refine ⟨_, _, (sss_cons (ss_setN 1 nd (sn_rep (se_lst (sa_cons C.NOUGHT sa_nil)) (se_fld 0 T.cl T.n_many)))
      (sss_cons (ss_for rfl PassesOwn.never (si_zip B.zip (sa_cons (se_fld 0 T.cl T.n_base) (sa_cons (se_fld 0 T.cl T.n_rows) sa_nil))) (sg_two 2 3 rfl nd (sg_name 2 nd) (sg_name 3 nd))
      (sss_one (ss_if (st_lt (sv 2) (se_fld 0 T.cl T.n_many)) (sss_one (ss_setIx 1 (se_call g_fraction hr (sa_cons (se_ixL (sv 3) (se_neg se_int)) (sa_cons (se_fld 0 T.cl T.n_by) sa_nil))) (sv 2))) sss_nil)))
      (sss_one (ss_ret (svf 1))))), fun fs ds Q h => ?_⟩
  obtain ⟨n, m, A, s, b, rfl, rfl, z, hQ⟩ := h
  obtain ⟨z1, z2⟩ := z.mn
  have p0 := z.pos
  refine ⟨by decide, _, _, rfl, rfl, _, _, rfl, rfl, by omega, by omega, le_line (by show 1 * (n : Int).toNat ≤ 1000; omega), ?_⟩
  rw [Int.toNat_natCast, vL_zero]
  refine ⟨_, _, rfl, rfl, _, _, rfl, rfl, _, _, rfl, ?_⟩
  rw [mapD_zip]
  refine ⟨fun i B => ∃ x2 x3, B = [.ob CL (linesF n m A s b), .mu true (vL n (shF m n A b i)), x2, x3], ⟨_, _, rfl⟩, ?_, ?_⟩
  · rintro i d B hd ⟨x2, x3, rfl⟩
    obtain ⟨hi, rfl⟩ := mapD_get hd
    refine ⟨_, rfl, _, _, rfl, _, _, rfl, rfl, ?_⟩
    refine ⟨_, rfl, _, _, rfl, rfl, _, _, rfl, rfl, _, rfl, ?_⟩
    refine ite2 (fun hy => ?_) (fun hy => ?_)
    · have hb : b i < n := by have := of_decide_eq_true hy; omega
      refine ⟨_, rfl, _, rfl, _, _, _, rfl, rfl, atI_last, _, _, rfl, rfl, _, _, rfl, by omega, cf_gcd z.by_ (by omega), ⟨_, _, rfl⟩, _, rfl, _, _, _, b i, rfl, rfl, ?_, ?_⟩
      · rw [vL_len]
        exact ixN_nat hb
      · refine ⟨.fz (.int (b i : Nat)), .fz (zD (n + m + 1) (tab m A b i)), ?_⟩
        rw [vL_set]
        show _ = [Slot.ob CL (linesF n m A s b), .mu true (vL n (if b i < n then updN (shF m n A b i) (b i) (Rat.divInt (tab m A b i (n + m)) (byZ m A b)) else shF m n A b i)), _, _]
        rw [if_pos hb]
        rfl
    · have hb : ¬ b i < n := fun z => hy (decide_eq_true (by omega))
      refine ⟨.fz (.int (b i : Nat)), .fz (zD (n + m + 1) (tab m A b i)), ?_⟩
      show _ = [Slot.ob CL (linesF n m A s b), .mu true (vL n (if b i < n then updN (shF m n A b i) (b i) (Rat.divInt (tab m A b i (n + m)) (byZ m A b)) else shF m n A b i)), _, _]
      rw [if_neg hb]
      rfl
  · rintro B ⟨x2, x3, rfl⟩
    rw [mapD_len]
    exact ⟨_, rfl, hQ⟩
def RWeightsTold : RM := fun fs ds Q => ∃ n m A s b, fs = linesF n m A s b ∧ ds = [] ∧ SzL n m A s b ∧ Q (vD m (wtF m n A s b))
theorem sc_weights_told : FnScope ["self", "found", "place", "scale"] ["self"] (defScope (inClass (top 28) 6)) := ⟨rfl, rfl, rfl, by decide +kernel, rfl, by decide +kernel, by decide +kernel⟩
theorem ok_weights_told (F : FunD K "weights_told" "Lines.weights_told" (defArgs (inClass (top 28) 6)) (defBody (inClass (top 28) 6)) (defScope (inClass (top 28) 6)) [] [] f fd) (T : LT K mg CL) (B : Bt mg) (g_fraction : Fn P w K mg base "fraction" 2 (spD K RFraction)) : FnOk P w K mg base CX0 3 f fd ["self"] (spO K CL RWeightsTold) := by
  have nd := sc_weights_told.nd
  refine okO F sc_weights_told (by decide) (fun fs ds Q h => ?_) (fun cdv A outer s H hr => ?_)
  · obtain ⟨n, m, A, s, b, _, rfl, _⟩ := h
    rfl
  refine ⟨_, _, (sss_cons (ss_setN 1 nd (sn_lst sa_nil))
      (sss_cons (ss_for rfl PassesOwn.never (si_enum B.enumerate (sa_cons (se_fld 0 T.cl T.n_scales) sa_nil)) (sg_two 2 3 rfl nd (sg_name 2 nd) (sg_name 3 nd))
      (sss_one (ss_appd 1 (se_call g_fraction hr (sa_cons (se_mul (se_sub (se_ixL (se_fld 0 T.cl T.n_costs) (se_add (se_fld 0 T.cl T.n_many) (sv 2))) (se_fld 0 T.cl T.n_by)) (sv 3)) (sa_cons (se_fld 0 T.cl T.n_by) sa_nil))))))
      (sss_one (ss_ret (svf 1))))), fun fs ds Q h => ?_⟩
  obtain ⟨n, m, A, s, b, rfl, rfl, z, hQ⟩ := h
  obtain ⟨z1, z2⟩ := z.mn
  have p0 := z.pos
  refine ⟨by decide, ?_⟩
  refine ⟨_, _, rfl, rfl, _, rfl, ?_⟩
  rw [mapD_enum]
  refine ⟨fun i B => ∃ x2 x3, B = [.ob CL (linesF n m A s b), .mu true (vL i (wtF m n A s b)), x2, x3], ⟨_, _, rfl⟩, ?_, ?_⟩
  · rintro i d B hd ⟨x2, x3, rfl⟩
    obtain ⟨hi, rfl⟩ := mapD_get hd
    refine ⟨_, rfl, _, _, rfl, _, _, rfl, rfl, ?_⟩
    have ei : ((n : Nat) : Int) + ((i : Nat) : Int) = ((n + i : Nat) : Int) := by omega
    refine ⟨⟨_, _, rfl⟩, _, _, rfl, rfl, _, _, rfl, rfl, _, rfl, _, _, rfl, rfl, _, _, _, rfl, rfl, by rw [ei]; exact mapD_ix (by omega), ?_⟩
    refine ⟨_, _, rfl, rfl, _, _, rfl, rfl, _, rfl, _, _, rfl, rfl, (z.c _ (by omega)).2.mul (z.s i hi), _, _, rfl, rfl, _, _, rfl, by omega, cf_gcd z.by_ (by omega), _, _, rfl, by rw [vL_len]; omega, ?_⟩
    refine ⟨.fz (.int (i : Nat)), .fz (.int (s i)), ?_⟩
    have e3 : vL (i + 1) (wtF m n A s b) = vL i (wtF m n A s b) ++ [fr (wtF m n A s b i)] := by
      unfold vL mapD
      rw [List.range_succ, List.map_append]
      rfl
    rw [e3]
    rfl
  · rintro B ⟨x2, x3, rfl⟩
    rw [mapD_len]
    exact ⟨_, rfl, hQ⟩
end
end Tk
end
section
set_option Elab.async false
set_option linter.all false
set_option maxRecDepth 100000
set_option maxHeartbeats 4000000
set_option exponentiation.threshold 10000
namespace Tk
open PySem PySem.Spec PyProof.Rows L2
/-! ### the object of a balance, while it changes -/
abbrev lF (n : Nat) (sv pr pb : V) (by_ : Int) (cv : V) : List (Str × V) := [("many", .int n), ("scales", sv), ("rows", pr), ("base", pb), ("by", .int by_), ("costs", cv)]
section
variable {n : Nat} {sv pr pb cv v : V} {by_ i : Int}
theorem lk_many : (lF n sv pr pb by_ cv).lookup ("many" : Str) = some (.int n) := by kernel_rfl
theorem lk_scales : (lF n sv pr pb by_ cv).lookup ("scales" : Str) = some sv := by kernel_rfl
theorem lk_rows : (lF n sv pr pb by_ cv).lookup ("rows" : Str) = some pr := by kernel_rfl
theorem lk_base : (lF n sv pr pb by_ cv).lookup ("base" : Str) = some pb := by kernel_rfl
theorem lk_by : (lF n sv pr pb by_ cv).lookup ("by" : Str) = some (.int by_) := by kernel_rfl
theorem lk_costs : (lF n sv pr pb by_ cv).lookup ("costs" : Str) = some cv := by kernel_rfl
theorem lk_exchanged : (lF n sv pr pb by_ cv).lookup ("exchanged" : Str) = none := by kernel_rfl
theorem put_by : putF "by" (.int i) (lF n sv pr pb by_ cv) = lF n sv pr pb i cv := by kernel_rfl
theorem put_costs : putF "costs" v (lF n sv pr pb by_ cv) = lF n sv pr pb by_ v := by kernel_rfl
end
structure LR (K : PySem.W.Frag) (C : Addr) (F H : Hp) (a dx pr pb : Addr) (n m : Nat) (s : Nat → Int) (by_ : Int) (T : Nat → Nat → Int) (cs : Nat → Int) (b : Nat → Nat) : Prop where
  obj : ∃ sv cv, H a = some (.ins C dx (lF n sv (.ref pr) (.ref pb) by_ cv)) ∧ DD K F sv (zD m s) ∧ DD K F cv (zD (n + m + 1) cs)
  rows : ∃ rv, H pr = some (.lst rv) ∧ DDs K F rv (mapD m fun i => zD (n + m + 1) (T i))
  base : ∃ bv, H pb = some (.lst bv) ∧ DDs K F bv (mapD m fun i => .int (b i : Nat))
  fa : F a = none
  fr : F pr = none
  fb : F pb = none
  ne : pr ≠ pb
  sub : Same F H
abbrev LRep (K : PySem.W.Frag) (C : Addr) (F H : Hp) (a dx pr pb : Addr) (n m : Nat) (A : Mat) (s : Nat → Int) (b : Nat → Nat) : Prop := LR K C F H a dx pr pb n m s (byZ m A b) (tab m A b) (costZ m n A b) b
/-- what else may have changed -/
structure Fr3 (F H F' H' : Hp) (a pr pb : Addr) : Prop where
  kp : ∀ q o, H q = some o → q ≠ a → q ≠ pr → q ≠ pb → H' q = some o
  dm : ∀ q, H' q = none → H q = none
  ff : Same F F'
  nw : ∀ q, F q = none → H q ≠ none → F' q = none
section
variable {K : PySem.W.Frag} {C a dx pr pb : Addr} {F H F' H' F2 H2 : Hp} {n m : Nat} {s : Nat → Int} {by_ : Int} {T : Nat → Nat → Int} {cs : Nat → Int} {b : Nat → Nat}
theorem Fr3.refl : Fr3 F H F H a pr pb := ⟨fun _ _ h _ _ _ => h, fun _ h => h, Same.refl F, fun _ h _ => h⟩
theorem Fr3.trans (x : Fr3 F H F' H' a pr pb) (y : Fr3 F' H' F2 H2 a pr pb) : Fr3 F H F2 H2 a pr pb := ⟨fun q o h h1 h2 h3 => y.kp q o (x.kp q o h h1 h2 h3) h1 h2 h3, fun q h => x.dm q (y.dm q h), x.ff.trans y.ff, fun q h n => y.nw q (x.nw q h n) fun z => n (x.dm q z)⟩
theorem Fr3.gr (g : Gr F H F' H') : Fr3 F H F' H' a pr pb := ⟨fun q o h _ _ _ => g.hh q o h, fun q h => g.hh.free h, g.ff, fun q h n => g.nw q h n⟩
theorem Fr3.poke {q : Addr} {o u : HO} (hq : q = a ∨ q = pr ∨ q = pb) (h : H q = some u) : Fr3 F H F (upd H q o) a pr pb := by
  refine ⟨fun r x e h1 h2 h3 => ?_, fun r e => ?_, Same.refl F, fun _ h _ => h⟩
  · rw [upd_ne (fun z => by rcases hq with rfl | rfl | rfl <;> simp_all)]
    exact e
  · by_cases z : r = q
    · rw [z, upd_same] at e
      cases e
    · rw [upd_ne z] at e
      exact e
theorem same_poke {q : Addr} {o : HO} (h : Same F H) (hq : F q = none) : Same F (upd H q o) := fun r x e => by
  rw [upd_ne (fun z => by rw [z, hq] at e; cases e)]
  exact h r x e
theorem LR.ar (l : LR K C F H a dx pr pb n m s by_ T cs b) : a ≠ pr := by
  obtain ⟨sv, cv, h1, _⟩ := l.obj
  obtain ⟨rv, h2, _⟩ := l.rows
  exact ne_of h1 h2 (by intro z; cases z)
theorem LR.ab (l : LR K C F H a dx pr pb n m s by_ T cs b) : a ≠ pb := by
  obtain ⟨sv, cv, h1, _⟩ := l.obj
  obtain ⟨rv, h2, _⟩ := l.base
  exact ne_of h1 h2 (by intro z; cases z)
theorem LR.gr (l : LR K C F H a dx pr pb n m s by_ T cs b) (g : Gr F H F' H') : LR K C F' H' a dx pr pb n m s by_ T cs b := by
  obtain ⟨⟨sv, cv, h1, h2, h3⟩, ⟨rv, h4, h5⟩, ⟨bv, h6, h7⟩, fa, fr, fb, ne, sub⟩ := l
  have nn : ∀ {q : Addr} {o : HO}, H q = some o → H q ≠ none := fun e z => by rw [e] at z; cases z
  exact ⟨⟨sv, cv, g.hh _ _ h1, h2.mono g.ff, h3.mono g.ff⟩, ⟨rv, g.hh _ _ h4, h5.mono g.ff⟩, ⟨bv, g.hh _ _ h6, h7.mono g.ff⟩, g.nw _ fa (nn h1), g.nw _ fr (nn h4), g.nw _ fb (nn h6), ne, g.fh⟩
theorem LR.costs (l : LR K C F H a dx pr pb n m s by_ T cs b) {sv cv : V} (h : H a = some (.ins C dx (lF n sv (.ref pr) (.ref pb) by_ cv))) {v : V} {cs' : Nat → Int} (hv : DD K F v (zD (n + m + 1) cs')) : LR K C F (upd H a (.ins C dx (lF n sv (.ref pr) (.ref pb) by_ v))) a dx pr pb n m s by_ T cs' b := by
  have e1 := l.ar
  have e2 := l.ab
  obtain ⟨⟨sv', cv', h1, h2, h3⟩, ⟨rv, h4, h5⟩, ⟨bv, h6, h7⟩, fa, fr, fb, ne, sub⟩ := l
  have es : sv' = sv := by
    rw [h] at h1
    injection h1 with h1
    injection h1 with _ _ h1
    injection h1 with _ h1
    injection h1 with h1 _
    injection h1 with _ h1
    exact h1.symm
  subst es
  exact ⟨⟨_, v, upd_same, h2, hv⟩, ⟨rv, by rw [upd_ne e1.symm]; exact h4, h5⟩, ⟨bv, by rw [upd_ne e2.symm]; exact h6, h7⟩, fa, fr, fb, ne, same_poke sub fa⟩
theorem LR.byS (l : LR K C F H a dx pr pb n m s by_ T cs b) {sv cv : V} (h : H a = some (.ins C dx (lF n sv (.ref pr) (.ref pb) by_ cv))) (i : Int) : LR K C F (upd H a (.ins C dx (lF n sv (.ref pr) (.ref pb) i cv))) a dx pr pb n m s i T cs b := by
  have e1 := l.ar
  have e2 := l.ab
  obtain ⟨⟨sv', cv', h1, h2, h3⟩, ⟨rv, h4, h5⟩, ⟨bv, h6, h7⟩, fa, fr, fb, ne, sub⟩ := l
  rw [h] at h1
  injection h1 with h1
  injection h1 with _ _ h1
  injection h1 with _ h1
  injection h1 with es h1
  injection h1 with _ h1
  injection h1 with _ h1
  injection h1 with _ h1
  injection h1 with ec _
  injection es with _ es
  injection ec with _ ec
  subst es
  subst ec
  exact ⟨⟨_, _, upd_same, h2, h3⟩, ⟨rv, by rw [upd_ne e1.symm]; exact h4, h5⟩, ⟨bv, by rw [upd_ne e2.symm]; exact h6, h7⟩, fa, fr, fb, ne, same_poke sub fa⟩
theorem mapD_setF {n i : Nat} {g : Nat → PyData} {x : PyData} : (mapD n g).set i x = mapD n fun j => if j = i then x else g j := mapD_set n i g x
theorem LR.row (l : LR K C F H a dx pr pb n m s by_ T cs b) {rv : List V} (h : H pr = some (.lst rv)) {v : V} {x : Nat → Int} (i : Nat) (hv : DD K F v (zD (n + m + 1) x)) : LR K C F (upd H pr (.lst (rv.set i v))) a dx pr pb n m s by_ (fun k => if k = i then x else T k) cs b := by
  have e1 := l.ar
  obtain ⟨⟨sv, cv, h1, h2, h3⟩, ⟨rv', h4, h5⟩, ⟨bv, h6, h7⟩, fa, fr, fb, ne, sub⟩ := l
  rw [h] at h4
  injection h4 with h4
  injection h4 with h4
  subst h4
  refine ⟨⟨sv, cv, by rw [upd_ne e1]; exact h1, h2, h3⟩, ⟨_, upd_same, ?_⟩, ⟨bv, by rw [upd_ne (fun z => ne z.symm)]; exact h6, h7⟩, fa, fr, fb, ne, same_poke sub fr⟩
  have q := h5.set hv i
  rw [mapD_setF] at q
  have e : (fun j => if j = i then zD (n + m + 1) x else zD (n + m + 1) (T j)) = fun j => zD (n + m + 1) ((fun k => if k = i then x else T k) j) := by
    funext j
    dsimp only
    split <;> rfl
  rw [e] at q
  exact q
theorem LR.base_ (l : LR K C F H a dx pr pb n m s by_ T cs b) {bv : List V} (h : H pb = some (.lst bv)) (i c : Nat) : LR K C F (upd H pb (.lst (bv.set i (.int c)))) a dx pr pb n m s by_ T cs (upB b i c) := by
  have e1 := l.ab
  obtain ⟨⟨sv, cv, h1, h2, h3⟩, ⟨rv, h4, h5⟩, ⟨bv', h6, h7⟩, fa, fr, fb, ne, sub⟩ := l
  rw [h] at h6
  injection h6 with h6
  injection h6 with h6
  subst h6
  refine ⟨⟨sv, cv, by rw [upd_ne e1]; exact h1, h2, h3⟩, ⟨rv, by rw [upd_ne ne]; exact h4, h5⟩, ⟨_, upd_same, ?_⟩, fa, fr, fb, ne, same_poke sub fb⟩
  have q := h7.set (DD.int (c : Nat)) i
  rw [mapD_setF] at q
  have e : (fun j => if j = i then PyData.int (c : Nat) else PyData.int (b j : Nat)) = fun j => PyData.int ((upB b i c j : Nat) : Int) := by
    funext j
    unfold upB
    split <;> rfl
  rw [e] at q
  exact q
theorem LR.congr (l : LR K C F H a dx pr pb n m s by_ T cs b) {by2 : Int} {T2 : Nat → Nat → Int} {cs2 : Nat → Int} (e1 : by_ = by2) (e2 : ∀ i, i < m → ∀ j, j ≤ n + m → T i j = T2 i j) (e3 : ∀ j, j ≤ n + m → cs j = cs2 j) : LR K C F H a dx pr pb n m s by2 T2 cs2 b := by
  subst e1
  obtain ⟨⟨sv, cv, h1, h2, h3⟩, ⟨rv, h4, h5⟩, ⟨bv, h6, h7⟩, fa, fr, fb, ne, sub⟩ := l
  have c1 : zL (n + m + 1) cs = zL (n + m + 1) cs2 := mapD_congr fun j hj => by rw [e3 j (by omega)]
  have c2 : (mapD m fun i => zD (n + m + 1) (T i)) = mapD m fun i => zD (n + m + 1) (T2 i) := mapD_congr fun i hi => congrArg PyData.list (mapD_congr fun j hj => by rw [e2 i hi j (by omega)])
  refine ⟨⟨sv, cv, h1, h2, ?_⟩, ⟨rv, h4, ?_⟩, ⟨bv, h6, h7⟩, fa, fr, fb, ne, sub⟩
  · show DD K F cv (.list (zL (n + m + 1) cs2))
    rw [← c1]
    exact h3
  · rw [← c2]
    exact h5
end
/-! ### exchange -/
abbrev stX : Stmt := inClass (top 28) 4
def spX (K : PySem.W.Frag) (C : Addr) : Sp := fun vs H Q _ => ∃ (F : Hp) (a dx pr pb : Addr) (n m : Nat) (A : Mat) (s : Nat → Int) (b : Nat → Nat) (r c : Nat), vs = [.ref a, .int r, .int c] ∧ LRep K C F H a dx pr pb n m A s b ∧ Inv0 m n A b ∧ SzL n m A s b ∧ r < m ∧ c < n ∧
  ∀ F' H', LRep K C F' H' a dx pr pb n m A s (upB b r c) → Fr3 F H F' H' a pr pb → Q .non H'
theorem sc_exchange : FnScope ["self", "number", "column", "by", "other"] ["self", "number", "column"] (defScope stX) := ⟨rfl, rfl, rfl, by decide +kernel, rfl, by decide +kernel, by decide +kernel⟩
theorem view_nil {K : PySem.W.Frag} {F : Hp} {fvs : List (Str × V)} : ∀ x d, ([] : List (Str × PyData)).lookup x = some d → ∃ v, fvs.lookup x = some v ∧ DD K F v d := fun _ _ h => nomatch h
theorem view_cons {K : PySem.W.Frag} {F : Hp} {fvs : List (Str × V)} {fs : List (Str × PyData)} {k : Str} {d0 : PyData} {v : V} (h : fvs.lookup k = some v) (dd : DD K F v d0) (hs : ∀ x d, fs.lookup x = some d → ∃ v, fvs.lookup x = some v ∧ DD K F v d) : ∀ x d, ((k, d0) :: fs).lookup x = some d → ∃ v, fvs.lookup x = some v ∧ DD K F v d := fun x d e => by
  rw [List.lookup_cons] at e
  cases hx : (x == k) with
  | true =>
    rw [hx] at e
    have e := Option.some.inj e
    subst e
    have ek := eq_of_beq hx
    subst ek
    exact ⟨v, h, dd⟩
  | false =>
    rw [hx] at e
    exact hs x d e
theorem fdiv_exact {a b c : Int} (h : a ≠ 0) (e : a * b = c) : c.fdiv a = b := by
  rw [← e]
  exact Int.mul_fdiv_cancel_left _ h
section
variable {P : Program} {w : World} {K : PySem.W.Frag} {mg : Str → Option Value} {base : Heap} {f CL : Addr} {fd : FuncData}
theorem ok_exchange (F : FunD K "exchange" "Lines.exchange" (defArgs stX) (defBody stX) (defScope stX) [] [] f fd) (T : LT K mg CL) (B : Bt mg) (ME : C8.Met P w K mg base 1 CL "exchanged" (spO K CL RExchanged) []) : FnOk P w K mg base CX0 2 f fd ["self", "number", "column"] (spX K CL) := by
  have nd := sc_exchange.nd
  refine F.ok sc_exchange (fun vs H Q E h => ?_) (fun cdv A0 outer s0 H vs Q E hr h => ?_)
  · obtain ⟨F', a, dx, pr, pb, n, m, A, s, b, r, c, rfl, _⟩ := h
    rfl
  obtain ⟨Fz, a, dx, pr, pb, n, m, A, s, b, r, c, rfl, L, I, Z, hr1, hc, hQ⟩ := h
  refine ⟨_, PSs.nox (pss_cons (ps_set (i := 3) nd rfl (Or.inl rfl) (pe_ix ix_list (pe_fld (pv 0) rfl) (pv 1) (fun _ _ => rfl)))
    (pss_cons (ps_fld (pv 0) (C8.pe_mt ME hr (by decide) (pv 0) (pa_cons (pe_fld (pv 0) rfl) (pa_cons (pv 2) (pa_cons (pv 3) pa_nil)))) rfl)
    (pss_cons (ps_for PassesOwn.never rfl (pi_range1 rfl B.range (pa_cons (pe_callB call_len_seq (by rfl) B.len PySem.boot_len (pa_cons (pe_fld (pv 0) rfl) pa_nil)) pa_nil)) (pg_name (i := 4) nd rfl (Or.inl rfl))
      (pss_one (ps_if (pt_cmpR op_ne (pv 4) (pv 1) (nomark _)) (pss_one (ps_asg (C8.pe_mt ME hr (by decide) (pv 0) (pa_cons (pe_ix ix_list (pe_fld (pv 0) rfl) (pv 4) (fun _ _ => rfl)) (pa_cons (pv 2) (pa_cons (pv 3) pa_nil)))) (pg_sub (pe_fld (pv 0) rfl) (pv 4) set_list))) pss_nil)))
    (pss_cons (ps_fld (pv 0) (pe_ix ix_list (pv 3) (pv 2) (fun _ _ => rfl)) rfl)
    (pss_one (ps_asg (pv 2) (pg_sub (pe_fld (pv 0) rfl) (pv 1) set_list))))))), ?_⟩
  have hby : byZ m A b ≠ 0 := by have := I.pos; omega
  obtain ⟨m5, n7⟩ := Z.mn
  obtain ⟨sv, cv, h1, hsv, hcv⟩ := L.obj
  obtain ⟨rv, h4, h5⟩ := L.rows
  obtain ⟨vr, hvr, dvr⟩ := atI_DDs h5 (mapD_ix hr1)
  refine ⟨_, rfl, a, CL, dx, _, _, rfl, h1, T.cl, T.n_rows, lk_rows, _, rfl, pr, rv, r, vr, rfl, rfl, SqL.of h4, hvr, ?_⟩
  refine ⟨_, rfl, a, dx, _, rfl, h1, lk_exchanged, _, rfl, a, CL, dx, _, _, rfl, h1, T.cl, T.n_costs, lk_costs, _, rfl, _, rfl, ?_⟩
  refine ⟨Fz, a, dx, _, [(("by" : Str), .int (byZ m A b))], _, [zD (n + m + 1) (costZ m n A b), .int (c : Nat), zD (n + m + 1) (tab m A b r)], _, rfl, L.sub, h1, view_cons lk_by (.int _) view_nil, .cons hcv (.cons (.int _) (.cons dvr .nil)),
    ⟨n + m + 1, c, byZ m A b, costZ m n A b, tab m A b r, rfl, rfl, by omega, by omega, Z.by_, hby, fun j hj => ⟨(Z.c j (by omega)).1, Z.t r j hr1 (by omega)⟩, rfl⟩, fun d v F1 H1 hd g dv => ?_⟩
  have hd : zD (n + m + 1) (fun j => (costZ m n A b j * tab m A b r c - costZ m n A b c * tab m A b r j).fdiv (byZ m A b)) = d := hd
  subst hd
  have g1 := L.gr g
  have o1 := g.hh _ _ h1
  refine ⟨_, rfl, a, CL, dx, _, rfl, o1, T.cl, T.n_costs, by show 6 < 1000; decide, ?_⟩
  rw [put_costs]
  have g2 := (g1.costs o1 dv).congr rfl (fun i _ j _ => rfl) (cs2 := costZ m n A (upB b r c)) fun j hj => fdiv_exact hby (cost_up I hr1 hc j)
  have fr2 : Fr3 Fz H F1 (upd H1 a (.ins CL dx (lF n sv (.ref pr) (.ref pb) (byZ m A b) v))) a pr pb := (Fr3.gr g).trans (Fr3.poke (.inl rfl) o1)
  have dvr1 := dvr.mono g.ff
  obtain ⟨sv2, cv2, p1, _, _⟩ := g2.obj
  obtain ⟨rv2, p4, p5⟩ := g2.rows
  have rl : rv2.length = m := by rw [p5.len, mapD_len]
  refine ⟨_, rfl, a, CL, dx, _, _, rfl, p1, T.cl, T.n_rows, lk_rows, pr, rv2, rfl, .inl (SqL.of p4), _, rfl, by omega, by omega, ?_⟩
  rw [rl]
  refine for_range (lo := 0) (n := m) (fun i σ' H' => ∃ F' o, σ' = [some (.ref a), some (.int r), some (.int c), some vr, o] ∧ LR K CL F' H' a dx pr pb n m s (byZ m A b) (fun k => if k < i ∧ k ≠ r then tab m A (upB b r c) k else tab m A b k) (costZ m n A (upB b r c)) b ∧ Fr3 Fz H F' H' a pr pb ∧ DD K F' vr (zD (n + m + 1) (tab m A b r))) ⟨F1, none, rfl, g2.congr rfl (fun i _ j _ => by rw [if_neg (fun z => absurd z.1 (Nat.not_lt_zero _))]) fun j _ => rfl, fr2, dvr1⟩ ?_ ?_
  · rintro i σ' H' hi ⟨F', o, rfl, L', fr', dvr'⟩
    refine ⟨_, rfl, _, rfl, rfl, ?_⟩
    have ne : (!decide (V.int (0 + (i : Int)) = V.int (r : Int))) = !decide (i = r) := by
      congr 1
      exact decide_eq_decide.mpr ⟨fun z => by injection z with z; omega, fun z => by rw [z, Int.zero_add]⟩
    rw [ne]
    refine ⟨_, rfl, ?_⟩
    by_cases hir : i = r
    · rw [decide_eq_true hir]
      refine iteF ?_
      refine ⟨F', _, rfl, L'.congr rfl (fun k hk j _ => ?_) fun j _ => rfl, fr', dvr'⟩
      by_cases q : k < i ∧ k ≠ r
      · rw [if_pos q, if_pos ⟨by omega, q.2⟩]
      · rw [if_neg q, if_neg (by omega)]
    · rw [decide_eq_false hir]
      refine iteT ?_
      obtain ⟨sv3, cv3, q1, _, _⟩ := L'.obj
      obtain ⟨rv3, q4, q5⟩ := L'.rows
      obtain ⟨vi, hvi, dvi⟩ := atI_DDs q5 (mapD_ix hi)
      rw [if_neg (by omega)] at dvi
      have hvi' : atI rv3 (0 + (i : Int)) = some vi := by rw [Int.zero_add]; exact hvi
      refine ⟨_, rfl, a, dx, _, rfl, q1, lk_exchanged, _, rfl, a, CL, dx, _, _, rfl, q1, T.cl, T.n_rows, lk_rows, _, rfl, pr, rv3, _, vi, rfl, rfl, SqL.of q4, hvi', _, rfl, _, rfl, ?_⟩
      refine ⟨F', a, dx, _, [(("by" : Str), .int (byZ m A b))], _, [zD (n + m + 1) (tab m A b i), .int (c : Nat), zD (n + m + 1) (tab m A b r)], _, rfl, L'.sub, q1, view_cons lk_by (.int _) view_nil, .cons dvi (.cons (.int _) (.cons dvr' .nil)),
        ⟨n + m + 1, c, byZ m A b, tab m A b i, tab m A b r, rfl, rfl, by omega, by omega, Z.by_, hby, fun j hj => ⟨Z.t i j hi (by omega), Z.t r j hr1 (by omega)⟩, rfl⟩, fun d v F3 H3 hd g3 dv3 => ?_⟩
      have hd : zD (n + m + 1) (fun j => (tab m A b i j * tab m A b r c - tab m A b i c * tab m A b r j).fdiv (byZ m A b)) = d := hd
      subst hd
      have L3 := L'.gr g3
      have w4 := g3.hh _ _ q4
      refine ⟨_, rfl, a, CL, dx, _, _, rfl, g3.hh _ _ q1, T.cl, T.n_rows, lk_rows, _, rfl, pr, rv3, _, i, rfl, rfl, w4, ?_, ?_⟩
      · rw [Int.zero_add, show rv3.length = m by rw [q5.len, mapD_len]]
        exact ixN_nat hi
      · refine ⟨F3, _, rfl, (L3.row w4 i dv3).congr rfl (fun k hk j hj => ?_) fun j _ => rfl, fr'.trans ((Fr3.gr g3).trans (Fr3.poke (.inr (.inl rfl)) w4)), dvr'.mono g3.ff⟩
        by_cases qk : k = i
        · rw [if_pos qk, if_pos ⟨by omega, by omega⟩, qk]
          exact fdiv_exact hby (tab_up I hr1 hi hir j)
        · rw [if_neg qk]
          by_cases q : k < i ∧ k ≠ r
          · rw [if_pos q, if_pos ⟨by omega, q.2⟩]
          · rw [if_neg q, if_neg (by omega)]
  · rintro σ' H' ⟨F', o, rfl, L', fr', dvr'⟩
    have L2 := L'.congr rfl (T2 := tab m A (upB b r c)) (fun k hk j _ => by
      by_cases q : k = r
      · rw [if_neg (by omega), q, tab_up_r]
      · rw [if_pos ⟨hk, q⟩]) fun j _ => rfl
    obtain ⟨sv3, cv3, q1, _, _⟩ := L2.obj
    obtain ⟨qa, ws, rfl, fq, hws⟩ := dvr'.list_v
    obtain ⟨vc, hvc, dvc⟩ := atI_DDs hws (mapD_ix (show c < n + m + 1 by omega))
    have evc := dvc.int_v
    subst evc
    refine ⟨_, rfl, _, rfl, qa, ws, _, _, rfl, rfl, SqL.of (L2.sub _ _ fq), hvc, _, rfl, a, CL, dx, _, rfl, q1, T.cl, T.n_by, by show 6 < 1000; decide, ?_⟩
    rw [put_by]
    have L4 := L2.byS q1 (tab m A b r c)
    obtain ⟨sv4, cv4, t1, _, _⟩ := L4.obj
    obtain ⟨bv, t6, t7⟩ := L4.base
    refine ⟨_, rfl, _, rfl, a, CL, dx, _, _, rfl, t1, T.cl, T.n_base, lk_base, _, rfl, pb, bv, _, r, rfl, rfl, t6, ?_, ?_⟩
    · rw [show bv.length = m by rw [t7.len, mapD_len]]
      exact ixN_nat hr1
    · refine hQ F' _ ((L4.base_ t6 r c).congr (by_up r c).symm (fun _ _ _ _ => rfl) fun _ _ => rfl) (fr'.trans ((Fr3.poke (.inl rfl) q1).trans (Fr3.poke (.inr (.inr rfl)) t6)))
end
end Tk
end
section
set_option Elab.async false
set_option linter.all false
set_option maxRecDepth 100000
set_option maxHeartbeats 4000000
set_option exponentiation.threshold 10000
namespace Tk
open PySem PySem.Spec PyProof.Rows L2
/-! ### the layer, used inside a walk by heaps -/
def plainS : Slot → Bool
  | .no => true
  | .fz _ => true
  | .rw _ => true
  | _ => false
def plainA (A : Sto) : Prop := ∀ (i : Nat) (s : Slot), A[i]? = some s → plainS s = true
theorem plainA_cons {s : Slot} {A : Sto} (h : plainS s = true) (hs : plainA A) : plainA (s :: A) := fun i t e => by
  cases i with
  | zero => rw [← Option.some.inj e]; exact h
  | succ i => exact hs i t e
theorem plainA_nil : plainA [] := fun i s e => by simp at e
section
variable {K : PySem.W.Frag} {M : Addr → Prop} {F0 H0 F H F' H' : Hp} {A : Sto} {σ : L2.St}
theorem plain_mut (pl : plainA A) (p : Addr) : ¬ MutA A σ p := fun ⟨i, o, ds, e, _⟩ => by
  have := pl i _ e
  cases this
theorem rebase (rp : Rp K M F0 H0 A σ F H) (pl : plainA A) : Rp K (fun _ => False) F H A σ F H :=
  ⟨fun _ _ h _ => h, fun _ h => h, Same.refl F, rp.sub, fun _ h _ => h, rp.len, fun i s e => by
    have q := rp.slot i s e
    have p := pl i s e
    cases s with
    | no => trivial
    | fz d => exact q
    | rw v => exact q
    | sc xs => exact (nomatch p)
    | ex C => exact (nomatch p)
    | mu o ds => cases p
    | ob C fs => exact (nomatch p), fun i j p o u ds es e _ _ _ => by
    have := pl i _ e
    cases this⟩
theorem rp_up (rp : Rp K (fun _ => False) F H A σ F H) (pl : plainA A) (s : Same F F') (t : Same F' H') : Rp K (fun _ => False) F' H' A σ F' H' :=
  ⟨fun _ _ h _ => h, fun _ h => h, Same.refl F', t, fun _ h _ => h, rp.len, fun i sl e => by
    have q := rp.slot i sl e
    have p := pl i sl e
    cases sl with
    | no => trivial
    | fz d =>
      obtain ⟨v, h1, h2⟩ := q
      exact ⟨v, h1, h2.mono s⟩
    | rw v => exact q
    | sc xs => exact (nomatch p)
    | ex C => exact (nomatch p)
    | mu o ds => cases p
    | ob C fs => exact (nomatch p), fun i j p o u ds es e _ _ _ => by
    have := pl i _ e
    cases this⟩
theorem rp_ob {C a dx : Addr} {fvs : List (Str × V)} {fs : List (Str × PyData)} {B : Sto} (rp : Rp K (fun _ => False) F H (.rw (.ref a) :: B) σ F H) (h : H a = some (.ins C dx fvs)) (hv : ∀ x d, fs.lookup x = some d → ∃ v, fvs.lookup x = some v ∧ DD K F v d) : Rp K (fun _ => False) F H (.ob C fs :: B) σ F H :=
  ⟨rp.keep, rp.dom, rp.fz, rp.sub, rp.new, rp.len, fun i s e => by
    cases i with
    | zero =>
      have q := rp.slot 0 _ rfl
      have e := Option.some.inj e
      subst e
      exact ⟨a, dx, fvs, q, h, id, hv⟩
    | succ i => exact rp.slot (i + 1) s e, fun i j p o u ds es e1 e2 e3 e4 => by
    cases i with
    | zero => cases e1
    | succ i =>
      cases j with
      | zero => cases e2
      | succ j => exact rp.inj (i + 1) (j + 1) p o u ds es e1 e2 e3 e4⟩
theorem ob_mut {C : Addr} {fs : List (Str × PyData)} {B : Sto} (pl : plainA B) (p : Addr) : ¬ MutA (.ob C fs :: B) σ p := fun ⟨i, o, ds, e, _⟩ => by
  cases i with
  | zero => cases e
  | succ i =>
    have := pl i _ e
    cases this
theorem se_now {t : TE} {a : AE} (h : SoE K t a) (rp : Rp K (fun _ => False) F H A σ F H) (nm : ∀ p, ¬ MutA A σ p) {Qd : PyData → Prop} {Q : VK} (hr : a A fun d _ => Qd d) (k : ∀ d v F1 H1, Qd d → Gr F H F1 H1 → DD K F1 v d → Q v H1) : t σ H Q :=
  h _ F H A σ F H _ Q rp hr fun d v A1 F1 H1 q ev dd => k d v F1 H1 q ⟨fun a o z => ev.kp a o z (nm a), ev.ff, ev.rp.sub, fun a z n => ev.nw a z n (nm a)⟩ dd
theorem sn_now {t : TE} {a : AL} (h : SoN K t a) (rp : Rp K (fun _ => False) F H A σ F H) (nm : ∀ p, ¬ MutA A σ p) {Qd : List PyData → Prop} {Q : VK} (hr : a A fun d _ => Qd d) (k : ∀ ds p vs F1 H1, Qd ds → Gr F H F1 H1 → H p = none → F1 p = none → H1 p = some (.lst vs) → DDs K F1 vs ds → Q (.ref p) H1) : t σ H Q :=
  h _ F H A σ F H _ Q rp hr fun ds p vs A1 F1 H1 q ev h0 f0 h1 dd => k ds p vs F1 H1 q ⟨fun a o z => ev.kp a o z (nm a), ev.ff, ev.rp.sub, fun a z n => ev.nw a z n (nm a)⟩ h0 f0 h1 dd
theorem ss_now {t : TS} {a : AS} (h : SoS K t a) (rp : Rp K (fun _ => False) F H A σ F H) {N : Sto → Prop} {E : Ends} (hr : a { nx := N, rt := fun _ _ => False } A) (hN : ∀ B, N B → plainA B) (k : ∀ B σ' F1 H1, N B → Gr F H F1 H1 → Rp K (fun _ => False) F1 H1 B σ' F1 H1 → E.nx σ' H1) : t E σ H :=
  h _ F H A σ F H _ E rp hr ⟨fun B σ' F1 H1 hn r s => k B σ' F1 H1 hn ⟨fun a o z => r.keep a o z id, s, r.sub, r.new⟩ (rebase r (hN B hn)), fun _ _ _ _ _ _ z _ _ _ => z.elim, fun _ _ _ _ z _ _ => z.elim, fun _ _ _ _ z _ _ => z.elim⟩
end
theorem go_seq {t u : TS} {E : Ends} {σ : L2.St} {H : Hp} (h : t { E with nx := u E } σ H) : tSeq t u E σ H := h
theorem go_fld {K : PySem.W.Frag} {ta tv : TE} {f : Str} {D : Ends} {σ : L2.St} {H : Hp} (h : tv σ H fun y H1 => ta σ H1 fun x H2 => ∃ a C dx fs, x = .ref a ∧ H2 a = some (.ins C dx fs) ∧ Cls K C ∧ NoAttr K C f ∧ fs.length < 1000 ∧ D.nx σ (upd H2 a (.ins C dx (putF f y fs)))) : sFld K ta tv f D σ H := h
theorem go_drop {t : TE} {E : Ends} {σ : L2.St} {H : Hp} (h : t σ H fun _ H' => E.nx σ H') : tDrop t E σ H := h
theorem go_cons {ta : TE} {tr : TA} {σ : L2.St} {H : Hp} {Q : List V → Hp → Prop} (h : ta σ H fun x H1 => tr σ H1 fun xs H2 => Q (x :: xs) H2) : tCons ta tr σ H Q := h
theorem go_var {i : Nat} {σ : L2.St} {H : Hp} {v : V} {Q : VK} (e : σ[i]? = some (some v)) (h : Q v H) : tVar i σ H Q := ⟨v, e, h⟩
def asgVal : Stmt → Expr
  | .Assign _ e _ => e
  | .Expr (.Call _ (e :: _) _ _) _ => e
  | _ => .Constant .none 0 ⟨0, 0, 0, 0⟩
def forBody : Stmt → List Stmt
  | .For _ _ b _ _ => b
  | _ => []
def sAt (l : List Stmt) (i : Nat) : Stmt := l.getD i (.Pass ⟨0, 0, 0, 0⟩)
/-! ### __init__ -/
abbrev stI : Stmt := inClass (top 28) 0
abbrev nI : List Str := ["self", "columns", "goal", "place", "row", "scale", "whole", "column", "one", "other"]
theorem sc_init : FnScope nI ["self", "columns", "goal"] (defScope stI) := ⟨rfl, rfl, rfl, by decide +kernel, rfl, by decide +kernel, by decide +kernel⟩
abbrev XI (P : Program) (w : World) (K : PySem.W.Frag) (mg : Str → Option Value) (base : Heap) (f : Addr) (cdv : Value) (A0 : Around) (outer : List Env) (s0 : Shared) (H : Hp) (E : XK) : Cx := (cxOf CX0 P w K mg base nI "Lines.__init__" (defScope stI) f cdv A0 outer s0 H E).nox
/-! the matrix -/
def wholeZ (x : Rat) (s : Int) : Int := x.num * s.fdiv (x.den : Int)
theorem wholeZ_eq {x : Rat} {s : Int} (h : (x.den : Int) ∣ s) : ((wholeZ x s : Int) : Rat) = x * (s : Rat) := by
  obtain ⟨k, rfl⟩ := h
  have d0 : (x.den : Int) ≠ 0 := by have := x.den_pos; omega
  unfold wholeZ
  rw [Int.mul_fdiv_cancel_left _ d0, Rat.intCast_mul, Rat.intCast_mul, Rat.intCast_natCast]
  have e : (x.num : Rat) = x * (x.den : Rat) := by
    conv => rhs; lhs; rw [← Rat.num_divInt_den x]
    rw [Rat.divInt_eq_div, natc, Rat.div_mul_cancel (by have := natRp x.den_pos; grind)]
  rw [e]
  grind
def matB (n m : Nat) (cs : Nat → Nat → Rat) (g : Nat → Rat) (s : Nat → Int) : Mat := fun j p => if j < n then wholeZ (cs j p) (s p) else if j < n + m then unitC (j - n) p else wholeZ (g p) (s p)
theorem matB_congr {n m : Nat} {cs : Nat → Nat → Rat} {g : Nat → Rat} {s t : Nat → Int} {p : Nat} (j : Nat) (h : s p = t p) : matB n m cs g s j p = matB n m cs g t j p := by
  unfold matB
  rw [h]
structure ScOk (n : Nat) (cs : Nat → Nat → Rat) (g : Nat → Rat) (D p : Nat) (t : Int) : Prop where
  nz : t ≠ 0
  dv : t.natAbs ∣ D
  col : ∀ j, j < n → ((cs j p).den : Int) ∣ t
  gl : ((g p).den : Int) ∣ t
  neg : g p < 0 → t < 0
  pos : ¬ g p < 0 → 0 < t
theorem mapD_snoc (n : Nat) (g : Nat → PyData) : mapD (n + 1) g = mapD n g ++ [g n] := by
  unfold mapD
  rw [List.range_succ, List.map_append]
  rfl
theorem mapD_app {n m : Nat} {f h : Nat → PyData} : mapD n f ++ mapD m h = mapD (n + m) fun j => if j < n then f j else h (j - n) := by
  induction m with
  | zero =>
    show mapD n f ++ [] = _
    rw [List.append_nil]
    exact mapD_congr fun j hj => by rw [if_pos hj]
  | succ m ih =>
    rw [mapD_snoc, ← List.append_assoc, ih, ← Nat.add_assoc, mapD_snoc]
    congr 2
    rw [if_neg (by omega), Nat.add_sub_cancel_left]
theorem cut_hi {n : Nat} {g : Nat → PyData} : cutD (mapD (n + 1) g) none (some (-1)) = mapD n g := by
  unfold cutD HT.sIx
  rw [mapD_len]
  dsimp only
  rw [if_pos (by decide), List.drop_zero, show (-1 + ((n + 1 : Nat) : Int)).toNat - 0 = n by omega, mapD_snoc, List.take_append_of_le_length (by rw [mapD_len]; omega)]
  exact List.take_of_length_le (by rw [mapD_len]; exact Nat.le_refl n)
theorem cut_lo {n : Nat} {g : Nat → PyData} : cutD (mapD (n + 1) g) (some (-1)) none = [g n] := by
  unfold cutD HT.sIx
  rw [mapD_len]
  dsimp only
  rw [if_pos (by decide), show (-1 + ((n + 1 : Nat) : Int)).toNat = n by omega, show n + 1 - n = 1 by omega, mapD_snoc, List.drop_append_of_le_length (by rw [mapD_len]; omega)]
  rw [List.drop_eq_nil_of_le (by rw [mapD_len]; exact Nat.le_refl n)]
  rfl
theorem sum_map (x : Nat → Int) : ∀ m, ((List.range m).map x).sum = sumZ x m
  | 0 => rfl
  | m + 1 => by
    rw [List.range_succ, List.map_append, List.sum_append, sum_map x m]
    show _ + (x m + 0) = sumZ x m + x m
    omega
theorem mapD_ints (m : Nat) (x : Nat → Int) : zL m x = ((List.range m).map x).map PyData.int := by
  show (List.range m).map _ = _
  rw [List.map_map]
  rfl
theorem put_by0 {n : Nat} {sv pr pb : V} : putF "by" (.int 1) (putF "base" pb ([("many", .int (n : Nat)), ("scales", sv), ("rows", pr)] : List (Str × V))) = ([("many", .int (n : Nat)), ("scales", sv), ("rows", pr), ("base", pb), ("by", .int 1)] : List (Str × V)) := by kernel_rfl
theorem put_costs0 {n : Nat} {sv pr pb v : V} : putF "costs" v ([("many", .int (n : Nat)), ("scales", sv), ("rows", pr), ("base", pb), ("by", .int 1)] : List (Str × V)) = lF n sv pr pb 1 v := by kernel_rfl
theorem rep_flat (x : PyData) : ∀ m, (List.replicate m [x]).flatten = mapD m fun _ => x
  | 0 => rfl
  | m + 1 => by
    rw [List.replicate_succ', List.flatten_append, rep_flat x m, mapD_snoc]
    rfl
theorem cost0 {n m : Nat} {A : Mat} (S : Spare m n A) : (∀ j, j < n → costZ m n A (fun i => n + i) j = 0 - sumZ (fun i => A j i) m) ∧ (∀ q, q < m → costZ m n A (fun i => n + i) (n + q) = 0) ∧ costZ m n A (fun i => n + i) (n + m) = 0 - sumZ (fun i => A (n + m) i) m := by
  refine ⟨fun j hj => ?_, fun q hq => ?_, ?_⟩
  · rw [first_cost S, show kap m n j = 0 from if_neg (by omega)]
  · rw [first_cost S, show kap m n (n + q) = 1 from if_pos ⟨by omega, by omega⟩, sumZ_one hq fun k hk h => ?_, S q hq q hq]
    · unfold unitC
      rw [if_pos rfl]
      rfl
    · rw [S q hq k hk]
      unfold unitC
      rw [if_neg h]
  · rw [first_cost S, show kap m n (n + m) = 0 from if_neg (by omega)]
/-! frames -/
structure Fr1 (F H F' H' : Hp) (a : Addr) : Prop where
  kp : ∀ q o, H q = some o → q ≠ a → H' q = some o
  dm : ∀ q, H' q = none → H q = none
  ff : Same F F'
  nw : ∀ q, F q = none → H q ≠ none → F' q = none
section
variable {F H F' H' F2 H2 : Hp} {a : Addr}
theorem Fr1.refl : Fr1 F H F H a := ⟨fun _ _ h _ => h, fun _ h => h, Same.refl F, fun _ h _ => h⟩
theorem Fr1.gr (x : Fr1 F H F' H' a) (g : Gr F' H' F2 H2) : Fr1 F H F2 H2 a := ⟨fun q o h n => g.hh _ _ (x.kp q o h n), fun q h => x.dm q (g.hh.free h), x.ff.trans g.ff, fun q h n => g.nw q (x.nw q h n) fun z => n (x.dm q z)⟩
theorem Fr1.poke {q : Addr} {o u : HO} (x : Fr1 F H F' H' a) (hq : q = a ∨ H q = none) (h : H' q = some u) : Fr1 F H F' (upd H' q o) a := by
  refine ⟨fun r y e n => ?_, fun r e => ?_, x.ff, x.nw⟩
  · rw [upd_ne (fun z => by
      rcases hq with rfl | hq
      · exact n z
      · rw [z, hq] at e; cases e)]
    exact x.kp r y e n
  · by_cases z : r = q
    · rw [z, upd_same] at e
      cases e
    · rw [upd_ne z] at e
      exact x.dm r e
end
theorem Fr1.lay {F H F' H' : Hp} {a q : Addr} {o : HO} (x : Fr1 F H F' H' a) (h : H' q = none) : Fr1 F H F' (upd H' q o) a := by
  refine ⟨fun r y e n => ?_, fun r e => ?_, x.ff, x.nw⟩
  · rw [upd_ne (fun z => by
      have h0 := x.dm q h
      rw [z, h0] at e
      cases e)]
    exact x.kp r y e n
  · by_cases z : r = q
    · rw [z]
      exact x.dm q h
    · rw [upd_ne z] at e
      exact x.dm r e
/-- slots by their values -/
inductive Zs (K : PySem.W.Frag) (F : Hp) : Sto → L2.St → Prop
  | nil : Zs K F [] []
  | no {o : Option V} {A : Sto} {σ : L2.St} (h : Zs K F A σ) : Zs K F (.no :: A) (o :: σ)
  | fz {v : V} {d : PyData} {A : Sto} {σ : L2.St} (q : DD K F v d) (h : Zs K F A σ) : Zs K F (.fz d :: A) (some v :: σ)
  | rw {v : V} {A : Sto} {σ : L2.St} (h : Zs K F A σ) : Zs K F (.rw v :: A) (some v :: σ)
theorem Zs.len {K : PySem.W.Frag} {F : Hp} : ∀ {A : Sto} {σ : L2.St}, Zs K F A σ → A.length = σ.length
  | _, _, .nil => rfl
  | _, _, .no h => congrArg Nat.succ h.len
  | _, _, .fz _ h => congrArg Nat.succ h.len
  | _, _, .rw h => congrArg Nat.succ h.len
theorem Zs.slot {K : PySem.W.Frag} {F H : Hp} : ∀ {A : Sto} {σ : L2.St}, Zs K F A σ → ∀ (i : Nat) (s : Slot), A[i]? = some s → plainS s = true ∧ SlotOk K (fun _ => False) H F H (σ[i]?) s
  | _, _, .nil, i, s, e => by simp at e
  | _, _, .no h, 0, s, e => by rw [← Option.some.inj e]; exact ⟨rfl, trivial⟩
  | _, _, .fz (v := v) q h, 0, s, e => by rw [← Option.some.inj e]; exact ⟨rfl, v, rfl, q⟩
  | _, _, .rw h, 0, s, e => by rw [← Option.some.inj e]; exact ⟨rfl, rfl⟩
  | _, _, .no h, i + 1, s, e => h.slot i s e
  | _, _, .fz _ h, i + 1, s, e => h.slot i s e
  | _, _, .rw h, i + 1, s, e => h.slot i s e
theorem Zs.plain {K : PySem.W.Frag} {F : Hp} {A : Sto} {σ : L2.St} (h : Zs K F A σ) : plainA A := fun i s e => (h.slot (H := F) i s e).1
theorem Zs.rp {K : PySem.W.Frag} {F H : Hp} {A : Sto} {σ : L2.St} (h : Zs K F A σ) (e : Same F H) : Rp K (fun _ => False) F H A σ F H :=
  ⟨fun _ _ h _ => h, fun _ h => h, Same.refl F, e, fun _ h _ => h, h.len, fun i s q => (h.slot i s q).2, fun i j p o u ds es q _ _ _ => by
    have := h.plain i _ q
    cases this⟩
structure LI (K : PySem.W.Frag) (C : Addr) (F H : Hp) (a dx ps pr : Addr) (n m : Nat) (s : Nat → Int) (R : Nat → Nat → Int) (i : Nat) : Prop where
  obj : H a = some (.ins C dx [("many", .int n), ("scales", .ref ps), ("rows", .ref pr)])
  sc : ∃ sv, H ps = some (.lst sv) ∧ DDs K F sv (zL i s)
  rows : ∃ rv, H pr = some (.lst rv) ∧ DDs K F rv (mapD i fun p => zD (n + m + 1) (R p))
  fa : F a = none
  fs : F ps = none
  fr : F pr = none
  ne : ps ≠ pr
  sub : Same F H
section
variable {K : PySem.W.Frag} {C a dx ps pr : Addr} {F H F' H' : Hp} {n m i : Nat} {s : Nat → Int} {R : Nat → Nat → Int}
theorem LI.gr (l : LI K C F H a dx ps pr n m s R i) (g : Gr F H F' H') : LI K C F' H' a dx ps pr n m s R i := by
  obtain ⟨h1, ⟨sv, h2, h3⟩, ⟨rv, h4, h5⟩, fa, fs, fr, ne, sub⟩ := l
  have nn : ∀ {q : Addr} {o : HO}, H q = some o → H q ≠ none := fun e z => by rw [e] at z; cases z
  exact ⟨g.hh _ _ h1, ⟨sv, g.hh _ _ h2, h3.mono g.ff⟩, ⟨rv, g.hh _ _ h4, h5.mono g.ff⟩, g.nw _ fa (nn h1), g.nw _ fs (nn h2), g.nw _ fr (nn h4), ne, g.fh⟩
end
section
variable {P : Program} {w : World} {K : PySem.W.Frag} {mg : Str → Option Value} {base : Heap} {f CL : Addr} {fd : FuncData}
structure InOk (n m : Nat) (cs : Nat → Nat → Rat) (g : Nat → Rat) (D : Nat) : Prop where
  mn : m ≤ 5 ∧ n ≤ 7
  D0 : 0 < D
  D1 : D < 2 ^ 4490
  col : ∀ j p, j < n → p < m → Sm (cs j p) ∧ (cs j p).den ∣ D
  gl : ∀ p, p < m → Sm (g p) ∧ (g p).den ∣ D
def spI (K : PySem.W.Frag) (C : Addr) : Sp := fun vs H Q _ => ∃ (F : Hp) (a dx : Addr) (cv gv : V) (n m : Nat) (cs : Nat → Nat → Rat) (g : Nat → Rat) (D : Nat),
  vs = [.ref a, cv, gv] ∧ H a = some (.ins C dx []) ∧ F a = none ∧ Same F H ∧ DD K F cv (.list (mapD n fun j => vD m (cs j))) ∧ DD K F gv (vD m g) ∧ InOk n m cs g D ∧
  ∀ F' H' pr pb s, (∀ p, p < m → ScOk n cs g D p (s p)) → LRep K C F' H' a dx pr pb n m (matB n m cs g s) s (fun i => n + i) → Fr1 F H F' H' a → H pr = none → H pb = none → Q .non H'
theorem rowv_den {n m : Nat} {cs : Nat → Nat → Rat} {g : Nat → Rat} {D p : Nat} (h : InOk n m cs g D) (hp : p < m) : ∀ j, j < n + 1 → ((if j < n then cs j p else g p)).den ∣ D ∧ Sm (if j < n then cs j p else g p) := fun j hj => by
  by_cases q : j < n
  · rw [if_pos q]
    exact ⟨(h.col j p q hp).2, (h.col j p q hp).1⟩
  · rw [if_neg q]
    exact ⟨(h.gl p hp).2, (h.gl p hp).1⟩
theorem noMu_plain {A : Sto} (h : plainA A) : ∀ vs : List Nat, noMu A vs = true
  | [] => rfl
  | j :: r => by
    show ((match A[j]? with
      | some (.mu _ _) => false
      | _ => true) && noMu A r) = true
    rw [noMu_plain h r, Bool.and_true]
    cases e : A[j]? with
    | none => rfl
    | some s =>
      have := h j s e
      cases s with
      | mu o ds => cases this
      | _ => rfl
theorem noMu_ob {C : Addr} {fs : List (Str × PyData)} {B : Sto} (h : plainA B) : ∀ vs : List Nat, noMu (.ob C fs :: B) vs = true
  | [] => rfl
  | j :: r => by
    show ((match (Slot.ob C fs :: B)[j]? with
      | some (.mu _ _) => false
      | _ => true) && noMu (.ob C fs :: B) r) = true
    rw [noMu_ob h r, Bool.and_true]
    cases j with
    | zero => rfl
    | succ j =>
      show (match B[j]? with
        | some (.mu _ _) => false
        | _ => true) = true
      cases e : B[j]? with
      | none => rfl
      | some s =>
        have := h j s e
        cases s with
        | mu o ds => cases this
        | _ => rfl
/-- the locals of __init__, as far as they matter -/
def stoI (a : Addr) (c g x3 x4 x5 x6 : PyData) (k : Nat) : Sto := [.rw (.ref a), .fz c, .fz g] ++ ([Slot.fz x3, .fz x4, .fz x5, .fz x6].take k ++ List.replicate (4 - k) .no) ++ [.no, .no, .no]
theorem ok_init (F : FunD K "__init__" "Lines.__init__" (defArgs stI) (defBody stI) (defScope stI) [] [] f fd) (T : LT K mg CL) (B : Bt mg) (g_scale_of : Fn P w K mg base "scale_of" 2 (spD K RScale)) : FnOk P w K mg base CX0 3 f fd ["self", "columns", "goal"] (spI K CL) := by
  have nd := sc_init.nd
  refine F.ok sc_init (fun vs H Q E h => ?_) (fun cdv A0 outer s0 H vs Q E hr h => ?_)
  · obtain ⟨F', a, dx, cv, gv, n, m, cs, g, D, rfl, _⟩ := h
    rfl
  obtain ⟨Fz, a, dx, cv, gv, n, m, cs, g, D, rfl, ha, fa, sub, hcv, hgv, ok, hQ⟩ := h
  obtain ⟨m5, n7⟩ := ok.mn
  have e0 : SE (XI P w K mg base f cdv A0 outer s0 H E) (asgVal (sAt (defBody stI) 0)) _ _ := se_len B.len (sv 1)
  have b0 : SS (XI P w K mg base f cdv A0 outer s0 H E) (sAt (forBody (sAt (defBody stI) 3)) 0) _ _ := ss_set 4 nd (se_cat (se_ofN (sn_lc [("column", 7)] rfl nd (si_list (sv 1)) (by kernel_rfl) (fun _ _ _ _ _ => by exact (sg_name 7 nd)) (fun _ _ _ _ _ => by exact sts_nil) (fun _ _ _ _ _ => by exact (se_ixL (sv 7) (sv 3))))) (se_lst (sa_cons (se_ixL (sv 2) (sv 3)) sa_nil)))
  have b1 : SS (XI P w K mg base f cdv A0 outer s0 H E) (sAt (forBody (sAt (defBody stI) 3)) 1) _ _ := ss_set 5 nd (se_call g_scale_of hr (sa_cons (sv 4) sa_nil))
  have b2 : SS (XI P w K mg base f cdv A0 outer s0 H E) (sAt (forBody (sAt (defBody stI) 3)) 2) _ _ := ss_setLcF 6 [("one", 8)] rfl nd (si_list (sv 4)) (by kernel_rfl) (fun _ _ _ _ _ => by exact (sg_name 8 nd)) (fun _ _ _ _ _ => by exact sts_nil) (fun _ _ _ _ _ => by exact (se_mul (se_ixT (sv 8) se_int) (se_fdiv (sv 5) (se_ixT (sv 8) se_int)))) (sw_true rfl rfl rfl (by decide +kernel))
  have b4 : SE (XI P w K mg base f cdv A0 outer s0 H E) (asgVal (sAt (forBody (sAt (defBody stI) 3)) 4)) _ _ := se_cat (se_cat (se_ofN (sn_cutHi (sv 6) (se_neg se_int))) (se_ofN (sn_lc [("other", 9)] rfl nd (si_range B.range (sa_cons (se_len B.len (sv 2)) sa_nil)) (by kernel_rfl) (fun _ _ _ _ _ => by exact (sg_name 9 nd)) (fun _ _ _ _ _ => by exact sts_nil) (fun _ _ _ _ _ => by exact (se_callTy call_int1 soc_intB B.int (sa_cons (se_eq (sv 9) (sv 3)) sa_nil)))))) (se_ofN (sn_cutLo (sv 6) (se_neg se_int)))
  have e4 : SN (XI P w K mg base f cdv A0 outer s0 H E) (asgVal (sAt (defBody stI) 4)) _ _ := sn_lc [("place", 3)] rfl nd (si_range B.range (sa_cons (se_len B.len (sv 2)) sa_nil)) (by kernel_rfl) (fun _ _ _ _ _ => by exact (sg_name 3 nd)) (fun _ _ _ _ _ => by exact sts_nil) (fun _ _ _ _ _ => by exact (se_add (se_fld 0 T.cl T.n_many) (sv 3)))
  have e6 : SN (XI P w K mg base f cdv A0 outer s0 H E) (asgVal (sAt (defBody stI) 6)) _ _ := sn_lc [("column", 7)] rfl nd (si_range B.range (sa_cons (se_fld 0 T.cl T.n_many) sa_nil)) (by kernel_rfl) (fun _ _ _ _ _ => by exact (sg_name 7 nd)) (fun _ _ _ _ _ => by exact sts_nil) (fun _ _ _ _ _ => by exact (se_sub se_int (se_sum rfl B.sum (se_ofN (sn_lc [("row", 4)] rfl nd (si_list (se_fld 0 T.cl T.n_rows)) (by kernel_rfl) (fun _ _ _ _ _ => by exact (sg_name 4 nd)) (fun _ _ _ _ _ => by exact sts_nil) (fun _ _ _ _ _ => by exact (se_ixL (sv 4) (sv 7))))))))
  have e7 : SN (XI P w K mg base f cdv A0 outer s0 H E) (asgVal (sAt (defBody stI) 7)) _ _ := sn_cat (se_cat (se_fld 0 T.cl T.n_costs) (se_rep (se_lst (sa_cons se_int sa_nil)) (se_len B.len (sv 2)))) (se_lst (sa_cons (se_sub se_int (se_sum rfl B.sum (se_ofN (sn_lc [("row", 4)] rfl nd (si_list (se_fld 0 T.cl T.n_rows)) (by kernel_rfl) (fun _ _ _ _ _ => by exact (sg_name 4 nd)) (fun _ _ _ _ _ => by exact sts_nil) (fun _ _ _ _ _ => by exact (se_ixL (sv 4) (se_neg se_int))))))) sa_nil))
  refine ⟨_, PSs.nox (pss_cons (ps_fld (pv 0) e0.p rfl)
    (pss_cons (ps_fld (pv 0) (pe_lst pa_nil) rfl)
    (pss_cons (ps_fld (pv 0) (pe_lst pa_nil) rfl)
    (pss_cons (ps_for PassesOwn.never rfl (pi_range1 rfl B.range (pa_cons (se_len B.len (sv 2)).p pa_nil)) (sg_name 3 nd).p
      (pss_cons b0.p (pss_cons b1.p (pss_cons b2.p
      (pss_cons (ps_expr (pe_bm PySem.F.plainAttrs_list PySem.F.slot_list_append PySem.F.type_list_append mt_append (pe_fld (pv 0) rfl) (pa_cons (sv 5).p pa_nil)))
      (pss_one (ps_expr (pe_bm PySem.F.plainAttrs_list PySem.F.slot_list_append PySem.F.type_list_append mt_append (pe_fld (pv 0) rfl) (pa_cons b4.p pa_nil)))))))))
    (pss_cons (ps_fld (pv 0) e4.p rfl)
    (pss_cons (ps_fld (pv 0) pe_int rfl)
    (pss_cons (ps_fld (pv 0) e6.p rfl)
    (pss_one (ps_fld (pv 0) e7.p rfl))))))))), ?_⟩
  have z0 : Zs K Fz [.rw (.ref a), .fz (.list (mapD n fun j => vD m (cs j))), .fz (vD m g), .no, .no, .no, .no, .no, .no, .no] (L2.start nI [.ref a, cv, gv]) := .rw (.fz hcv (.fz hgv (.no (.no (.no (.no (.no (.no (.no .nil)))))))))
  have rp0 := z0.rp sub
  refine go_seq (go_fld (se_now e0.s rp0 (plain_mut z0.plain) (Qd := fun d => d = .int (n : Nat)) ⟨_, rfl, _, .inl rfl, by rw [mapD_len]⟩ fun d v F1 H1 hd g1 dv => ?_))
  subst hd
  have ev := dv.int_v
  subst ev
  have ha1 := g1.hh _ _ ha
  refine ⟨_, rp0.rw_at rfl, a, CL, dx, [], rfl, ha1, T.cl, T.n_many, by decide, ?_⟩
  have fr1 : Fr1 Fz H F1 H1 a := Fr1.refl.gr g1
  have fa1 : F1 a = none := g1.nw a fa (by rw [ha]; exact fun z => nomatch z)
  have fr2 := fr1.poke (o := .ins CL dx (putF "many" (.int (n : Nat)) [])) (.inl rfl) ha1
  refine ⟨Nat.zero_le _, fun ps hps => ?_⟩
  have aps : a ≠ ps := ne_of_none upd_same hps
  have hps0 := fr2.dm ps hps
  have fr3 := fr2.lay (o := .lst []) hps
  refine ⟨_, rp0.rw_at rfl, a, CL, dx, _, rfl, (upd_ne aps).trans upd_same, T.cl, T.n_scales, by show 1 < 1000; decide, ?_⟩
  have fr4 := fr3.poke (o := .ins CL dx (putF "scales" (.ref ps) (putF "many" (.int (n : Nat)) []))) (.inl rfl) ((upd_ne aps).trans upd_same)
  refine ⟨Nat.zero_le _, fun pr hpr => ?_⟩
  have apr : a ≠ pr := ne_of_none upd_same hpr
  have hpr0 := fr4.dm pr hpr
  have fr5 := fr4.lay (o := .lst []) hpr
  refine ⟨_, rp0.rw_at rfl, a, CL, dx, _, rfl, (upd_ne apr).trans upd_same, T.cl, T.n_rows, by show 2 < 1000; decide, ?_⟩
  have fr6 := fr5.poke (o := .ins CL dx (putF "rows" (.ref pr) (putF "scales" (.ref ps) (putF "many" (.int (n : Nat)) [])))) (.inl rfl) ((upd_ne apr).trans upd_same)
  have hpsr : ps ≠ pr := fun z => by
    rw [← z, upd_ne aps.symm, upd_same] at hpr
    cases hpr
  have fps1 : F1 ps = none := by
    cases h : F1 ps with
    | none => rfl
    | some o =>
      have := g1.fh _ _ h
      rw [upd_ne aps.symm] at hps
      rw [hps] at this
      cases this
  have fpr1 : F1 pr = none := by
    cases h : F1 pr with
    | none => rfl
    | some o =>
      have := g1.fh _ _ h
      rw [upd_ne apr.symm, upd_ne hpsr.symm, upd_ne apr.symm] at hpr
      rw [hpr] at this
      cases this
  have sub6 := same_poke (o := .ins CL dx (putF "rows" (.ref pr) (putF "scales" (.ref ps) (putF "many" (.int (n : Nat)) [])))) (same_poke (o := .lst []) (same_poke (o := .ins CL dx (putF "scales" (.ref ps) (putF "many" (.int (n : Nat)) []))) (same_poke (o := .lst []) (same_poke (o := .ins CL dx (putF "many" (.int (n : Nat)) [])) g1.fh fa1) fps1) fa1) fpr1) fa1
  have l6 : LI K CL F1 (upd (upd (upd (upd (upd H1 a (.ins CL dx (putF "many" (.int (n : Nat)) []))) ps (.lst [])) a (.ins CL dx (putF "scales" (.ref ps) (putF "many" (.int (n : Nat)) [])))) pr (.lst [])) a (.ins CL dx (putF "rows" (.ref pr) (putF "scales" (.ref ps) (putF "many" (.int (n : Nat)) []))))) a dx ps pr n m (fun _ => 0) (fun _ _ => 0) 0 :=
    ⟨upd_same, ⟨[], by rw [upd_ne aps.symm, upd_ne hpsr, upd_ne aps.symm, upd_same], .nil⟩, ⟨[], by rw [upd_ne apr.symm, upd_same], .nil⟩, fa1, fps1, fpr1, hpsr, sub6⟩
  have rp6 := rp_up rp0 z0.plain g1.ff sub6
  revert l6 fr6 rp6
  generalize upd (upd (upd (upd (upd H1 a (.ins CL dx (putF "many" (.int (n : Nat)) []))) ps (.lst [])) a (.ins CL dx (putF "scales" (.ref ps) (putF "many" (.int (n : Nat)) [])))) pr (.lst [])) a (.ins CL dx (putF "rows" (.ref pr) (putF "scales" (.ref ps) (putF "many" (.int (n : Nat)) [])))) = H6
  intro fr6 l6 rp6
  clear sub6 fr5 fr4 fr3 fr2
  refine go_seq ?_
  obtain ⟨gvv, egv, dgv⟩ := rp6.fz_at (i := 2) rfl
  obtain ⟨qg, wg, rfl, fqg, hwg⟩ := dgv.list_v
  have lg : wg.length = m := by rw [hwg.len, vL_len]
  refine ⟨_, egv, qg, wg, rfl, .inl (SqL.of (l6.sub _ _ fqg)), _, rfl, by omega, by omega, ?_⟩
  rw [lg]
  refine for_range (lo := 0) (n := m) (fun i σ' H' => ∃ (t : Nat → Int) (F' : Hp) (x3 x4 x5 x6 : Slot), plainA [.rw (.ref a), .fz (.list (mapD n fun j => vD m (cs j))), .fz (vD m g), x3, x4, x5, x6, .no, .no, .no] ∧ Rp K (fun _ => False) F' H' [.rw (.ref a), .fz (.list (mapD n fun j => vD m (cs j))), .fz (vD m g), x3, x4, x5, x6, .no, .no, .no] σ' F' H' ∧ LI K CL F' H' a dx ps pr n m t (fun p j => matB n m cs g t j p) i ∧ Fr1 Fz H F' H' a ∧ ∀ p, p < i → ScOk n cs g D p (t p)) ⟨fun _ => 0, F1, _, _, _, _, z0.plain, rp6, ⟨l6.obj, l6.sc, ⟨[], (by obtain ⟨rv, h1, h2⟩ := l6.rows; cases h2; exact h1), .nil⟩, fa1, fps1, fpr1, hpsr, l6.sub⟩, fr6, fun p hp => absurd hp (Nat.not_lt_zero p)⟩ ?_ ?_
  · rintro i σ' H' hi ⟨t, F', x3, x4, x5, x6, pl, rp, L, frm, hsc⟩
    rw [Int.zero_add]
    have pl' : ∀ {y3 y4 y5 y6 : Slot}, plainS y3 = true → plainS y4 = true → plainS y5 = true → plainS y6 = true → plainA [.rw (.ref a), .fz (.list (mapD n fun j => vD m (cs j))), .fz (vD m g), y3, y4, y5, y6, .no, .no, .no] := fun h3 h4 h5 h6 => plainA_cons rfl (plainA_cons rfl (plainA_cons rfl (plainA_cons h3 (plainA_cons h4 (plainA_cons h5 (plainA_cons h6 (plainA_cons rfl (plainA_cons rfl (plainA_cons rfl plainA_nil)))))))))
    have p4 := pl 4 x4 rfl
    have p5 := pl 5 x5 rfl
    have p6 := pl 6 x6 rfl
    have rpi : Rp K (fun _ => False) F' H' [.rw (.ref a), .fz (.list (mapD n fun j => vD m (cs j))), .fz (vD m g), .fz (.int (i : Nat)), x4, x5, x6, .no, .no, .no] (σ'.set 3 (some (.int (i : Int)))) F' H' := rp.set (i := 3) (DD.int (i : Nat))
    refine go_seq (ss_now b0.s rpi (N := fun C => C = [.rw (.ref a), .fz (.list (mapD n fun j => vD m (cs j))), .fz (vD m g), .fz (.int (i : Nat)), .fz (vD (n + 1) fun j => if j < n then cs j i else g i), x5, x6, .no, .no, .no]) ?_ (fun C hC => by rw [hC]; exact pl' rfl rfl p5 p6) fun C σ2 F2 H2 hC g2 rp2 => ?_)
    · refine ⟨_, rfl, _, rfl, noMu_plain (pl' rfl p4 p5 p6) _, by rw [mapD_len]; omega, fun j => some (fr (cs j i)), fun j d hd => ?_, _, rfl, _, rfl, _, _, _, rfl, rfl, vL_ix hi, by show (1 : Nat) ≤ 1000; decide, _, _, rfl, rfl, ?_, ?_⟩
      · obtain ⟨hj, rfl⟩ := mapD_get hd
        exact ⟨rfl, _, rfl, _, rfl, _, _, _, rfl, rfl, vL_ix hi, rfl, rfl⟩
      · rw [mapD_len, outs_map fun j _ => rfl, mapD_len]
        exact le_line (show n + 1 ≤ 1000 by omega)
      · rw [mapD_len, outs_map fun j _ => rfl]
        have e : mapD n (fun j => fr (cs j i)) ++ [fr (g i)] = vL (n + 1) fun j => if j < n then cs j i else g i := by
          show _ = mapD (n + 1) _
          rw [mapD_snoc]
          dsimp only
          rw [if_neg (Nat.lt_irrefl n)]
          congr 1
          exact mapD_congr fun j hj => by rw [if_pos hj]
        rw [e]
        rfl
    subst hC
    refine go_seq (ss_now b1.s rp2 (N := fun C => ∃ z, ScOk n cs g D i z ∧ C = [.rw (.ref a), .fz (.list (mapD n fun j => vD m (cs j))), .fz (vD m g), .fz (.int (i : Nat)), .fz (vD (n + 1) fun j => if j < n then cs j i else g i), .fz (.int z), x6, .no, .no, .no]) ⟨_, rfl, n, _, D, rfl, by omega, ok.D0, ok.D1, fun j hj => (rowv_den ok hi j hj).1, fun z z1 z2 z3 z4 z5 => ⟨z, ⟨z1, z2, fun j hj => by have q := z3 j (by omega); rw [if_pos hj] at q; exact q, by have q := z3 n (by omega); rw [if_neg (Nat.lt_irrefl n)] at q; exact q, by rw [if_neg (Nat.lt_irrefl n)] at z4; exact z4, by rw [if_neg (Nat.lt_irrefl n)] at z5; exact z5⟩, rfl⟩⟩ (fun C hC => by obtain ⟨z, _, rfl⟩ := hC; exact pl' rfl rfl rfl p6) fun C σ3 F3 H3 hC g3 rp3 => ?_)
    obtain ⟨z, hz, rfl⟩ := hC
    have zD' : z.natAbs ≤ D := Nat.le_of_dvd ok.D0 hz.dv
    refine go_seq (ss_now b2.s rp3 (N := fun C => C = [.rw (.ref a), .fz (.list (mapD n fun j => vD m (cs j))), .fz (vD m g), .fz (.int (i : Nat)), .fz (vD (n + 1) fun j => if j < n then cs j i else g i), .fz (.int z), .fz (zD (n + 1) fun j => wholeZ (if j < n then cs j i else g i) z), .no, .no, .no]) ?_ (fun C hC => by rw [hC]; exact pl' rfl rfl rfl rfl) fun C σ4 F4 H4 hC g4 rp4 => ?_)
    · refine ⟨_, rfl, _, rfl, noMu_plain (pl' rfl rfl rfl p6) _, by rw [vL_len]; omega, fun j => some (.int (wholeZ (if j < n then cs j i else g i) z)), fun j d hd => ?_, ?_⟩
      · obtain ⟨hj, rfl⟩ := mapD_get hd
        obtain ⟨rd, rs⟩ := rowv_den ok hi j hj
        have dd : (((if j < n then cs j i else g i).den : Int)) ∣ z := by
          by_cases q : j < n
          · rw [if_pos q]; exact hz.col j q
          · rw [if_neg q]; exact hz.gl
        have dp := (if j < n then cs j i else g i).den_pos
        have szq : Sz (z.fdiv ((if j < n then cs j i else g i).den : Int)) := by
          obtain ⟨k, hk⟩ := dd
          rw [hk, Int.mul_fdiv_cancel_left _ (by omega)]
          unfold Sz
          have := ok.D1
          have h2 : k.natAbs ≤ z.natAbs := by
            rw [hk, Int.natAbs_mul]
            exact Nat.le_mul_of_pos_left _ (by omega)
          omega
        exact ⟨rfl, _, rfl, _, 0, _, rfl, rfl, rfl, _, rfl, _, rfl, _, 1, _, rfl, rfl, rfl, _, _, rfl, rfl, rs.2.cf (by omega) _, _, _, rfl, rfl, rs.1.mul szq, rfl, rfl⟩
      · rw [vL_len, outs_map fun j _ => rfl]
        rfl
    subst hC
    have L4 := ((L.gr g2).gr g3).gr g4
    have fr4 := ((frm.gr g2).gr g3).gr g4
    obtain ⟨svs, hsv, dsv⟩ := L4.sc
    obtain ⟨rv, hrv, drv⟩ := L4.rows
    have svl : svs.length = i := by rw [dsv.len, mapD_len]
    have rvl : rv.length = i := by rw [drv.len, mapD_len]
    have e5 := rp4.fz_at (i := 5) rfl
    obtain ⟨v5, e5, d5⟩ := e5
    have ev5 := d5.int_v
    subst ev5
    refine go_seq ⟨_, rp4.rw_at rfl, a, CL, dx, _, _, rfl, L4.obj, T.cl, T.n_scales, rfl, .inl ⟨rfl, _, SqL.of hsv⟩, _, e5, ps, svs, _, rfl, rfl, hsv, small1000 (by omega), ?_⟩
    have sub5 := same_poke (o := .lst (svs ++ [.int z])) L4.sub L4.fs
    have fr5 := fr4.poke (o := .lst (svs ++ [.int z])) (.inr hps0) hsv
    have aps' : a ≠ ps := ne_of L4.obj hsv (by intro q; cases q)
    have apr' : a ≠ pr := ne_of L4.obj hrv (by intro q; cases q)
    have rp5 := rp_up rp4 (pl' rfl rfl rfl rfl) (Same.refl F4) sub5
    refine ⟨_, rp5.rw_at rfl, a, CL, dx, _, _, rfl, (upd_ne aps').trans L4.obj, T.cl, T.n_rows, rfl, .inl ⟨rfl, _, SqL.of ((upd_ne hpsr.symm).trans hrv)⟩, ?_⟩
    refine go_cons (se_now b4.s rp5 (plain_mut (pl' rfl rfl rfl rfl)) (Qd := fun d => d = zD (n + m + 1) fun j => matB n m cs g (fun p => if p = i then z else t p) j i) ?_ fun d v F6 H6' hd g6 dv6 => ?_)
    · refine ⟨_, rfl, _, rfl, _, _, rfl, rfl, _, rfl, _, .inl rfl, m, by rw [vL_len], by omega, noMu_plain (pl' rfl rfl rfl rfl) _, by rw [rgD_map, mapD_len]; omega, fun j => some (.int (unitC j i)), fun j d hd => ?_, _, _, rfl, rfl, ?_, _, rfl, _, rfl, _, _, rfl, rfl, _, _, rfl, rfl, ?_, ?_⟩
      · rw [rgD_map] at hd
        obtain ⟨hj, rfl⟩ := mapD_get hd
        refine ⟨rfl, _, rfl, _, rfl, _, rfl, _, rfl, rfl, ?_⟩
        dsimp only
        unfold unitC
        by_cases q : i = j
        · rw [if_pos q, decide_eq_true (by omega)]
          rfl
        · rw [if_neg q, decide_eq_false (by omega)]
          rfl
      · rw [cut_hi, rgD_map, mapD_len, mapD_len, outs_map fun j _ => rfl, mapD_len]
        exact le_line (show n + m ≤ 1000 by omega)
      · rw [cut_hi, cut_lo, rgD_map, mapD_len, outs_map fun j _ => rfl, mapD_app, mapD_len]
        exact le_line (show n + m + 1 ≤ 1000 by omega)
      · rw [cut_hi, cut_lo, rgD_map, mapD_len, outs_map fun j _ => rfl, mapD_app]
        refine congrArg PyData.list ?_
        show _ = mapD (n + m + 1) _
        rw [mapD_snoc]
        have e1 : ∀ j, j < n + m → (if j < n then PyData.int (wholeZ (if j < n then cs j i else g i) z) else .int (unitC (j - n) i)) = .int (matB n m cs g (fun p => if p = i then z else t p) j i) := fun j hj => by
          unfold matB
          by_cases q : j < n
          · rw [if_pos q, if_pos q, if_pos q]
            dsimp only
            rw [if_pos rfl]
          · rw [if_neg q, if_neg q, if_pos hj]
        rw [mapD_congr e1]
        congr 2
        unfold matB
        dsimp only
        rw [if_neg (Nat.lt_irrefl n), if_neg (by omega), if_neg (Nat.lt_irrefl _), if_pos rfl]
    · subst hd
      have hrv6 := g6.hh _ _ ((upd_ne hpsr.symm).trans hrv)
      refine ⟨pr, rv, v, rfl, rfl, hrv6, small1000 (by omega), ?_⟩
      have nn : ∀ {q : Addr} {o : HO}, (upd H4 ps (.lst (svs ++ [.int z]))) q = some o → (upd H4 ps (.lst (svs ++ [.int z]))) q ≠ none := fun e z => by rw [e] at z; cases z
      have fpr6 : F6 pr = none := g6.nw _ L4.fr (nn ((upd_ne hpsr.symm).trans hrv))
      refine ⟨fun p => if p = i then z else t p, F6, _, _, _, _, pl' rfl rfl rfl rfl, rp_up rp5 (pl' rfl rfl rfl rfl) g6.ff (same_poke g6.fh fpr6), ⟨?_, ⟨svs ++ [.int z], ?_, ?_⟩, ⟨rv ++ [v], upd_same, ?_⟩, g6.nw _ L4.fa (nn ((upd_ne aps').trans L4.obj)), g6.nw _ L4.fs (nn upd_same), fpr6, hpsr, same_poke g6.fh fpr6⟩, (fr5.gr g6).poke (.inr hpr0) hrv6, fun p hp => ?_⟩
      · rw [upd_ne apr']
        exact g6.hh _ _ ((upd_ne aps').trans L4.obj)
      · rw [upd_ne hpsr]
        exact g6.hh _ _ upd_same
      · have q := (dsv.mono g6.ff).app (.cons (.int z) .nil)
        have e1 : zL (i + 1) (fun p => if p = i then z else t p) = zL i t ++ [PyData.int z] := by
          show mapD (i + 1) _ = _
          rw [mapD_snoc]
          dsimp only
          rw [if_pos rfl]
          congr 1
          exact mapD_congr fun j hj => by rw [if_neg (by omega)]
        rw [e1]
        exact q
      · have q := (drv.mono g6.ff).app (.cons dv6 .nil)
        have e1 : (mapD (i + 1) fun p => zD (n + m + 1) fun j => matB n m cs g (fun p => if p = i then z else t p) j p) = (mapD i fun p => zD (n + m + 1) fun j => matB n m cs g t j p) ++ [zD (n + m + 1) fun j => matB n m cs g (fun p => if p = i then z else t p) j i] := by
          rw [mapD_snoc]
          congr 1
          exact mapD_congr fun p hp => by
            refine congrArg PyData.list (mapD_congr fun j _ => congrArg PyData.int (matB_congr j ?_))
            exact if_neg (by omega)
        rw [e1]
        exact q
      · dsimp only
        by_cases q : p = i
        · rw [if_pos q, q]
          exact hz
        · rw [if_neg q]
          exact hsc p (by omega)
  · rintro σ' H' ⟨t, F', x3, x4, x5, x6, pl, rp, L, frm, hsc⟩
    clear fr6 l6 rp6 z0 rp0
    have SP : Spare m n (matB n m cs g t) := fun q hq p hp => by
      unfold matB
      rw [if_neg (by omega), if_pos (by omega), Nat.add_sub_cancel_left]
    have plB : plainA [.fz (.list (mapD n fun j => vD m (cs j))), .fz (vD m g), x3, x4, x5, x6, .no, .no, .no] := fun i s e => pl (i + 1) s e
    have aux : ∀ {fs : List (Str × PyData)} (p : Addr), ¬ MutA (.ob CL fs :: [.fz (.list (mapD n fun j => vD m (cs j))), .fz (vD m g), x3, x4, x5, x6, .no, .no, .no]) σ' p := fun p => ob_mut plB p
    have plC : ∀ d, plainA [.fz (.list (mapD n fun j => vD m (cs j))), .fz (vD m g), x3, x4, x5, x6, .fz d, .no, .no] := fun d => plainA_cons rfl (plainA_cons rfl (plainA_cons (pl 3 x3 rfl) (plainA_cons (pl 4 x4 rfl) (plainA_cons (pl 5 x5 rfl) (plainA_cons (pl 6 x6 rfl) (plainA_cons rfl (plainA_cons rfl (plainA_cons rfl plainA_nil))))))))
    obtain ⟨svs, hsv, dsv⟩ := L.sc
    obtain ⟨rv, hrv, drv⟩ := L.rows
    have aps' : a ≠ ps := ne_of L.obj hsv (by intro q; cases q)
    have apr' : a ≠ pr := ne_of L.obj hrv (by intro q; cases q)
    -- self.base
    refine go_seq (go_fld (sn_now e4.s (rp_ob (fs := [(("many" : Str), .int (n : Nat))]) rp L.obj (view_cons rfl (.int _) view_nil)) aux (Qd := fun ds => ds = mapD m fun p => .int ((n + p : Nat) : Int)) ?_ fun ds pb vs F7 H7 hds g7 n7' fb7 hb7 dd7 => ?_))
    · refine ⟨_, rfl, _, .inl rfl, m, by rw [vL_len], by omega, noMu_ob plB _, by rw [rgD_map, mapD_len]; omega, fun j => some (.int ((n + j : Nat) : Int)), fun j d hd => ?_, ?_⟩
      · rw [rgD_map] at hd
        obtain ⟨hj, rfl⟩ := mapD_get hd
        exact ⟨rfl, _, _, rfl, rfl, _, rfl, _, _, rfl, rfl, rfl, congrArg (fun z : Int => some (PyData.int z)) (Int.natCast_add n j)⟩
      · rw [rgD_map, mapD_len, outs_map fun j _ => rfl]
    subst hds
    have L7 := L.gr g7
    have fr7 := frm.gr g7
    have hpb0 := frm.dm pb n7'
    have o7 := L7.obj
    refine ⟨_, rp.rw_at rfl, a, CL, dx, _, rfl, o7, T.cl, T.n_base, by show 3 < 1000; decide, ?_⟩
    have fr8 := fr7.poke (o := .ins CL dx (putF "base" (.ref pb) [("many", .int (n : Nat)), ("scales", .ref ps), ("rows", .ref pr)])) (.inl rfl) o7
    have sub8 := same_poke (o := .ins CL dx (putF "base" (.ref pb) [("many", .int (n : Nat)), ("scales", .ref ps), ("rows", .ref pr)])) g7.fh L7.fa
    have rp8 := rp_up rp pl g7.ff sub8
    -- self.by
    refine ⟨_, rp.rw_at rfl, a, CL, dx, _, rfl, upd_same, T.cl, T.n_by, by show 4 < 1000; decide, ?_⟩
    have fr9 := fr8.poke (o := .ins CL dx (putF "by" (.int 1) (putF "base" (.ref pb) [("many", .int (n : Nat)), ("scales", .ref ps), ("rows", .ref pr)]))) (.inl rfl) upd_same
    have sub9 := same_poke (o := .ins CL dx (putF "by" (.int 1) (putF "base" (.ref pb) [("many", .int (n : Nat)), ("scales", .ref ps), ("rows", .ref pr)]))) sub8 L7.fa
    have rp9 := rp_up rp8 pl (Same.refl F7) sub9
    have apb' : a ≠ pb := ne_of o7 hb7 (by intro q; cases q)
    have hrv7 := g7.hh _ _ hrv
    have hsv7 := g7.hh _ _ hsv
    have nbr : pr ≠ pb := fun z => by
      rw [← z] at n7'
      rw [hrv] at n7'
      cases n7'
    have hrv9 := (upd_ne (H := upd H7 a (.ins CL dx (putF "base" (.ref pb) [("many", .int (n : Nat)), ("scales", .ref ps), ("rows", .ref pr)]))) (o := .ins CL dx (putF "by" (.int 1) (putF "base" (.ref pb) [("many", .int (n : Nat)), ("scales", .ref ps), ("rows", .ref pr)]))) apr'.symm).trans ((upd_ne (H := H7) apr'.symm).trans hrv7)
    have hsv9 := (upd_ne (H := upd H7 a (.ins CL dx (putF "base" (.ref pb) [("many", .int (n : Nat)), ("scales", .ref ps), ("rows", .ref pr)]))) (o := .ins CL dx (putF "by" (.int 1) (putF "base" (.ref pb) [("many", .int (n : Nat)), ("scales", .ref ps), ("rows", .ref pr)]))) aps'.symm).trans ((upd_ne (H := H7) aps'.symm).trans hsv7)
    have hbv9 := (upd_ne (H := upd H7 a (.ins CL dx (putF "base" (.ref pb) [("many", .int (n : Nat)), ("scales", .ref ps), ("rows", .ref pr)]))) (o := .ins CL dx (putF "by" (.int 1) (putF "base" (.ref pb) [("many", .int (n : Nat)), ("scales", .ref ps), ("rows", .ref pr)]))) apb'.symm).trans ((upd_ne (H := H7) apb'.symm).trans hb7)
    have ho9 : upd (upd H7 a (.ins CL dx (putF "base" (.ref pb) [("many", .int (n : Nat)), ("scales", .ref ps), ("rows", .ref pr)]))) a (.ins CL dx (putF "by" (.int 1) (putF "base" (.ref pb) [("many", .int (n : Nat)), ("scales", .ref ps), ("rows", .ref pr)]))) a = some (.ins CL dx [("many", .int (n : Nat)), ("scales", .ref ps), ("rows", .ref pr), ("base", .ref pb), ("by", .int 1)]) := by
      rw [upd_same]
      rw [put_by0]
    revert fr9 sub9 rp9 hrv9 hsv9 hbv9 ho9
    generalize upd (upd H7 a (.ins CL dx (putF "base" (.ref pb) [("many", .int (n : Nat)), ("scales", .ref ps), ("rows", .ref pr)]))) a (.ins CL dx (putF "by" (.int 1) (putF "base" (.ref pb) [("many", .int (n : Nat)), ("scales", .ref ps), ("rows", .ref pr)]))) = H9
    intro fr9 sub9 rp9 hrv9 hsv9 hbv9 ho9
    clear fr8 sub8 rp8
    have drv9 := drv.mono g7.ff
    have dsv9 := dsv.mono g7.ff
    -- the rows are read as if they stood still
    have rdr : ∀ {Fa Ha : Hp}, Fa pr = none → Same Fa Ha → Ha pr = some (.lst rv) → Same Fa (upd Fa pr (.lst rv)) ∧ Same (upd Fa pr (.lst rv)) Ha := fun {Fa Ha} h1 h2 h3 => ⟨same_new h1, fun q x e => by
      by_cases z : q = pr
      · rw [z, upd_same] at e
        cases e
        rw [z]
        exact h3
      · rw [upd_ne z] at e
        exact h2 q x e⟩
    have dd_rows : ∀ {Fa : Hp}, Same F7 Fa → Fa pr = none → DD K (upd Fa pr (.lst rv)) (.ref pr) (.list (mapD m fun p => zD (n + m + 1) fun j => matB n m cs g t j p)) := fun h1 h2 => .lst upd_same ((drv9.mono h1).mono (same_new h2))
    obtain ⟨r1, r2⟩ := rdr L7.fr sub9 hrv9
    refine go_seq (go_fld (sn_now e6.s (rp_ob (fs := [(("many" : Str), .int (n : Nat)), ("rows", .list (mapD m fun p => zD (n + m + 1) fun j => matB n m cs g t j p))]) (rp_up rp9 pl r1 r2) ho9 (view_cons rfl (.int _) (view_cons (v := .ref pr) rfl (dd_rows (Same.refl F7) L7.fr) view_nil))) aux (Qd := fun ds => ds = zL n fun j => 0 - sumZ (fun i => matB n m cs g t j i) m) ?_ fun ds pc vs F8 H8 hds g8 n8 fb8 hb8 dd8 => ?_))
    · refine ⟨_, _, rfl, rfl, n, rfl, by omega, noMu_ob plB _, by rw [rgD_map, mapD_len]; omega, fun j => some (.int (0 - sumZ (fun i => matB n m cs g t j i) m)), fun j d hd => ?_, ?_⟩
      · rw [rgD_map] at hd
        obtain ⟨hj, rfl⟩ := mapD_get hd
        refine ⟨rfl, _, _, rfl, rfl, _, rfl, noMu_ob (B := [.fz (.list (mapD n fun j => vD m (cs j))), .fz (vD m g), x3, x4, x5, x6, .fz (.int (j : Nat)), .no, .no]) (plC _) _, by rw [mapD_len]; omega, fun i => some (.int (matB n m cs g t j i)), fun i d hd => ?_, (List.range m).map fun i => matB n m cs g t j i, ?_, _, _, rfl, rfl, rfl, ?_⟩
        · obtain ⟨hi, rfl⟩ := mapD_get hd
          exact ⟨rfl, _, rfl, _, rfl, _, _, _, rfl, rfl, mapD_ix (by omega), rfl, rfl⟩
        · rw [mapD_len, outs_map fun i _ => rfl, ← mapD_ints]
        · rw [sum_map]
      · rw [rgD_map, mapD_len, outs_map fun j _ => rfl]
    subst hds
    have ev8 : vs = ((List.range n).map fun j => 0 - sumZ (fun i => matB n m cs g t j i) m).map V.int := (show DDs K F8 vs (((List.range n).map fun j => 0 - sumZ (fun i => matB n m cs g t j i) m).map PyData.int) by rw [← mapD_ints]; exact dd8).int_of
    have fpc : F7 pc = none := by
      cases h : F7 pc with
      | none => rfl
      | some o => rw [sub9 _ _ h] at n8; cases n8
    have hh8 : Same H9 H8 := g8.hh
    have fr10 : Fr1 Fz H F7 H8 a := ⟨fun q o h n => hh8 _ _ (fr9.kp q o h n), fun q h => fr9.dm q (hh8.free h), fr9.ff, fr9.nw⟩
    have apc : a ≠ pc := ne_of_none ho9 n8
    refine ⟨_, rp.rw_at rfl, a, CL, dx, _, rfl, hh8 _ _ ho9, T.cl, T.n_costs, by show 5 < 1000; decide, ?_⟩
    rw [put_costs0]
    -- the new list stands still
    have fr11 := fr10.poke (o := .ins CL dx (lF n (.ref ps) (.ref pr) (.ref pb) 1 (.ref pc))) (.inl rfl) (hh8 _ _ ho9)
    have sub11 : Same (upd F7 pc (.lst vs)) (upd H8 a (.ins CL dx (lF n (.ref ps) (.ref pr) (.ref pb) 1 (.ref pc)))) := by
      refine same_poke (fun q x e => ?_) (by rw [upd_ne apc]; exact L7.fa)
      by_cases z : q = pc
      · rw [z, upd_same] at e
        cases e
        rw [z]
        exact hb8
      · rw [upd_ne z] at e
        exact hh8 _ _ (sub9 _ _ e)
    have sn11 : Same F7 (upd F7 pc (.lst vs)) := same_new fpc
    have npr : pr ≠ pc := ne_of_none hrv9 n8
    have nps : ps ≠ pc := ne_of_none hsv9 n8
    have npb : pb ≠ pc := ne_of_none hbv9 n8
    have ho11 : (upd H8 a (.ins CL dx (lF n (.ref ps) (.ref pr) (.ref pb) 1 (.ref pc)))) a = some (.ins CL dx (lF n (.ref ps) (.ref pr) (.ref pb) 1 (.ref pc))) := upd_same
    have hrv11 := (upd_ne (H := H8) (o := .ins CL dx (lF n (.ref ps) (.ref pr) (.ref pb) 1 (.ref pc))) apr'.symm).trans (hh8 _ _ hrv9)
    have hsv11 := (upd_ne (H := H8) (o := .ins CL dx (lF n (.ref ps) (.ref pr) (.ref pb) 1 (.ref pc))) aps'.symm).trans (hh8 _ _ hsv9)
    have hbv11 := (upd_ne (H := H8) (o := .ins CL dx (lF n (.ref ps) (.ref pr) (.ref pb) 1 (.ref pc))) apb'.symm).trans (hh8 _ _ hbv9)
    have dc11 : DD K (upd F7 pc (.lst vs)) (.ref pc) (zD n fun j => 0 - sumZ (fun i => matB n m cs g t j i) m) := by
      refine .lst upd_same ?_
      rw [ev8, mapD_ints]
      exact DDs.ints _
    have fpr11 : (upd F7 pc (.lst vs)) pr = none := (upd_ne npr).trans L7.fr
    obtain ⟨r3, r4⟩ := rdr fpr11 sub11 hrv11
    refine sn_now e7.s (rp_ob (fs := [(("costs" : Str), zD n fun j => 0 - sumZ (fun i => matB n m cs g t j i) m), ("rows", .list (mapD m fun p => zD (n + m + 1) fun j => matB n m cs g t j p))]) (rp_up rp9 pl (sn11.trans r3) r4) ho11 (view_cons (v := .ref pc) rfl (dc11.mono (same_new fpr11)) (view_cons (v := .ref pr) rfl (dd_rows sn11 fpr11) view_nil))) aux (Qd := fun ds => ds = zL (n + m + 1) (costZ m n (matB n m cs g t) fun i => n + i)) ?_ fun ds pk ws F12 H12 hds g12 n12 fb12 hb12 dd12 => ?_
    · refine ⟨_, _, rfl, rfl, by decide, _, rfl, _, .inl rfl, _, _, rfl, rfl, by omega, by rw [vL_len]; omega, le_line (by show 1 * ((vL m g).length : Int).toNat ≤ 1000; rw [vL_len]; omega), _, _, rfl, rfl, ?_, ?_⟩
      · rw [vL_len, Int.toNat_natCast, rep_flat, mapD_len, mapD_len]
        exact le_line (by omega)
      refine ⟨_, _, rfl, rfl, _, rfl, noMu_ob plB _, by rw [mapD_len]; omega, fun i => some (.int (matB n m cs g t (n + m) i)), fun i d hd => ?_, (List.range m).map fun i => matB n m cs g t (n + m) i, ?_, _, _, rfl, rfl, by show (1 : Nat) ≤ 1000; decide, _, _, rfl, rfl, ?_, ?_⟩
      · obtain ⟨hi, rfl⟩ := mapD_get hd
        exact ⟨rfl, _, rfl, _, rfl, _, _, _, rfl, rfl, atI_last, rfl, rfl⟩
      · rw [mapD_len, outs_map fun i _ => rfl, ← mapD_ints]
      · rw [vL_len, Int.toNat_natCast, rep_flat, mapD_app, mapD_len]
        exact le_line (show n + m + 1 ≤ 1000 by omega)
      · obtain ⟨c1, c2, c3⟩ := cost0 SP
        rw [vL_len, Int.toNat_natCast, rep_flat, mapD_app, sum_map]
        show _ = mapD (n + m + 1) _
        rw [mapD_snoc, c3]
        congr 1
        refine mapD_congr fun j hj => ?_
        by_cases q : j < n
        · rw [if_pos q, c1 j q]
        · rw [if_neg q]
          have := c2 (j - n) (by omega)
          rw [show n + (j - n) = j by omega] at this
          rw [this]
    subst hds
    have ev12 : ws = ((List.range (n + m + 1)).map (costZ m n (matB n m cs g t) fun i => n + i)).map V.int := (show DDs K F12 ws (((List.range (n + m + 1)).map (costZ m n (matB n m cs g t) fun i => n + i)).map PyData.int) by rw [← mapD_ints]; exact dd12).int_of
    have hh12 := g12.hh
    have apk : a ≠ pk := ne_of_none ho11 n12
    have npk : pr ≠ pk := ne_of_none hrv11 n12
    have spk : ps ≠ pk := ne_of_none hsv11 n12
    have bpk : pb ≠ pk := ne_of_none hbv11 n12
    refine ⟨_, rp.rw_at rfl, a, CL, dx, _, rfl, hh12 _ _ ho11, T.cl, T.n_costs, by show 6 < 1000; decide, ?_⟩
    rw [put_costs]
    have nsb : ps ≠ pb := fun z => by
      rw [← z, hsv] at n7'
      cases n7'
    have sn12 : Same (upd F7 pc (.lst vs)) (upd (upd F7 pc (.lst vs)) pk (.lst ws)) := same_new (by
      cases h : (upd F7 pc (.lst vs)) pk with
      | none => rfl
      | some o => rw [sub11 _ _ h] at n12; cases n12)
    have fps12 : (upd (upd F7 pc (.lst vs)) pk (.lst ws)) ps = none := (upd_ne spk).trans ((upd_ne nps).trans L7.fs)
    have sn13 : Same (upd (upd F7 pc (.lst vs)) pk (.lst ws)) (upd (upd (upd F7 pc (.lst vs)) pk (.lst ws)) ps (.lst svs)) := same_new fps12
    have snA := (sn11.trans sn12).trans sn13
    have fr12 : Fr1 Fz H F7 H12 a := ⟨fun q o h n => hh12 _ _ (fr11.kp q o h n), fun q h => fr11.dm q (hh12.free h), fr11.ff, fr11.nw⟩
    have fr13 := fr12.poke (o := .ins CL dx (lF n (.ref ps) (.ref pr) (.ref pb) 1 (.ref pk))) (.inl rfl) (hh12 _ _ ho11)
    have hpc0 : H pc = none := fr9.dm pc n8
    have hpk0 : H pk = none := fr11.dm pk n12
    have nwA : ∀ q, H q ≠ none ∨ (q ≠ pc ∧ q ≠ pk ∧ q ≠ ps) → (upd (upd (upd F7 pc (.lst vs)) pk (.lst ws)) ps (.lst svs)) q = F7 q := fun q h => by
      have h' : q ≠ pc ∧ q ≠ pk ∧ q ≠ ps := by
        rcases h with h | h
        · exact ⟨fun z => h (z ▸ hpc0), fun z => h (z ▸ hpk0), fun z => h (z ▸ hps0)⟩
        · exact h
      rw [upd_ne h'.2.2, upd_ne h'.2.1, upd_ne h'.1]
    refine hQ _ _ pr pb t hsc ⟨⟨.ref ps, .ref pk, ?_, .lst upd_same (dsv9.mono snA), .lst ((upd_ne (fun z => spk z.symm)).trans upd_same) ?_⟩, ⟨rv, ?_, ?_⟩, ⟨_, ?_, dd7.mono snA⟩, ?_, ?_, ?_, nbr, ?_⟩ ⟨fr13.kp, fr13.dm, fr13.ff.trans snA, fun q h1 h2 => ?_⟩ hpr0 hpb0
    · rw [upd_same, first_det SP]
    · rw [ev12, mapD_ints]
      exact DDs.ints _
    · exact (upd_ne apr'.symm).trans (hh12 _ _ hrv11)
    · have e1 : (mapD m fun i => zD (n + m + 1) (tab m (matB n m cs g t) (fun i => n + i) i)) = mapD m fun p => zD (n + m + 1) fun j => matB n m cs g t j p := mapD_congr fun i hi => congrArg PyData.list (mapD_congr fun j _ => by rw [first_tab SP hi])
      rw [e1]
      exact drv9.mono snA
    · exact (upd_ne apb'.symm).trans (hh12 _ _ hbv11)
    · rw [nwA a (.inr ⟨apc, apk, aps'⟩)]
      exact L7.fa
    · rw [nwA pr (.inr ⟨npr, npk, hpsr.symm⟩)]
      exact L7.fr
    · rw [nwA pb (.inr ⟨npb, bpk, nsb.symm⟩)]
      exact fb7
    · refine same_poke (fun q x e => ?_) (by rw [nwA a (.inr ⟨apc, apk, aps'⟩)]; exact L7.fa)
      by_cases z : q = ps
      · rw [z, upd_same] at e
        cases e
        rw [z]
        exact hh12 _ _ hsv11
      · rw [upd_ne z] at e
        by_cases z2 : q = pk
        · rw [z2, upd_same] at e
          cases e
          rw [z2]
          exact hb12
        · rw [upd_ne z2] at e
          exact hh12 _ _ (sub11 _ _ e)
    · rw [nwA q (.inl h2)]
      exact fr13.nw q h1 h2
end
end Tk
end
section
set_option Elab.async false
set_option linter.all false
set_option maxRecDepth 100000
set_option maxHeartbeats 4000000
set_option exponentiation.threshold 10000
namespace Tk
open PySem PySem.Spec PyProof.Rows L2
/-! ### promises whose result is a new list -/
def spDn (K : PySem.W.Frag) (R : RC) : Sp := fun vs H Q _ => ∃ (F : Hp) (ds : List PyData) (P : PyData → Prop), Same F H ∧ DDs K F vs ds ∧ R ds P ∧ ∀ d p F' H', P d → Gr F H F' H' → DD K F' (.ref p) d → H p = none → Q (.ref p) H'
def spOn (K : PySem.W.Frag) (C : Addr) (R : RM) : Sp := fun vs H Q _ => ∃ (F : Hp) (a dx : Addr) (fvs : List (Str × V)) (fs : List (Str × PyData)) (ws : List V) (ds : List PyData) (P : PyData → Prop),
  vs = .ref a :: ws ∧ Same F H ∧ H a = some (.ins C dx fvs) ∧ (∀ x d, fs.lookup x = some d → ∃ v, fvs.lookup x = some v ∧ DD K F v d) ∧ DDs K F ws ds ∧ R fs ds P ∧ ∀ d p F' H', P d → Gr F H F' H' → DD K F' (.ref p) d → H p = none → Q (.ref p) H'
theorem go_seq2 {t1 t2 u : TS} {E : Ends} {σ : L2.St} {H : Hp} (h : tSeq t1 t2 { E with nx := u E } σ H) : tSeq t1 (tSeq t2 u) E σ H := h
section
variable {P : Program} {w : World} {K : PySem.W.Frag} {mg : Str → Option Value} {base : Heap} {f CL : Addr} {fd : FuncData} {aN aO aT aH : Addr}
/-- a list that was made here is handed out -/
theorem ret_new {M : Addr → Prop} {F0 H0 F H : Hp} {A : Sto} {σ : L2.St} {E : Ends} {i : Nat} {ds : List PyData} (r : Rp K M F0 H0 A σ F H) (e : A[i]? = some (.mu true ds)) (k : ∀ p F', Same F F' → Same F' H → (∀ a, F0 a = none → H0 a ≠ none → F' a = none) → DD K F' (.ref p) (.list ds) → H0 p = none → E.rt (.ref p) H) : tRet (tVar i) E σ H := by
  obtain ⟨p, vs, e1, h1, f1, m1, q1⟩ := r.mu_at e
  rw [if_pos rfl] at m1
  refine ⟨_, e1, k p (upd F p (.lst vs)) (same_new f1) (fun a x h => ?_) (fun a h n => ?_) (.lst upd_same (q1.mono (same_new f1))) m1⟩
  · by_cases z : a = p
    · rw [z, upd_same] at h
      cases h
      rw [z]
      exact h1
    · rw [upd_ne z] at h
      exact r.sub a x h
  · rw [upd_ne (fun z => n (by rw [z]; exact m1))]
    exact r.new a h n
abbrev stW : Stmt := inClass (top 28) 6
theorem ok_weights_new (F : FunD K "weights_told" "Lines.weights_told" (defArgs stW) (defBody stW) (defScope stW) [] [] f fd) (T : LT K mg CL) (B : Bt mg) (g_fraction : Fn P w K mg base "fraction" 2 (spD K RFraction)) : FnOk P w K mg base CX0 3 f fd ["self"] (spOn K CL RWeightsTold) := by
  have nd := sc_weights_told.nd
  refine F.ok sc_weights_told (fun vs H Q E h => ?_) (fun cdv A0 outer s0 H vs Q E hr h => ?_)
  · obtain ⟨F', a, dx, fvs, fs, ws, ds, Pd, rfl, _, _, _, dd, ⟨n, m, A, s, b, _, rfl, _⟩, _⟩ := h
    cases dd
    rfl
  obtain ⟨F', a, dx, fvs, fs, ws, ds, Pd, rfl, sf, ha, hf, dd, ⟨n, m, A, s, b, rfl, rfl, z, hQ⟩, k⟩ := h
  cases dd
  have bl : SSs (cxOf CX0 P w K mg base ["self", "found", "place", "scale"] "Lines.weights_told" (defScope stW) f cdv A0 outer s0 H E).nox [sAt (defBody stW) 0, sAt (defBody stW) 1] _ _ :=
    sss_cons (ss_setN 1 nd (sn_lst sa_nil))
      (sss_one (ss_for rfl PassesOwn.never (si_enum B.enumerate (sa_cons (se_fld 0 T.cl T.n_scales) sa_nil)) (sg_two 2 3 rfl nd (sg_name 2 nd) (sg_name 3 nd))
      (sss_one (ss_appd 1 (se_call g_fraction hr (sa_cons (se_mul (se_sub (se_ixL (se_fld 0 T.cl T.n_costs) (se_add (se_fld 0 T.cl T.n_many) (sv 2))) (se_fld 0 T.cl T.n_by)) (sv 3)) (sa_cons (se_fld 0 T.cl T.n_by) sa_nil)))))))
  refine ⟨_, PSs.nox (pss_cons (ss_setN 1 nd (sn_lst sa_nil)).p
      (pss_cons (ss_for rfl PassesOwn.never (si_enum B.enumerate (sa_cons (se_fld 0 T.cl T.n_scales) sa_nil)) (sg_two 2 3 rfl nd (sg_name 2 nd) (sg_name 3 nd))
      (sss_one (ss_appd 1 (se_call g_fraction hr (sa_cons (se_mul (se_sub (se_ixL (se_fld 0 T.cl T.n_costs) (se_add (se_fld 0 T.cl T.n_many) (sv 2))) (se_fld 0 T.cl T.n_by)) (sv 3)) (sa_cons (se_fld 0 T.cl T.n_by) sa_nil)))))).p
      (pss_one (ps_ret (pv 1))))), ?_⟩
  refine go_seq2 ?_
  obtain ⟨z1, z2⟩ := z.mn
  have p0 := z.pos
  refine bl.s (fun _ => False) F' H _ _ F' H { nx := fun B => ∃ x2 x3, B = [.ob CL (linesF n m A s b), .mu true (vL m (wtF m n A s b)), x2, x3], rt := fun _ _ => False } _ (start_ob (N := ["found", "place", "scale"]) (y := "self") sf ha hf .nil (by decide)) ?_ ⟨fun B2 σ2 F2 H2 hB r2 s2 => ?_, fun _ _ _ _ _ _ z _ _ _ => z.elim, fun _ _ _ _ z _ _ => z.elim, fun _ _ _ _ z _ _ => z.elim⟩
  · refine ⟨by decide, ?_⟩
    refine ⟨_, _, rfl, rfl, _, rfl, ?_⟩
    rw [mapD_enum]
    refine ⟨fun i B => ∃ x2 x3, B = [.ob CL (linesF n m A s b), .mu true (vL i (wtF m n A s b)), x2, x3], ⟨_, _, rfl⟩, ?_, ?_⟩
    · rintro i d B hd ⟨x2, x3, rfl⟩
      obtain ⟨hi, rfl⟩ := mapD_get hd
      refine ⟨_, rfl, _, _, rfl, _, _, rfl, rfl, ?_⟩
      have ei : ((n : Nat) : Int) + ((i : Nat) : Int) = ((n + i : Nat) : Int) := by omega
      refine ⟨⟨_, _, rfl⟩, _, _, rfl, rfl, _, _, rfl, rfl, _, rfl, _, _, rfl, rfl, _, _, _, rfl, rfl, by rw [ei]; exact mapD_ix (by omega), ?_⟩
      refine ⟨_, _, rfl, rfl, _, _, rfl, rfl, _, rfl, _, _, rfl, rfl, (z.c _ (by omega)).2.mul (z.s i hi), _, _, rfl, rfl, _, _, rfl, by omega, cf_gcd z.by_ (by omega), _, _, rfl, by rw [vL_len]; omega, ?_⟩
      refine ⟨.fz (.int (i : Nat)), .fz (.int (s i)), ?_⟩
      have e3 : vL (i + 1) (wtF m n A s b) = vL i (wtF m n A s b) ++ [fr (wtF m n A s b i)] := mapD_snoc i _
      rw [e3]
      rfl
    · rintro B ⟨x2, x3, rfl⟩
      rw [mapD_len]
      exact ⟨x2, x3, rfl⟩
  · obtain ⟨x2, x3, rfl⟩ := hB
    exact ret_new r2 (i := 1) rfl fun p F3 s3 s4 s5 dd h0 => k _ p F3 H2 hQ ⟨fun q o h => r2.keep q o h id, s2.trans s3, s4, s5⟩ dd h0
/-! ### balance -/
structure ShOk (n m : Nat) (cs : Nat → Nat → Rat) (g : Nat → Rat) (B : Nat) (x : Nat → Rat) : Prop where
  nn : ∀ j, j < n → 0 ≤ x j
  eq : ∀ p, p < m → sumN (fun j => x j * cs j p) n = g p
  sz : ∃ D, 0 < D ∧ D ≤ B ∧ ∀ j, j < n → Dn D (x j) ∧ x j ≤ (B : Rat)
structure WtOk (n m : Nat) (cs : Nat → Nat → Rat) (g : Nat → Rat) (B D : Nat) (w : Nat → Rat) : Prop where
  nn : ∀ j, j < n → 0 ≤ sumN (fun p => w p * cs j p) m
  neg : sumN (fun p => w p * g p) m < 0
  sz : ∃ E, 0 < E ∧ E ≤ B ∧ ∀ p, p < m → Dn E (w p) ∧ -((7 * B * D : Nat) : Rat) ≤ w p ∧ w p ≤ ((7 * B * D : Nat) : Rat)
theorem whole_abs {x : Rat} {s : Int} {V : Nat} (h : (x.den : Int) ∣ s) (hl : -(V : Rat) ≤ x) (hu : x ≤ (V : Rat)) : (wholeZ x s).natAbs ≤ V * s.natAbs := by
  have e := wholeZ_eq h
  have e0 : ((0 : Int) : Rat) = 0 := rfl
  have cV : ((V : Int) : Rat) = (V : Rat) := natc V
  by_cases hs : 0 ≤ s
  · have s0 : (0 : Rat) ≤ (s : Rat) := by rw [← e0]; exact Rat.intCast_le_intCast.mpr hs
    have h1 := Rat.mul_le_mul_of_nonneg_right hu s0
    have h2 := Rat.mul_le_mul_of_nonneg_right hl s0
    rw [← e, ← cV, ← Rat.intCast_mul, Rat.intCast_le_intCast] at h1
    rw [← e, ← cV, ← Rat.intCast_neg, ← Rat.intCast_mul, Rat.intCast_le_intCast, Int.neg_mul] at h2
    have e2 : (V : Int) * s = ((V * s.natAbs : Nat) : Int) := by rw [Int.natCast_mul]; congr 1; omega
    rw [e2] at h1 h2
    omega
  · have s0 : (0 : Rat) ≤ ((-s : Int) : Rat) := by rw [← e0]; exact Rat.intCast_le_intCast.mpr (by omega)
    have h1 := Rat.mul_le_mul_of_nonneg_right hu s0
    have h2 := Rat.mul_le_mul_of_nonneg_right hl s0
    have e3 : x * ((-s : Int) : Rat) = ((-wholeZ x s : Int) : Rat) := by rw [Rat.intCast_neg, Rat.intCast_neg, e]; grind
    rw [e3, ← cV, ← Rat.intCast_mul, Rat.intCast_le_intCast] at h1
    rw [e3, ← cV, ← Rat.intCast_neg, ← Rat.intCast_mul, Rat.intCast_le_intCast, Int.neg_mul] at h2
    have e2 : (V : Int) * -s = ((V * s.natAbs : Nat) : Int) := by rw [Int.natCast_mul]; congr 1; omega
    rw [e2] at h1 h2
    omega
/-- what a balance asks of the sizes -/
structure BalOk (n m : Nat) (cs : Nat → Nat → Rat) (g : Nat → Rat) (D V : Nat) : Prop where
  ok : InOk n m cs g D
  v1 : 1 ≤ V
  col : ∀ j p, j < n → p < m → -(V : Rat) ≤ cs j p ∧ cs j p ≤ (V : Rat)
  gl : ∀ p, p < m → -(V : Rat) ≤ g p ∧ g p ≤ (V : Rat)
  big : 7 * detB (V * D) m < 2 ^ 4490
section
variable {n m : Nat} {cs : Nat → Nat → Rat} {g : Nat → Rat} {D V : Nat} {s : Nat → Int} {b : Nat → Nat}
theorem matB_bound (k : BalOk n m cs g D V) (hs : ∀ p, p < m → ScOk n cs g D p (s p)) : ∀ j, j ≤ n + m → ∀ p, p < m → (matB n m cs g s j p).natAbs ≤ V * D := fun j hj p hp => by
  have sc := hs p hp
  have sD : (s p).natAbs ≤ D := Nat.le_of_dvd k.ok.D0 sc.dv
  unfold matB
  by_cases q : j < n
  · rw [if_pos q]
    exact Nat.le_trans (whole_abs (sc.col j q) (k.col j p q hp).1 (k.col j p q hp).2) (Nat.mul_le_mul_left V sD)
  · rw [if_neg q]
    by_cases q2 : j < n + m
    · rw [if_pos q2]
      have : (unitC (j - n) p).natAbs ≤ 1 := by
        unfold unitC
        split <;> decide
      have := Nat.mul_pos k.v1 k.ok.D0
      omega
    · rw [if_neg q2]
      exact Nat.le_trans (whole_abs sc.gl (k.gl p hp).1 (k.gl p hp).2) (Nat.mul_le_mul_left V sD)
theorem szl_of (k : BalOk n m cs g D V) (hs : ∀ p, p < m → ScOk n cs g D p (s p)) (I : Inv0 m n (matB n m cs g s) b) : SzL n m (matB n m cs g s) s b := by
  have hM := matB_bound k hs
  obtain ⟨m5, n7⟩ := k.ok.mn
  have big := k.big
  have hb := by_bound (b := b) hM I.lt
  have m6 : (m + 1) * detB (V * D) m ≤ 6 * detB (V * D) m := Nat.mul_le_mul_right _ (by omega)
  refine ⟨⟨m5, n7⟩, fun i j hi hj => ?_, ?_, I.pos, fun j hj => ?_, fun p hp => ?_, I.lt⟩
  · have q := tab_bound (b := b) hM I.lt (i := i) hj
    unfold Sz
    omega
  · unfold Sz
    omega
  · have q := cost_bound (b := b) hM I.lt hj
    unfold Sz
    constructor
    · omega
    · omega
  · have sD : (s p).natAbs ≤ D := Nat.le_of_dvd k.ok.D0 (hs p hp).dv
    have := k.ok.D1
    unfold Sz
    omega
theorem bal_of (k : BalOk n m cs g D V) (hs : ∀ p, p < m → ScOk n cs g D p (s p)) : Bal m n (matB n m cs g s) cs g s where
  spare := fun q hq p hp => by
    unfold matB
    rw [if_neg (by omega), if_pos (by omega), Nat.add_sub_cancel_left]
  nz := fun p hp => (hs p hp).nz
  col := fun j hj p hp => by
    unfold matB
    rw [if_pos hj]
    exact wholeZ_eq ((hs p hp).col j hj)
  goal := fun p hp => by
    unfold matB
    rw [if_neg (by omega), if_neg (by omega)]
    exact wholeZ_eq (hs p hp).gl
  pos := fun p hp => by
    unfold matB
    rw [if_neg (by omega), if_neg (by omega)]
    have e := wholeZ_eq (hs p hp).gl
    have e0 : ((0 : Int) : Rat) = 0 := rfl
    rw [← Rat.intCast_le_intCast, e, e0]
    by_cases q : g p < 0
    · have h1 := (hs p hp).neg q
      have h2 : ((s p : Int) : Rat) < 0 := by rw [← e0]; exact Rat.intCast_lt_intCast.mpr h1
      have := Rat.mul_pos (show (0 : Rat) < -g p by grind) (show (0 : Rat) < -((s p : Int) : Rat) by grind)
      grind
    · have h1 := (hs p hp).pos q
      have h2 : (0 : Rat) < ((s p : Int) : Rat) := by rw [← e0]; exact Rat.intCast_lt_intCast.mpr h1
      exact Rat.mul_nonneg (by grind) (Rat.le_of_lt h2)
theorem divInt_dn {x y : Int} (h : 0 < y) : Dn y.natAbs (Rat.divInt x y) := ⟨x, by
  have e : (y.natAbs : Rat) = (y : Rat) := by rw [← Rat.intCast_natCast]; congr 1; omega
  have e0 : ((0 : Int) : Rat) = 0 := rfl
  rw [Rat.divInt_eq_div, e, Rat.div_mul_cancel (fun z => by
    rw [← e0] at z
    have := Rat.intCast_inj.mp z
    omega)]⟩
theorem divInt_abs {x y : Int} {B : Nat} (h : 0 < y) (hx : x.natAbs ≤ B) : -(B : Rat) ≤ Rat.divInt x y ∧ Rat.divInt x y ≤ (B : Rat) := by
  obtain ⟨k, e⟩ := divInt_dn (x := x) h
  have ey : (y.natAbs : Rat) = (y : Rat) := by rw [← Rat.intCast_natCast]; congr 1; omega
  have e0 : ((0 : Int) : Rat) = 0 := rfl
  have ov : Ov y.natAbs B (Rat.divInt x y) := by
    refine ⟨x, ?_, hx⟩
    rw [Rat.divInt_eq_div, ey, Rat.div_mul_cancel (fun z => by
      rw [← e0] at z
      have := Rat.intCast_inj.mp z
      omega)]
  exact ov.val (by omega)
theorem sh_ok (k : BalOk n m cs g D V) (hs : ∀ p, p < m → ScOk n cs g D p (s p)) (I : Inv0 m n (matB n m cs g s) b) (hz : costZ m n (matB n m cs g s) b (n + m) = 0) : ShOk n m cs g (detB (V * D) m) (shF m n (matB n m cs g s) b m) := by
  have hM := matB_bound k hs
  have hb := by_bound (b := b) hM I.lt
  have p0 := I.pos
  refine ⟨fun j hj => ?_, fun p hp => shares_right (bal_of k hs) I hz hp, (byZ m (matB n m cs g s) b).natAbs, by omega, hb, fun j hj => ?_⟩
  · rcases shF_cases (m := m) (n := n) (A := matB n m cs g s) (b := b) m j with h | ⟨i, hi, h⟩
    · rw [h]; exact Rat.le_refl
    · rw [h, Rat.divInt_eq_div]
      exact div_nn p0 (I.feas i hi)
  · rcases shF_cases (m := m) (n := n) (A := matB n m cs g s) (b := b) m j with h | ⟨i, hi, h⟩
    · rw [h]
      exact ⟨⟨0, by rw [Rat.zero_mul] <;> rfl⟩, natR0 _⟩
    · rw [h]
      exact ⟨divInt_dn p0, (divInt_abs p0 (tab_bound (b := b) hM I.lt (i := i) (Nat.le_refl _))).2⟩
theorem wt_ok (k : BalOk n m cs g D V) (hs : ∀ p, p < m → ScOk n cs g D p (s p)) (I : Inv0 m n (matB n m cs g s) b) (hn : ∀ c, ¬ Coming m n (matB n m cs g s) b c) (hz : costZ m n (matB n m cs g s) b (n + m) ≠ 0) : WtOk n m cs g (detB (V * D) m) D (wtF m n (matB n m cs g s) s b) := by
  have hM := matB_bound k hs
  have hb := by_bound (b := b) hM I.lt
  have p0 := I.pos
  obtain ⟨m5, n7⟩ := k.ok.mn
  have m6 : (m + 1) * detB (V * D) m ≤ 6 * detB (V * D) m := Nat.mul_le_mul_right _ (by omega)
  obtain ⟨h1, h2⟩ := weights_right (bal_of k hs) I hn hz
  refine ⟨h1, h2, (byZ m (matB n m cs g s) b).natAbs, by omega, hb, fun p hp => ⟨divInt_dn p0, ?_⟩⟩
  refine divInt_abs p0 ?_
  rw [Int.natAbs_mul]
  have sD : (s p).natAbs ≤ D := Nat.le_of_dvd k.ok.D0 (hs p hp).dv
  have q := cost_bound (b := b) hM I.lt (j := n + p) (by omega)
  exact Nat.mul_le_mul (show (costZ m n (matB n m cs g s) b (n + p) - byZ m (matB n m cs g s) b).natAbs ≤ 7 * detB (V * D) m by omega) sD
end
end
end Tk
end
section
set_option Elab.async false
set_option linter.all false
set_option maxRecDepth 100000
set_option maxHeartbeats 4000000
set_option exponentiation.threshold 10000
namespace Tk
open PySem PySem.Spec PyProof.Rows L2
section
variable {n : Nat} {sv pr pb cv v : V} {by_ i : Int}
theorem lk_coming : (lF n sv pr pb by_ cv).lookup ("coming" : Str) = none := by kernel_rfl
theorem lk_going : (lF n sv pr pb by_ cv).lookup ("going" : Str) = none := by kernel_rfl
theorem lk_exchange : (lF n sv pr pb by_ cv).lookup ("exchange" : Str) = none := by kernel_rfl
theorem lk_shares : (lF n sv pr pb by_ cv).lookup ("shares_told" : Str) = none := by kernel_rfl
theorem lk_weights : (lF n sv pr pb by_ cv).lookup ("weights_told" : Str) = none := by kernel_rfl
end
section
variable {K : PySem.W.Frag} {C a dx pr pb : Addr} {F H : Hp} {n m : Nat} {A : Mat} {s : Nat → Int} {b : Nat → Nat}
/-- the whole object, as if it stood still -/
theorem LR.full (L : LRep K C F H a dx pr pb n m A s b) : ∃ sv cv Fp, H a = some (.ins C dx (lF n sv (.ref pr) (.ref pb) (byZ m A b) cv)) ∧ Same F Fp ∧ Same Fp H ∧ (∀ q, H q = none → Fp q = none) ∧ (∀ q, F q = none → q ≠ pr → q ≠ pb → Fp q = none) ∧
    ∀ x d, (linesF n m A s b).lookup x = some d → ∃ v, (lF n sv (.ref pr) (.ref pb) (byZ m A b) cv).lookup x = some v ∧ DD K Fp v d := by
  obtain ⟨⟨sv, cv, h1, h2, h3⟩, ⟨rv, h4, h5⟩, ⟨bv, h6, h7⟩, fa, fr, fb, ne, sub⟩ := L
  have s1 : Same F (upd F pr (.lst rv)) := same_new fr
  have e2 : (upd F pr (.lst rv)) pb = none := by rw [upd_ne (fun z => ne z.symm)]; exact fb
  have s2 : Same (upd F pr (.lst rv)) (upd (upd F pr (.lst rv)) pb (.lst bv)) := same_new e2
  have s3 : Same (upd (upd F pr (.lst rv)) pb (.lst bv)) H := fun q x e => by
    by_cases z : q = pb
    · rw [z, upd_same] at e
      cases e
      rw [z]
      exact h6
    · rw [upd_ne z] at e
      by_cases z2 : q = pr
      · rw [z2, upd_same] at e
        cases e
        rw [z2]
        exact h4
      · rw [upd_ne z2] at e
        exact sub q x e
  refine ⟨sv, cv, upd (upd F pr (.lst rv)) pb (.lst bv), h1, s1.trans s2, s3, fun q h => s3.free h, fun q h z1 z2 => by rw [upd_ne z2, upd_ne z1]; exact h, ?_⟩
  exact view_cons lk_many (.int _) (view_cons lk_scales (h2.mono (s1.trans s2)) (view_cons lk_rows (.lst ((upd_ne ne).trans upd_same) (h5.mono (s1.trans s2))) (view_cons lk_base (.lst upd_same (h7.mono (s1.trans s2))) (view_cons lk_by (.int _) (view_cons lk_costs (h3.mono (s1.trans s2)) view_nil)))))
/-- back from a call that saw the whole object -/
theorem gr_back {Fp F1 H1 : Hp} (s : Same F Fp) (g : Gr Fp H F1 H1) : Gr F H F H1 := ⟨g.hh, Same.refl F, (s.trans g.ff).trans g.fh, fun _ h _ => h⟩
end
def oV : Option Nat → V
  | none => .non
  | some c => .int (c : Nat)
theorem optN_v {K : PySem.W.Frag} {F : Hp} {v : V} {o : Option Nat} (h : DD K F v (optN o)) : v = oV o := by
  cases o with
  | none => cases h; rfl
  | some c => cases h; rfl
abbrev strS : Str := "shares"
abbrev strW : Str := "weights"
def spBal (K : PySem.W.Frag) : Sp := fun vs H Q _ => ∃ (F : Hp) (cv gv : V) (n m : Nat) (cs : Nat → Nat → Rat) (g : Nat → Rat) (D V : Nat),
  vs = [cv, gv] ∧ Same F H ∧ DD K F cv (.list (mapD n fun j => vD m (cs j))) ∧ DD K F gv (vD m g) ∧ BalOk n m cs g D V ∧
  (∀ x t px F' H', ShOk n m cs g (detB (V * D) m) x → Gr F H F' H' → H' t = some (.tup [.str strS, .ref px]) → DD K F' (.ref px) (vD n x) → Q (.ref t) H') ∧
  (∀ x t px F' H', WtOk n m cs g (detB (V * D) m) D x → Gr F H F' H' → H' t = some (.tup [.str strW, .ref px]) → H px = none → DD K F' (.ref px) (vD m x) → Q (.ref t) H')
theorem sc_balance : FnScope ["columns", "goal", "lines", "column"] ["columns", "goal"] (defScope (top 29)) := ⟨rfl, rfl, rfl, by decide +kernel, rfl, by decide +kernel, by decide +kernel⟩
def ComeO (m n : Nat) (A : Mat) (b : Nat → Nat) : Option Nat → Prop
  | none => ∀ c, ¬ Coming m n A b c
  | some c => Coming m n A b c
theorem gr_fr3 {F0 H0 F H F' H' : Hp} {a pr pb : Addr} (g : Gr F0 H0 F H) (x : Fr3 F H F' H' a pr pb) (ha : H0 a = none) (hr : H0 pr = none) (hb : H0 pb = none) (s : Same F' H') : Gr F0 H0 F' H' :=
  ⟨fun q o e => x.kp q o (g.hh q o e) (fun z => by rw [z, ha] at e; cases e) (fun z => by rw [z, hr] at e; cases e) (fun z => by rw [z, hb] at e; cases e), g.ff.trans x.ff, s, fun q h n => x.nw q (g.nw q h n) fun z => n (g.hh.free z)⟩
theorem gr_full {F0 H0 F H Fp F' H' : Hp} {pr pb : Addr} (g : Gr F0 H0 F H) (s1 : Same F Fp) (hn : ∀ q, F q = none → q ≠ pr → q ≠ pb → Fp q = none) (k : Gr Fp H F' H') (hr : H0 pr = none) (hb : H0 pb = none) : Gr F0 H0 F' H' :=
  ⟨g.hh.trans k.hh, g.ff.trans (s1.trans k.ff), k.fh, fun q h n => k.nw q (hn q (g.nw q h n) (fun z => n (z ▸ hr)) (fun z => n (z ▸ hb))) fun z => n (g.hh.free z)⟩
theorem dd_list {K : PySem.W.Frag} {F : Hp} {v : V} {ds : List PyData} (h : DD K F v (.list ds)) : ∃ p, v = .ref p := by
  obtain ⟨p, vs, e, _⟩ := h.list_v
  exact ⟨p, e⟩
section
variable {P : Program} {w : World} {K : PySem.W.Frag} {mg : Str → Option Value} {base : Heap} {f CL : Addr} {fd : FuncData}
theorem ok_balance (F : FnT K "balance" (top 29) f fd) (T : LT K mg CL) (B : Bt mg) (MI : C8.Mak P w K mg base 3 "Lines" CL (spI K CL) []) (MC : C8.Met P w K mg base 1 CL "coming" (spO K CL RComing) []) (MG : C8.Met P w K mg base 1 CL "going" (spO K CL RGoing) [])
    (MX : C8.Met P w K mg base 2 CL "exchange" (spX K CL) []) (MS : C8.Met P w K mg base 3 CL "shares_told" (spO K CL RSharesTold) []) (MW : C8.Met P w K mg base 3 CL "weights_told" (spOn K CL RWeightsTold) []) : FnOk P w K mg base CX0 6 f fd ["columns", "goal"] (spBal K) := by
  have nd := sc_balance.nd
  refine F.ok sc_balance (fun vs H Q E h => ?_) (fun cdv A0 outer s0 H vs Q E hr h => ?_)
  · obtain ⟨F', cv, gv, n, m, cs, g, D, V, rfl, _⟩ := h
    rfl
  obtain ⟨Fb, cv, gv, n, m, cs, g, D, V, rfl, sub, hcv, hgv, bok, hQ1, hQ2⟩ := h
  have m5 := bok.ok.mn.1
  refine ⟨_, PSs.nox (pss_cons (ps_set (i := 2) nd rfl (Or.inl rfl) (C8.pe_mk MI hr (by decide) rfl (pa_cons (pv 0) (pa_cons (pv 1) pa_nil))))
    (pss_cons (ps_set (i := 3) nd rfl (Or.inl rfl) (C8.pe_mt0 MC hr (by decide) (pv 2)))
    (pss_cons (ps_while PassesOwn.never (st_notN (sv 3)).p
      (pss_cons (ps_expr (C8.pe_mt MX hr (by decide) (pv 2) (pa_cons (C8.pe_mt MG hr (by decide) (pv 2) (pa_cons (pv 3) pa_nil)) (pa_cons (pv 3) pa_nil))))
      (pss_one (ps_set (i := 3) nd rfl (Or.inl rfl) (C8.pe_mt0 MC hr (by decide) (pv 2))))))
    (pss_cons (ps_if (pt_cmpR op_eq (pe_ix ix_list (pe_fld (pv 2) rfl) (se_neg se_int).p (fun _ _ => rfl)) pe_int (nomark _))
      (pss_one (ps_ret (pe_tup (pa_cons pe_str (pa_cons (C8.pe_mt0 MS hr (by decide) (pv 2)) pa_nil))))) pss_nil)
    (pss_one (ps_ret (pe_tup (pa_cons pe_str (pa_cons (C8.pe_mt0 MW hr (by decide) (pv 2)) pa_nil))))))))), ?_⟩
  refine go_seq ⟨_, rfl, _, rfl, fun x dx hx hdx nex => ?_⟩
  have s1 : Same H (upd (upd H dx (.own x)) x (.ins CL dx [])) := (same_new hdx).trans (same_new ((upd_ne (fun z => nex z.symm)).trans hx))
  refine ⟨Fb, x, dx, cv, gv, n, m, cs, g, D, rfl, upd_same, sub.free hx, sub.trans s1, hcv, hgv, bok.ok, fun F1 H2 pr pb s hsc L fr1 hpr0 hpb0 => ⟨rfl, ?_⟩⟩
  have hpr : H pr = none := s1.free hpr0
  have hpb : H pb = none := s1.free hpb0
  have BA := bal_of bok hsc
  have I0 := first_inv BA.spare BA.pos
  obtain ⟨kE, hE⟩ := it_ends BA.spare BA.pos
  have gr2 : Gr Fb H F1 H2 := ⟨fun q o e => fr1.kp q o (s1 q o e) (fun z => by rw [z, hx] at e; cases e), fr1.ff, L.sub, fun q h n => fr1.nw q h fun z => n (s1.free z)⟩
  have come : ∀ (b : Nat → Nat) (F' H' : Hp) (σ' : L2.St) (Qv : VK), LRep K CL F' H' x dx pr pb n m (matB n m cs g s) s b → Inv0 m n (matB n m cs g s) b → σ'[2]? = some (some (.ref x)) → (∀ o H'', ComeO m n (matB n m cs g s) b o → Gr F' H' F' H'' → Qv (oV o) H'') → tMeth CL "coming" (spO K CL RComing) [] E0 (tVar 2) tNil σ' H' Qv := by
    intro b F' H' σ' Qv L I e k
    obtain ⟨sv, cv', Fp, h1, s1, s2, _, _, vw⟩ := L.full
    refine ⟨_, e, x, dx, _, rfl, h1, lk_coming, Fp, x, dx, _, linesF n m (matB n m cs g s) s b, [], [], (fun d => ∃ o, ComeO m n (matB n m cs g s) b o ∧ d = optN o), rfl, s2, h1, vw, .nil, ⟨n, m, matB n m cs g s, s, b, rfl, rfl, szl_of bok hsc I, fun c hc => ⟨some c, hc, rfl⟩, fun hn => ⟨none, hn, rfl⟩⟩, fun d v F1 H1 hd g1 dv => ?_⟩
    obtain ⟨o, ho, rfl⟩ := hd
    rw [optN_v dv]
    exact k o H1 ho (gr_back s1 g1)
  refine go_seq (come _ F1 H2 _ _ L I0 rfl fun o H3 ho g3 => ?_)
  refine go_seq ?_
  refine ⟨fun k σ' H' => ∃ i o F', k = kE - i ∧ i ≤ kE ∧ σ' = [some cv, some gv, some (.ref x), some (oV o)] ∧ LRep K CL F' H' x dx pr pb n m (matB n m cs g s) s (iterB m n (matB n m cs g s) i) ∧ Inv0 m n (matB n m cs g s) (iterB m n (matB n m cs g s) i) ∧ Gr Fb H F' H' ∧ ComeO m n (matB n m cs g s) (iterB m n (matB n m cs g s) i) o, ⟨kE, 0, o, F1, rfl, Nat.zero_le _, rfl, L.gr g3, I0, gr2.trans g3, ho⟩, ?_⟩
  rintro k σ' H' ⟨i, o, F', rfl, hi, rfl, L', I', gr', ho'⟩
  obtain ⟨sv, cv', Fp, h1, t1, t2, _, t4, vw⟩ := L'.full
  have Z := szl_of bok hsc I'
  refine ⟨_, rfl, rfl, _, rfl, ?_⟩
  cases o with
  | some c =>
    refine iteT ?_
    have hc : Coming m n (matB n m cs g s) (iterB m n (matB n m cs g s) i) c := ho'
    have hik : i < kE := by
      refine Classical.byContradiction fun z => ?_
      have : i = kE := by omega
      exact hE c (this ▸ hc)
    refine ⟨fun σ' H' => ∃ i2 o F', kE - (i + 1) = kE - i2 ∧ i2 ≤ kE ∧ σ' = [some cv, some gv, some (.ref x), some (oV o)] ∧ LRep K CL F' H' x dx pr pb n m (matB n m cs g s) s (iterB m n (matB n m cs g s) i2) ∧ Inv0 m n (matB n m cs g s) (iterB m n (matB n m cs g s) i2) ∧ Gr Fb H F' H' ∧ ComeO m n (matB n m cs g s) (iterB m n (matB n m cs g s) i2) o, fun σ' H' q => ⟨kE - (i + 1), by omega, q⟩, ?_⟩
    refine go_seq (go_drop ⟨_, rfl, x, dx, _, rfl, h1, lk_exchange, ?_⟩)
    refine go_cons ⟨_, rfl, x, dx, _, rfl, h1, lk_going, _, rfl, Fp, x, dx, _, linesF n m (matB n m cs g s) s (iterB m n (matB n m cs g s) i), _, [.int (c : Nat)], (fun d => ∃ o, GoneTo m n (matB n m cs g s) (iterB m n (matB n m cs g s) i) c m o ∧ d = optN o), rfl, t2, h1, vw, .cons (.int _) .nil, ⟨n, m, matB n m cs g s, s, _, c, rfl, rfl, hc.1, Z, fun o ho => ⟨o, ho, rfl⟩⟩, fun d v F3 H3 hd g3 dv => ?_⟩
    obtain ⟨o2, ho2, rfl⟩ := hd
    rw [optN_v dv]
    obtain ⟨r, rfl, hg⟩ := going_of I' hc ho2
    have gb := gr_back t1 g3
    refine ⟨_, rfl, F', x, dx, pr, pb, n, m, matB n m cs g s, s, _, r, c, rfl, L'.gr gb, I', Z, hg.1, hc.1, fun F4 H4 L4 fr4 => ?_⟩
    have e : iterB m n (matB n m cs g s) (i + 1) = upB (iterB m n (matB n m cs g s) i) r c := step_is I' hc hg
    have I4 := inv_up I' hc.1 hg
    rw [← e] at L4 I4
    have gr4 := gr_fr3 (gr'.trans gb) fr4 hx hpr hpb L4.sub
    refine come _ F4 H4 _ _ L4 I4 rfl fun o5 H5 ho5 g5 => ?_
    exact ⟨i + 1, o5, F4, rfl, by omega, rfl, L4.gr g5, I4, gr4.trans g5, ho5⟩
  | none =>
    refine iteF ?_
    have hn : ∀ c, ¬ Coming m n (matB n m cs g s) (iterB m n (matB n m cs g s) i) c := ho'
    obtain ⟨sv2, cv2, q1, q2, q3⟩ := L'.obj
    obtain ⟨pc, ws, rfl, fq, hws⟩ := q3.list_v
    obtain ⟨vc, hvc, dvc⟩ := atI_DDs hws atI_last
    have evc := dvc.int_v
    subst evc
    refine go_seq ⟨_, rfl, x, CL, dx, _, _, rfl, q1, T.cl, T.n_costs, lk_costs, 1, rfl, pc, ws, _, _, rfl, rfl, SqL.of (L'.sub _ _ fq), hvc, rfl, _, rfl, ?_⟩
    by_cases hz : costZ m n (matB n m cs g s) (iterB m n (matB n m cs g s) i) (n + m) = 0
    · rw [decide_eq_true (congrArg L2.V.int hz)]
      refine iteT ?_
      refine ⟨_, rfl, x, dx, _, rfl, h1, lk_shares, Fp, x, dx, _, linesF n m (matB n m cs g s) s (iterB m n (matB n m cs g s) i), [], [], (fun d => d = vD n (shF m n (matB n m cs g s) (iterB m n (matB n m cs g s) i) m)), rfl, t2, h1, vw, .nil, ⟨n, m, matB n m cs g s, s, _, rfl, rfl, Z, rfl⟩, fun d v F5 H5 hd g5 dv => ?_⟩
      subst hd
      obtain ⟨px, rfl⟩ := dd_list dv
      refine ⟨by show (2 : Nat) ≤ sizeLine; decide, fun t ht => ?_⟩
      exact hQ1 _ t px F5 _ (sh_ok bok hsc I' hz) ((gr_full gr' t1 t4 g5 hpr hpb).trans (Gr.laid g5.fh ht)) upd_same dv
    · rw [decide_eq_false (fun z => hz (by injection z))]
      refine iteF ?_
      refine ⟨_, rfl, x, dx, _, rfl, h1, lk_weights, Fp, x, dx, _, linesF n m (matB n m cs g s) s (iterB m n (matB n m cs g s) i), [], [], (fun d => d = vD m (wtF m n (matB n m cs g s) s (iterB m n (matB n m cs g s) i))), rfl, t2, h1, vw, .nil, ⟨n, m, matB n m cs g s, s, _, rfl, rfl, Z, rfl⟩, fun d px F5 H5 hd g5 dv hnew => ?_⟩
      subst hd
      refine ⟨by show (2 : Nat) ≤ sizeLine; decide, fun t ht => ?_⟩
      exact hQ2 _ t px F5 _ (wt_ok bok hsc I' hn hz) ((gr_full gr' t1 t4 g5 hpr hpb).trans (Gr.laid g5.fh ht)) upd_same (gr'.hh.free hnew) dv
end
end Tk
end
section
set_option Elab.async false
set_option linter.all false
set_option maxRecDepth 100000
set_option maxHeartbeats 4000000
set_option exponentiation.threshold 10000
namespace Tk
open PySem PySem.Spec PyProof.Rows L2
/-! ### shares put down by deed -/
def partsK (fs : List Nat) (x : Nat → Rat) : Nat → Nat → Rat
  | 0 => fun _ => 0
  | k + 1 => updN (partsK fs x k) (fs.getD k 0) (x k)
theorem partsK_cases (fs : List Nat) (x : Nat → Rat) (j : Nat) : ∀ k, k ≤ fs.length → (partsK fs x k j = 0 ∧ j ∉ fs.take k) ∨ ∃ i, i < k ∧ fs[i]? = some j ∧ partsK fs x k j = x i ∨ False
  | 0, _ => .inl ⟨rfl, by simp⟩
  | k + 1, hk => by
    have e := List.getElem?_eq_getElem (show k < fs.length from hk)
    have eg : fs.getD k 0 = fs[k] := by rw [List.getD_eq_getElem?_getD, e]; rfl
    show (updN (partsK fs x k) (fs.getD k 0) (x k) j = 0 ∧ _) ∨ _
    by_cases q : j = fs.getD k 0
    · refine .inr ⟨k, .inl ⟨by omega, by rw [e, ← eg, ← q], ?_⟩⟩
      show updN (partsK fs x k) (fs.getD k 0) (x k) j = x k
      rw [q, updN_same]
    · rcases partsK_cases fs x j k (by omega) with ⟨h1, h2⟩ | ⟨i, h⟩
      · refine .inl ⟨by rw [updN_ne q]; exact h1, ?_⟩
        rw [take_next e]
        intro z
        rcases List.mem_append.mp z with z | z
        · exact h2 z
        · have : j = fs[k] := by simpa using z
          exact q (by rw [eg]; exact this)
      · rcases h with ⟨hi, h1, h2⟩ | h
        · refine .inr ⟨i, .inl ⟨by omega, h1, ?_⟩⟩
          show updN (partsK fs x k) (fs.getD k 0) (x k) j = x i
          rw [updN_ne q]
          exact h2
        · exact h.elim
theorem partsK_sum {fs : List Nat} {x : Nat → Rat} {n : Nat} (y : Nat → Rat) (nd : fs.Nodup) (lt : ∀ j ∈ fs, j < n) : ∀ k, k ≤ fs.length → sumN (fun j => partsK fs x k j * y j) n = sumN (fun i => x i * y (fs.getD i 0)) k
  | 0, _ => by
    show sumN (fun j => (0 : Rat) * y j) n = 0
    have e : (fun j => (0 : Rat) * y j) = fun _ => 0 := by
      funext j
      exact Rat.zero_mul _
    rw [e, sumN_zero]
  | k + 1, hk => by
    have e := List.getElem?_eq_getElem (show k < fs.length from hk)
    have eg : fs.getD k 0 = fs[k] := by rw [List.getD_eq_getElem?_getD, e]; rfl
    have ih := partsK_sum (x := x) y nd lt k (by omega)
    have h0 : partsK fs x k (fs.getD k 0) = 0 := by
      rcases partsK_cases fs x (fs.getD k 0) k (by omega) with ⟨h1, _⟩ | ⟨i, ⟨hi, h1, _⟩ | h⟩
      · exact h1
      · exfalso
        rw [eg, ← e] at h1
        have := (List.getElem?_inj (show i < fs.length by omega) nd).mp h1
        omega
      · exact h.elim
    show sumN (fun j => updN (partsK fs x k) (fs.getD k 0) (x k) j * y j) n = sumN (fun i => x i * y (fs.getD i 0)) k + x k * y (fs.getD k 0)
    rw [sumN_upd h0, ih, if_pos (by rw [eg]; exact lt _ (mem_at e))]
/-! ### what a look tells -/
abbrev D0 : Nat := DA * 27720
abbrev VB : Nat := 2 ^ 60
def BS : Nat := detB (VB * D0) 5
theorem detB_le {m : Nat} (h : m ≤ 5) : detB (VB * D0) m ≤ BS := by
  unfold BS
  match m, h with
  | 0, _ => decide +kernel
  | 1, _ => decide +kernel
  | 2, _ => decide +kernel
  | 3, _ => decide +kernel
  | 4, _ => decide +kernel
  | 5, _ => decide +kernel
theorem BS_le : BS ≤ 2 ^ 522 := by
  unfold BS
  decide +kernel
structure EOk (N : Net) (b : Nat → Rat) : Prop where
  nn : ∀ p, p < N.many → 0 ≤ b p
  up : ∀ p, p < N.many → b p ≤ ((2 ^ 60 : Nat) : Rat)
  dn : ∀ p, p < N.many → Dn D0 (b p)
structure NearOk (N : Net) (b e : Nat → Rat) (fs : List Nat) (parts : Nat → Rat) : Prop where
  nn : ∀ j, j < N.deeds.length → 0 ≤ parts j
  out : ∀ j, j < N.deeds.length → j ∉ fs → parts j = 0
  eq : ∀ p, p < N.many → b p + cby N parts N.deeds.length p = e p
  sz : ∃ D, 0 < D ∧ D ≤ 2 ^ 522 ∧ ∀ j, j < N.deeds.length → Dn D (parts j) ∧ parts j ≤ ((2 ^ 522 : Nat) : Rat)
structure FarOk (N : Net) (b e : Nat → Rat) (fs : List Nat) (w : Nat → Rat) : Prop where
  nn : ∀ j, j ∈ fs → 0 ≤ sumN (fun p => w p * chg (deedAt N j) p) N.many
  neg : sumN (fun p => w p * (e p - b p)) N.many < 0
  sz : ∃ D, 0 < D ∧ D ≤ 2 ^ 522 ∧ ∀ p, p < N.many → Dn D (w p) ∧ -((2 ^ 570 : Nat) : Rat) ≤ w p ∧ w p ≤ ((2 ^ 570 : Nat) : Rat)
section
variable {N : Net} {b e : Nat → Rat} {ws fs : List Nat}
theorem CanBe.lt (c : CanBe N b ws fs) : ∀ j ∈ fs, j < N.deeds.length := fun j hj => by
  obtain ⟨gs, r, _, h, _⟩ := c.ex
  exact r.lt j ((h j).mp hj)
theorem CanBe.nd (c : CanBe N b ws fs) : fs.Nodup := nodup_of c.sf
theorem CanBe.len (c : CanBe N b ws fs) : fs.length ≤ N.deeds.length := by
  have q := List.Nodup.length_le_of_subset c.nd (show fs ⊆ List.range N.deeds.length from fun j hj => List.mem_range.mpr (c.lt j hj))
  rw [List.length_range] at q
  exact q
theorem CanBe.wlt (o : OkNet N) (c : CanBe N b ws fs) : ∀ p ∈ ws, p < N.many := fun p hp => by
  obtain ⟨gs, r, _, _, h⟩ := c.ex
  rcases (h p).mp hp with q | ⟨j, hj, q⟩
  · exact q.1
  · obtain ⟨e, he, rfl⟩ := List.mem_map.mp q
    exact ((o.deed (deedAt_of (r.lt j hj))).2.1 e he).1
theorem Ov.val2 {D B V : Nat} {x : Rat} (hD : 0 < D) (h : Ov D B x) (hB : B ≤ V * D) : x ≤ (V : Rat) := by
  obtain ⟨k, e, hk⟩ := h
  refine Classical.byContradiction fun z => ?_
  have z : (V : Rat) < x := Rat.not_le.mp z
  have q := (Rat.mul_lt_mul_left (natRp hD)).mpr z
  have k1 : (k : Rat) ≤ ((V * D : Nat) : Rat) := by
    rw [← Rat.intCast_natCast, Rat.intCast_le_intCast]
    omega
  rw [Rat.natCast_mul] at k1
  grind
theorem amt_le41 {n : Nat} {s : Side} (o : OkSide n s) (p : Nat) : amt s p ≤ ((2 ^ 41 : Nat) : Rat) := (amt_ovA o p).val2 (by decide) (by decide +kernel)
theorem chg_dn (o : OkNet N) {j : Nat} (h : j < N.deeds.length) (p : Nat) : Dn DA (chg (deedAt N j) p) ∧ -((2 ^ 41 : Nat) : Rat) ≤ chg (deedAt N j) p ∧ chg (deedAt N j) p ≤ ((2 ^ 41 : Nat) : Rat) := by
  obtain ⟨o1, o2⟩ := o.deed (deedAt_of h)
  have a1 := amt_nn o1 p
  have a2 := amt_nn o2 p
  have b1 := amt_le41 o1 p
  have b2 := amt_le41 o2 p
  refine ⟨(amt_dn o2 p).sub (amt_dn o1 p), ?_, ?_⟩
  · show -((2 ^ 41 : Nat) : Rat) ≤ amt _ p - amt _ p
    grind
  · show amt _ p - amt _ p ≤ ((2 ^ 41 : Nat) : Rat)
    grind
theorem dn_den {D : Nat} {x : Rat} (hD : 0 < D) (h : Dn D x) : x.den ∣ D := by
  obtain ⟨k, e⟩ := h
  exact (Ov.den (B := k.natAbs) hD ⟨k, e, Nat.le_refl _⟩).1
theorem diff_ok (hb : EOk N b) (he : EOk N e) {p : Nat} (hp : p < N.many) : Dn D0 (e p - b p) ∧ -((2 ^ 60 : Nat) : Rat) ≤ e p - b p ∧ e p - b p ≤ ((2 ^ 60 : Nat) : Rat) := by
  have h1 := hb.nn p hp
  have h2 := he.nn p hp
  have h3 := hb.up p hp
  have h4 := he.up p hp
  exact ⟨(he.dn p hp).sub (hb.dn p hp), by grind, by grind⟩
theorem bal_ends (o : OkNet N) (hb : EOk N b) (he : EOk N e) (c : CanBe N b ws fs) : BalOk fs.length N.many (fun i => chg (deedAt N (fs.getD i 0))) (fun p => e p - b p) D0 VB := by
  have l5 := o.2.1
  have l7 := o.2.2.1
  have lf := c.len
  have hj : ∀ i, i < fs.length → fs.getD i 0 < N.deeds.length := fun i hi => by
    have q := List.getElem?_eq_getElem hi
    rw [List.getD_eq_getElem?_getD, q]
    exact c.lt _ (mem_at q)
  have c60 : ((2 ^ 60 : Nat) : Rat) ≤ (VB : Rat) := natR.mpr (by decide +kernel)
  refine ⟨⟨⟨l5, by omega⟩, by decide +kernel, by decide +kernel, fun i p hi hp => ?_, fun p hp => ?_⟩, by decide +kernel, fun i p hi hp => ?_, fun p hp => ?_, ?_⟩
  · obtain ⟨h1, h2, h3⟩ := chg_dn o (hj i hi) p
    have h4 : Dn D0 (chg (deedAt N (fs.getD i 0)) p) := h1.up
    exact ⟨h4.sm (by decide +kernel) h2 h3 (by decide +kernel) (by decide +kernel), dn_den (by decide +kernel) h4⟩
  · obtain ⟨h1, h2, h3⟩ := diff_ok hb he hp
    exact ⟨h1.sm (by decide +kernel) h2 h3 (by decide +kernel) (by decide +kernel), dn_den (by decide +kernel) h1⟩
  · have c41 : ((2 ^ 41 : Nat) : Rat) ≤ (VB : Rat) := natR.mpr (by decide +kernel)
    have h1 := (chg_dn o (hj i hi) p).2
    constructor
    · have := h1.1
      grind
    · have := h1.2
      grind
  · obtain ⟨h1, h2, h3⟩ := diff_ok hb he hp
    constructor
    · grind
    · grind
  · have h1 := detB_le l5
    have h2 := BS_le
    exact Nat.lt_of_le_of_lt (Nat.mul_le_mul_left 7 (Nat.le_trans h1 h2)) (by decide +kernel)
theorem near_of (o : OkNet N) (c : CanBe N b ws fs) {x : Nat → Rat} (h : ShOk fs.length N.many (fun i => chg (deedAt N (fs.getD i 0))) (fun p => e p - b p) (detB (VB * D0) N.many) x) : NearOk N b e fs (partsK fs x fs.length) := by
  have h1 := detB_le o.2.1
  have h2 := BS_le
  obtain ⟨D, d0, d1, hd⟩ := h.sz
  have hB : ((detB (VB * D0) N.many : Nat) : Rat) ≤ ((2 ^ 522 : Nat) : Rat) := natR.mpr (by omega)
  refine ⟨fun j hj => ?_, fun j hj hn => ?_, fun p hp => ?_, D, d0, by omega, fun j hj => ?_⟩
  · rcases partsK_cases fs x j fs.length (Nat.le_refl _) with ⟨q, _⟩ | ⟨i, ⟨hi, _, q⟩ | q⟩
    · rw [q]; exact Rat.le_refl
    · rw [q]; exact h.nn i hi
    · exact q.elim
  · rcases partsK_cases fs x j fs.length (Nat.le_refl _) with ⟨q, _⟩ | ⟨i, ⟨hi, q, _⟩ | q⟩
    · exact q
    · exact absurd (mem_at q) hn
    · exact q.elim
  · unfold cby
    rw [partsK_sum (x := x) (fun j => chg (deedAt N j) p) c.nd c.lt fs.length (Nat.le_refl _), h.eq p hp]
    grind
  · rcases partsK_cases fs x j fs.length (Nat.le_refl _) with ⟨q, _⟩ | ⟨i, ⟨hi, _, q⟩ | q⟩
    · rw [q]
      exact ⟨⟨0, by rw [Rat.zero_mul] <;> rfl⟩, natR0 _⟩
    · rw [q]
      exact ⟨(hd i hi).1, Rat.le_trans (hd i hi).2 hB⟩
    · exact q.elim
theorem far_of (o : OkNet N) (c : CanBe N b ws fs) {w : Nat → Rat} (h : WtOk fs.length N.many (fun i => chg (deedAt N (fs.getD i 0))) (fun p => e p - b p) (detB (VB * D0) N.many) D0 w) : FarOk N b e fs w := by
  have h1 := detB_le o.2.1
  have h2 := BS_le
  obtain ⟨D, d0, d1, hd⟩ := h.sz
  have h3 : 7 * detB (VB * D0) N.many * D0 ≤ 2 ^ 570 := by
    have q := Nat.mul_le_mul_right D0 (Nat.mul_le_mul_left 7 (Nat.le_trans h1 h2))
    exact Nat.le_trans q (by decide +kernel)
  have hB := natR.mpr h3
  refine ⟨fun j hj => ?_, h.neg, D, d0, by omega, fun p hp => ⟨(hd p hp).1, ?_, ?_⟩⟩
  · obtain ⟨i, hi⟩ := List.getElem?_of_mem hj
    have hl := lt_of_get hi
    have q := h.nn i hl
    rw [show fs.getD i 0 = j by rw [List.getD_eq_getElem?_getD, hi]; rfl] at q
    exact q
  · have := (hd p hp).2.1
    grind
  · have := (hd p hp).2.2
    grind
end
def retVal : Stmt → Expr
  | .Return (some e) _ => e
  | _ => .Constant .none 0 ⟨0, 0, 0, 0⟩
theorem sn_listR {X : Cx} {e : Expr} {te : TE} {ae : AE} {p p2 pos pos2 : Pos} (hm : X.mg "list" = none) (hm2 : X.mg "range" = none) (hc : X.calm = true) (ha : SE X e te ae) (hg : Gl X "list" := by rfl) (hg2 : Gl X "range" := by rfl) (h1 : starEach [e] X.env = (false, eval e X.env) :: starEach [] X.env := by rfl)
    (h3 : starEach [.Call (.Name "range" p2) [e] [] pos2] X.env = (false, eval (.Call (.Name "range" p2) [e] [] pos2) X.env) :: starEach [] X.env := by rfl) :
    SN X (.Call (.Name "list" p) [.Call (.Name "range" p2) [e] [] pos2] [] pos) (tLstRg (tRg1 te)) (aListRg ae) :=
  ⟨pe_listRg hc hg hm (prg_1 hg2 hm2 ha.p h1) h3, fun M F0 H0 A σ F H Qd Q rp h k => by
    refine ha.s M F0 H0 A σ F H _ _ rp h fun d v A1 F1 H1 h1 e1 d1 => ?_
    obtain ⟨n, rfl, hn, q⟩ := h1
    refine ⟨(n : Int), d1.int_v, RgOk.of_le (by omega) (by omega) (by omega) (by omega), fun p hp => ?_⟩
    exact k _ p _ A1 F1 _ q (e1.trans (Ev.laid e1.rp hp)) (e1.hn hp) (e1.rp.sub.free hp) upd_same (DDs.rg n)⟩
def callArgs : Expr → List Expr
  | .Call _ es _ _ => es
  | _ => []
def ifRet : Stmt → Expr
  | .If _ (.Return (some e) _ :: _) _ _ => e
  | _ => .Constant .none 0 ⟨0, 0, 0, 0⟩
def tupAt : Expr → Nat → Expr
  | .Tuple es _ _, i => es.getD i (.Constant .none 0 ⟨0, 0, 0, 0⟩)
  | _, _ => .Constant .none 0 ⟨0, 0, 0, 0⟩
theorem go_asg {te : TE} {g : TG} {D : Ends} {σ : L2.St} {H : Hp} (h : te σ H fun x H1 => g x σ H1 D.nx) : tAsg te g D σ H := h
theorem go_call {sp : Sp} {dvs : List V} {E : XK} {t : TA} {σ : L2.St} {H : Hp} {Q : VK} (h : t σ H fun vs H1 => sp (vs ++ dvs) H1 Q E) : tCall sp dvs E t σ H Q := h
theorem go_tup {t : TA} {σ : L2.St} {H : Hp} {Q : VK} (h : t σ H fun xs H1 => xs.length ≤ sizeLine ∧ ∀ p, H1 p = none → Q (.ref p) (upd H1 p (.tup xs))) : tTup t σ H Q := h
theorem go_c {v : V} {σ : L2.St} {H : Hp} {Q : VK} (h : Q v H) : tC v σ H Q := h
theorem go_ret {t : TE} {E : Ends} {σ : L2.St} {H : Hp} (h : t σ H E.rt) : tRet t E σ H := h
/-! ### near -/
abbrev strN : Str := "near"
abbrev strF : Str := "far"
theorem sa_now {K : PySem.W.Frag} {F H : Hp} {A : Sto} {σ : L2.St} {t : TA} {a : AL} (h : SoA K t a) (rp : Rp K (fun _ => False) F H A σ F H) (nm : ∀ p, ¬ MutA A σ p) {Qd : List PyData → Prop} {Q : List V → Hp → Prop} (hr : a A fun d _ => Qd d) (k : ∀ ds vs F1 H1, Qd ds → Gr F H F1 H1 → DDs K F1 vs ds → Q vs H1) : t σ H Q :=
  h _ F H A σ F H _ Q rp hr fun ds vs A1 F1 H1 q ev dd => k ds vs F1 H1 q ⟨fun a o z => ev.kp a o z (nm a), ev.ff, ev.rp.sub, fun a z n => ev.nw a z n (nm a)⟩ dd
def spNear (K : PySem.W.Frag) : Sp := fun vs H Q _ => ∃ (F : Hp) (nv bv ev : V) (N : Net) (b e : Nat → Rat), vs = [nv, bv, ev] ∧ Same F H ∧ DD K F nv (netD N) ∧ DD K F bv (vD N.many b) ∧ DD K F ev (vD N.many e) ∧ OkNet N ∧ EOk N b ∧ EOk N e ∧
  (∀ ws fs x v F' H', CanBe N b ws fs → NearOk N b e fs x → Gr F H F' H' → DD K F' v (pr (.str strN) (vD N.deeds.length x)) → Q v H') ∧
  (∀ ws fs x t pl pw F' H', CanBe N b ws fs → FarOk N b e fs x → Gr F H F' H' → H' t = some (.tup [.str strF, .ref pl, .ref pw]) → H t = none → H pl = none → H pw = none → pl ≠ pw → DD K F' (.ref pl) (natD ((List.range N.many).filter fun p => !decide (p ∈ ws))) → DD K F' (.ref pw) (vD N.many x) → Q (.ref t) H')
section
variable {P : Program} {w : World} {K : PySem.W.Frag} {mg : Str → Option Value} {base : Heap} {f CL : Addr} {fd : FuncData} {aN aO aT aH : Addr}
theorem ok_left_new (F : FnT K "left_out" (top 52) f fd) (B : Bt mg) : FnOk P w K mg base CX0 1 f fd ["many", "places"] (spDn K RLeftOut) := by
  have nd := sc_left_out.nd
  refine F.ok sc_left_out (fun vs H Q E h => ?_) (fun cdv A0 outer s0 H vs Q E hr h => ?_)
  · obtain ⟨F', ds, Pd, _, dd, ⟨n, l, rfl, _⟩, _⟩ := h
    exact dd.len
  obtain ⟨F', ds, Pd, sub, dd, ⟨n, l, rfl, hn, hQ⟩, k⟩ := h
  obtain ⟨v1, v2, rfl, d1, d2⟩ := dd.two
  have e1 : SN (cxOf CX0 P w K mg base ["many", "places", "place"] "left_out" (defScope (top 52)) f cdv A0 outer s0 H E).nox (retVal (sAt (defBody (top 52)) 0)) _ _ := sn_lc [("place", 2)] rfl nd (si_range B.range (sa_cons (sv 0) sa_nil)) (by kernel_rfl) (fun _ _ _ _ _ => by exact (sg_name 2 nd)) (fun _ _ _ _ _ => by exact (sts_one (st_notIn (sv 2) (sv 1)))) (fun _ _ _ _ _ => by exact (sv 2))
  refine ⟨_, PSs.nox (pss_one (ps_ret e1.p)), ?_⟩
  have z0 : Zs K F' [.fz (.int (n : Nat)), .fz (natD l), .no] (L2.start ["many", "places", "place"] [v1, v2]) := .fz d1 (.fz d2 (.no .nil))
  refine go_ret (sn_now e1.s (z0.rp sub) (plain_mut z0.plain) (Qd := fun ds => ds = natL ((List.range n).filter fun p => !decide (p ∈ l))) ?_ fun ds p vs F1 H1 hd g h0 f0 h1 dd => ?_)
  · refine ⟨_, rfl, n, rfl, hn, rfl, by rw [rgD_map, mapD_len]; exact hn, fun i => if !decide (i ∈ l) then some (.int (i : Nat)) else none, fun i d hd => ?_, ?_⟩
    · rw [rgD_map] at hd
      obtain ⟨hi, rfl⟩ := mapD_get hd
      refine ⟨_, rfl, _, rfl, i, l.map fun i : Nat => (i : Int), rfl, natD_ints l, _, rfl, rfl, ?_⟩
      rw [if_pos rfl, dec_ints]
      refine ite2 (fun hy => ?_) (fun hy => ?_)
      · refine ⟨_, rfl, rfl, ?_⟩
        dsimp only
        rw [if_pos hy]
      · dsimp only
        rw [if_neg hy]
    · rw [rgD_map, mapD_len, outs_filter fun i _ => rfl]
  · subst hd
    have s1 := same_new (o := .lst vs) f0
    refine k _ p (upd F1 p (.lst vs)) H1 hQ ⟨g.hh, g.ff.trans s1, fun q x e => ?_, fun q z n => by rw [upd_ne (fun y => n (by rw [y]; exact h0))]; exact g.nw q z n⟩ (.lst upd_same (dd.mono s1)) h0
    by_cases z : q = p
    · rw [z, upd_same] at e
      cases e
      rw [z]
      exact h1
    · rw [upd_ne z] at e
      exact g.fh q x e
abbrev nN : List Str := ["net", "begin", "end", "parts", "places", "able", "word", "told", "deed", "share"]
theorem sc_near : FnScope nN ["net", "begin", "end"] (defScope (top 58)) := ⟨rfl, rfl, rfl, by decide +kernel, rfl, by decide +kernel, by decide +kernel⟩
abbrev XN (P : Program) (w : World) (K : PySem.W.Frag) (mg : Str → Option Value) (base : Heap) (f : Addr) (cdv : Value) (A0 : Around) (outer : List Env) (s0 : Shared) (H : Hp) (E : XK) : Cx := (cxOf CX0 P w K mg base nN "near" (defScope (top 58)) f cdv A0 outer s0 H E).nox
theorem ok_near (F : FnT K "near" (top 58) f fd) (B : Bt mg) (C : Cst K mg aN aO aT aH) (g_can_be : Fn P w K mg base "can_be" 3 (spD K RCanBe)) (g_change_of : Fn P w K mg base "change_of" 4 (spD K RChangeOf)) (g_apart : Fn P w K mg base "apart" 4 (spD K (RV2 (· - ·)))) (g_balance : Fn P w K mg base "balance" 6 (spBal K)) (g_left_out : Fn P w K mg base "left_out" 1 (spDn K RLeftOut)) : FnOk P w K mg base CX0 7 f fd ["net", "begin", "end"] (spNear K) := by
  have nd := sc_near.nd
  refine F.ok sc_near (fun vs H Q E h => ?_) (fun cdv A0 outer s0 H vs Q E hr h => ?_)
  · obtain ⟨F', nv, bv, ev, N, b, e, rfl, _⟩ := h
    rfl
  obtain ⟨Fz, nv, bv, ev, N, b, e, rfl, sub, dn, db, de, o, hb, he, hQ1, hQ2⟩ := h
  have l5 := o.2.1
  have l7 := o.2.2.1
  have b0 : SS (XN P w K mg base f cdv A0 outer s0 H E) (sAt (defBody (top 58)) 0) _ _ := ss_asg (se_call g_can_be hr (sa_cons (sv 0) (sa_cons (sv 1) (sa_cons (se_ofN (sn_listR B.list B.range rfl (se_len B.len (se_ixT (sv 0) se_int)))) sa_nil)))) (sg_two 4 5 rfl nd (sg_name 4 nd) (sg_name 5 nd))
  have a1 : SA (XN P w K mg base f cdv A0 outer s0 H E) (callArgs (asgVal (sAt (defBody (top 58)) 1))) _ _ := sa_cons (se_ofN (sn_lc [("deed", 8)] rfl nd (si_list (sv 5)) (by kernel_rfl) (fun _ _ _ _ _ => by exact (sg_name 8 nd)) (fun _ _ _ _ _ => by exact sts_nil) (fun _ _ _ _ _ => by exact (se_call g_change_of hr (sa_cons (sv 0) (sa_cons (sv 8) sa_nil)))))) (sa_cons (se_call g_apart hr (sa_cons (sv 2) (sa_cons (sv 1) sa_nil))) sa_nil)
  have a20 : SE (XN P w K mg base f cdv A0 outer s0 H E) ((callArgs (tupAt (ifRet (sAt (defBody (top 58)) 2)) 1)).getD 0 (.Constant .none 0 ⟨0, 0, 0, 0⟩)) _ _ := se_ixT (sv 0) se_int
  have a2 : SA (XN P w K mg base f cdv A0 outer s0 H E) (callArgs (tupAt (ifRet (sAt (defBody (top 58)) 2)) 1)) _ _ := sa_cons a20 (sa_cons (sv 4) sa_nil)
  have b3 : SSs (XN P w K mg base f cdv A0 outer s0 H E) [sAt (defBody (top 58)) 3, sAt (defBody (top 58)) 4, sAt (defBody (top 58)) 5] _ _ := sss_cons (ss_setN 3 nd (sn_rep (se_lst (sa_cons C.NOUGHT sa_nil)) (se_len B.len (se_ixT (sv 0) se_int))))
    (sss_cons (ss_for rfl PassesOwn.never (si_zip B.zip (sa_cons (sv 5) (sa_cons (sv 7) sa_nil))) (sg_two 8 9 rfl nd (sg_name 8 nd) (sg_name 9 nd)) (sss_one (ss_setIx 3 (sv 9) (sv 8))))
    (sss_one (ss_ret (se_tup (sa_cons se_str (sa_cons (svf 3) sa_nil))))))
  obtain ⟨fB, fdB, psB, FB, hmB, kpB, bB⟩ := g_balance
  obtain ⟨fL, fdL, psL, FL, hmL, kpL, bL⟩ := g_left_out
  refine ⟨_, PSs.nox (pss_cons b0.p
    (pss_cons (ps_asg (pe_call FB (hr.mono (by decide)) rfl hmB kpB bB .nil pass0 a1.p) (sg_two 6 7 rfl nd (sg_name 6 nd) (sg_name 7 nd)).p)
    (pss_cons (ps_if (pt_cmpR op_eq (pv 6) pe_str (nomark _)) (pss_one (ps_ret (pe_tup (pa_cons pe_str (pa_cons (pe_call FL (hr.mono (by decide)) rfl hmL kpL bL .nil pass0 a2.p) (pa_cons (pv 7) pa_nil)))))) pss_nil)
    b3.p))), ?_⟩
  have z0 : Zs K Fz [.fz (netD N), .fz (vD N.many b), .fz (vD N.many e), .no, .no, .no, .no, .no, .no, .no] (L2.start nN [nv, bv, ev]) := .fz dn (.fz db (.fz de (.no (.no (.no (.no (.no (.no (.no .nil)))))))))
  have plF : ∀ {A : Sto}, plainA A → plainA (.fz (netD N) :: .fz (vD N.many b) :: .fz (vD N.many e) :: A) := fun h => plainA_cons rfl (plainA_cons rfl (plainA_cons rfl h))
  have plN : ∀ {y4 y5 y6 y7 : Slot}, plainS y4 = true → plainS y5 = true → plainS y6 = true → plainS y7 = true → plainA [.fz (netD N), .fz (vD N.many b), .fz (vD N.many e), .no, y4, y5, y6, y7, .no, .no] := fun h4 h5 h6 h7 => plF (plainA_cons rfl (plainA_cons h4 (plainA_cons h5 (plainA_cons h6 (plainA_cons h7 (plainA_cons rfl (plainA_cons rfl plainA_nil)))))))
  refine go_seq (ss_now b0.s (z0.rp sub) (N := fun C => ∃ ws fs, CanBe N b ws fs ∧ C = [.fz (netD N), .fz (vD N.many b), .fz (vD N.many e), .no, .fz (natD ws), .fz (natD fs), .no, .no, .no, .no])
    ⟨_, rfl, _, rfl, _, rfl, _, 1, _, rfl, rfl, rfl, _, .inl rfl, N.deeds.length, by rw [List.length_map], by omega, N, b, rfl, o, fun ws fs c => ⟨_, rfl, _, _, rfl, _, _, rfl, rfl, ws, fs, c, rfl⟩⟩ (fun C hC => by obtain ⟨ws, fs, _, rfl⟩ := hC; exact plN rfl rfl rfl rfl) fun C σ1 F1 H1 hC g1 rp1 => ?_)
  obtain ⟨ws, fs, c, rfl⟩ := hC
  have lf := c.len
  have bal := bal_ends o hb he c
  dsimp only
  refine go_seq ?_
  refine go_asg ?_
  refine go_call ?_
  refine sa_now a1.s rp1 (plain_mut (plN rfl rfl rfl rfl)) (Qd := fun ds => ds = [.list (mapD fs.length fun i => vD N.many (chg (deedAt N (fs.getD i 0)))), vD N.many fun p => e p - b p]) ?_ fun ds vs F2 H2 hd g2 dd => ?_
  · refine ⟨_, rfl, _, rfl, rfl, by rw [natL_len]; omega, fun i => some (vD N.many (chg (deedAt N (fs.getD i 0)))), fun i d hd => ?_, _, rfl, _, rfl, N.many, e, b, rfl, by omega, fun p hp => ⟨?_, ?_⟩, ?_⟩
    · obtain ⟨j, hj, rfl⟩ := natL_get hd
      have ej : fs.getD i 0 = j := by rw [List.getD_eq_getElem?_getD, hj]; rfl
      refine ⟨rfl, _, rfl, _, rfl, N, j, _, rfl, o, deedAt_of (c.lt j (mem_at hj)), rfl, ?_⟩
      dsimp only
      rw [ej]
    · exact (he.dn p hp).sm (V := 2 ^ 60) (by decide +kernel) (by have := he.nn p hp; have := natR0 (2 ^ 60); grind) (he.up p hp) (by decide +kernel) (by decide +kernel)
    · exact (hb.dn p hp).sm (V := 2 ^ 60) (by decide +kernel) (by have := hb.nn p hp; have := natR0 (2 ^ 60); grind) (hb.up p hp) (by decide +kernel) (by decide +kernel)
    · rw [natL_len, outs_map fun i _ => rfl]
      rfl
  subst hd
  obtain ⟨v1, v2, rfl, d1, d2⟩ := dd.two
  have g12 := g1.trans g2
  have rp2 := rp_up rp1 (plN rfl rfl rfl rfl) g2.ff g2.fh
  refine ⟨F2, v1, v2, fs.length, N.many, _, _, D0, VB, rfl, g2.fh, d1, d2, bal, fun x t px F3 H3 hx g3 ht dx => ?_, fun x t px F3 H3 hx g3 ht hnew dx => ?_⟩
  · refine ⟨t, _, rfl, SqT.of ht, rfl, _, _, rfl, _, _, rfl, rfl, ?_⟩
    have rp3 := ((rp_up rp2 (plN rfl rfl rfl rfl) g3.ff g3.fh).set (i := 6) (DD.str strS)).set (i := 7) dx
    obtain ⟨v6, e6, d6⟩ := rp3.fz_at (i := 6) rfl
    have ev6 : v6 = .str strS := by cases d6; rfl
    subst ev6
    refine go_seq ⟨_, e6, rfl, _, rfl, ?_⟩
    rw [show decide (L2.V.str strS = L2.V.str "weights") = false by decide +kernel]
    refine iteF ?_
    refine b3.s (fun _ => False) F3 H3 _ _ F3 H3 (endsD fun d => d = pr (.str strN) (vD N.deeds.length (partsK fs x fs.length))) _ rp3 ?_ ⟨fun A σ F' H' hn _ _ => (nomatch hn), fun d v A σ F' H' hd r s dd => ?_, fun _ _ _ _ z _ _ => z.elim, fun _ _ _ _ z _ _ => z.elim⟩
    · refine ⟨by decide, _, rfl, _, 1, _, rfl, rfl, rfl, _, .inl rfl, _, _, rfl, rfl, by omega, by rw [List.length_map]; omega, le_line (by show 1 * ((N.deeds.map deedD).length : Int).toNat ≤ 1000; rw [List.length_map]; omega), ?_⟩
      rw [List.length_map, Int.toNat_natCast, vL_zero]
      refine ⟨_, rfl, _, rfl, _, _, rfl, ?_⟩
      refine ⟨fun i B => ∃ x8 x9, B = [.fz (netD N), .fz (vD N.many b), .fz (vD N.many e), .mu true (vL N.deeds.length (partsK fs x i)), .fz (natD ws), .fz (natD fs), .fz (.str strS), .fz (vD fs.length x), x8, x9], ⟨_, _, rfl⟩, ?_, ?_⟩
      · rintro i d B hd ⟨x8, x9, rfl⟩
        obtain ⟨d1', d2', h1', h2', rfl⟩ := zipD_get hd
        obtain ⟨j, hj, rfl⟩ := natL_get h1'
        obtain ⟨hi, rfl⟩ := mapD_get h2'
        have ej : fs.getD i 0 = j := by rw [List.getD_eq_getElem?_getD, hj]; rfl
        refine ⟨_, rfl, _, _, rfl, _, _, rfl, rfl, ?_⟩
        refine ⟨_, rfl, ⟨_, _, rfl⟩, _, rfl, _, _, _, j, rfl, rfl, ?_, ?_⟩
        · rw [vL_len]
          exact ixN_nat (c.lt j (mem_at hj))
        · refine ⟨.fz (.int (j : Nat)), .fz (fr (x i)), ?_⟩
          rw [vL_set]
          show _ = [Slot.fz (netD N), .fz (vD N.many b), .fz (vD N.many e), .mu true (vL N.deeds.length (updN (partsK fs x i) (fs.getD i 0) (x i))), .fz (natD ws), .fz (natD fs), .fz (.str strS), .fz (vD fs.length x), _, _]
          rw [ej]
          rfl
      · rintro B ⟨x8, x9, rfl⟩
        have el : (zipD (natL fs) (vL fs.length x)).length = fs.length := by rw [zipD_len, natL_len, vL_len, Nat.min_self]
        rw [el]
        exact ⟨_, rfl, by show (2 : Nat) ≤ 1000; decide, rfl⟩
    · have hd : d = pr (.str strN) (vD N.deeds.length (partsK fs x fs.length)) := hd
      subst hd
      exact hQ1 ws fs _ v F' H' c (near_of o c hx) ((g12.trans g3).trans ⟨fun a o z => r.keep a o z id, s, r.sub, r.new⟩) dd
  · refine ⟨t, _, rfl, SqT.of ht, rfl, _, _, rfl, _, _, rfl, rfl, ?_⟩
    have rp3 := ((rp_up rp2 (plN rfl rfl rfl rfl) g3.ff g3.fh).set (i := 6) (DD.str strW)).set (i := 7) dx
    have pl3 := plN (y4 := .fz (natD ws)) (y5 := .fz (natD fs)) (y6 := .fz (.str strW)) (y7 := .fz (vD N.many x)) rfl rfl rfl rfl
    obtain ⟨v6, e6, d6⟩ := rp3.fz_at (i := 6) rfl
    have ev6 : v6 = .str strW := by cases d6; rfl
    subst ev6
    refine go_seq ⟨_, e6, rfl, _, rfl, ?_⟩
    rw [show decide (L2.V.str strW = L2.V.str "weights") = true by decide +kernel]
    refine iteT ?_
    refine go_ret ?_
    refine go_tup ?_
    refine go_cons ?_
    refine go_c ?_
    refine go_cons ?_
    refine go_call ?_
    refine sa_now a2.s rp3 (plain_mut pl3) (Qd := fun ds => ds = [.int (N.many : Nat), natD ws]) ⟨_, rfl, _, 0, _, rfl, rfl, rfl, _, rfl, rfl⟩ fun ds vs F5 H5 hd g5 dd5 => ?_
    subst hd
    refine ⟨F5, _, (fun d => d = natD ((List.range N.many).filter fun p => !decide (p ∈ ws))), g5.fh, by rw [List.append_nil]; exact dd5, ⟨N.many, ws, rfl, by omega, rfl⟩, fun d pl F6 H6 hd g6 dpl hpl => ?_⟩
    subst hd
    obtain ⟨q7, wq, eq7, fq7, _⟩ := dx.list_v
    injection eq7 with eq7
    subst eq7
    have e7 : ((σ1.set 6 (some (.str strW))).set 7 (some (.ref px)))[7]? = some (some (.ref px)) := by
      obtain ⟨v7, e7, _⟩ := rp3.fz_at (i := 7) rfl
      rw [e7]
      have hl := lt_of_get e7
      rw [List.getElem?_set_self (by rw [List.length_set] at hl; exact hl)] at e7
      rw [← e7]
    refine ⟨_, e7, ?_⟩
    refine ⟨by show (3 : Nat) ≤ sizeLine; decide, fun t2 ht2 => ?_⟩
    have hp3 := g3.fh _ _ fq7
    refine hQ2 ws fs x t2 pl px F6 _ c (far_of o c hx) ((((g12.trans g3).trans g5).trans g6).trans (Gr.laid g6.fh ht2)) upd_same ((((g12.trans g3).trans g5).trans g6).hh.free ht2) ?_ ?_ ?_ dpl (dx.mono (g5.ff.trans g6.ff))
    · exact ((g12.trans g3).trans g5).hh.free hpl
    · exact g12.hh.free hnew
    · intro z
      rw [z, g5.hh _ _ hp3] at hpl
      cases hpl
end
end Tk
end
section
set_option Elab.async false
set_option linter.all false
set_option maxRecDepth 100000
set_option maxHeartbeats 4000000
set_option exponentiation.threshold 10000
namespace Tk
open PySem PySem.Spec PyProof.Rows L2
/-! ### C.__init__(self, ..), C an own exception class without __init__ -/
section
variable {X : Cx} {e : Expr} {es : List Expr} {ta : TA} {p1 p2 pos : Pos} {x : Str} {CT : Addr} {mc : Value}
theorem pe_ceinit {pl : Sem Bool} (hg : Gl X x) (hm : X.mg x = some (.ref CT)) (hty : PySem.W.typeIn X.K (.ref CT) = some mc) (r : ClX.CRead X.K CT mc) (vV : PySem.W.findCls X.K (.ref CT) mc "__init__" = some (.val (.builtin "ValueError.__init__"))) (ha : PA X (e :: es) ta)
    (hc : eval (.Call (.Attribute (.Name x p1) "__init__" p2) (e :: es) [] pos) X.env = (do
      let ov ← eval (.Name x p1) X.env
      standAt p2.atName
      let (f, first) ← holding [ov] (getMethod ov "__init__" pl)
      callWith pos f first (backTo pos (starEach (e :: es) X.env)) (backToKw pos (keywordEach [] X.env))) := by rfl) (hdb : (x == ("__debug__" : Str)) = false := by decide)
    (he : starEach (e :: es) X.env = (false, eval e X.env) :: starEach es X.env := by rfl) (hpl : (backTo pos (starEach es X.env)).any (·.1) = false := by rfl) :
    PE X (.Call (.Attribute (.Name x p1) "__init__" p2) (e :: es) [] pos) (tVeI X.K ta) := by
  refine ⟨fun pins s σ H Q I h => ?_⟩
  refine PySem.W.methodCall_KW (ld_glob I hg hm ?_ hdb) hc
  obtain ⟨m, fr⟩ := I.fr
  refine PySem.W.method_of_cls fr I.ok.mod.kin r.ga (PySem.W.cls_val fr I.ok.mod.kin hty r.rd vV (by decide +kernel) ?_)
  show wpAny _ _ (callWith pos (Value.builtin "ValueError.__init__") [] (backTo pos (starEach (e :: es) X.env)) []) _ _ _
  refine PyProof.Rows.callWith_method1 (thn (ha.run pos pins _ σ H _ (I.tok _) h) fun us s1 ⟨vs, H1, I1, r1, a, C, ws, ev, hl, T, ea, q⟩ => ?_) he hpl
  subst ev
  cases r1 with
  | @cons _ u0 _ ur ra rw' =>
    obtain rfl : u0 = Value.ref a := ra
    have hlen : ur.length ≤ sizeLine := by
      rw [← Paired.length rw', sizeLine_eq]
      omega
    exact oinit_ok T I1 ea hlen fun s' J => ⟨.non, H1, J, rfl, q⟩
end
/-! ### Far -/
abbrev stF : Stmt := inClass (top 8) 0
structure FarT (K : PySem.W.Frag) (mg : Str → Option Value) (CT CF : Addr) : Prop where
  mT : mg "TokenError" = some (.ref CT)
  mF : mg "Far" = some (.ref CF)
  oF : OexC K CF
  nP : PySem.W.findIn K (.ref CF) "places" = some none
  nW : PySem.W.findIn K (.ref CF) "weights" = some none
  tT : PySem.W.typeIn K (.ref CT) = some (.type "type")
  rT : ClX.CRead K CT (.type "type")
  vT : PySem.W.findCls K (.ref CT) (.type "type") "__init__" = some (.val (.builtin "ValueError.__init__"))
def spFI (K : PySem.W.Frag) (CF : Addr) : Sp := fun vs H Q _ => ∃ (a : Addr) (pl wl : V), vs = [.ref a, pl, wl] ∧ H a = some (exo a CF none) ∧
  ∀ d, H d = none → d ≠ a → Q .non (upd (upd (upd H d (exd d [("places", pl)])) a (exo a CF (some d))) d (exd d [("weights", wl), ("places", pl)]))
theorem sc_far : FnScope ["self", "places", "weights"] ["self", "places", "weights"] (defScope stF) := ⟨rfl, rfl, rfl, by decide +kernel, rfl, by decide +kernel, by decide +kernel⟩
section
variable {P : Program} {w : World} {K : PySem.W.Frag} {mg : Str → Option Value} {base : Heap} {f CT CF : Addr} {fd : FuncData}
theorem ok_far (F : FunD K "__init__" "Far.__init__" (defArgs stF) (defBody stF) (defScope stF) [] [] f fd) (T : FarT K mg CT CF) : FnOk P w K mg base CX0 1 f fd ["self", "places", "weights"] (spFI K CF) := by
  have nd := sc_far.nd
  refine F.ok sc_far (fun vs H Q E h => ?_) (fun cdv A0 outer s0 H vs Q E hr h => ?_)
  · obtain ⟨a, pl, wl, rfl, _⟩ := h
    rfl
  obtain ⟨a, pl, wl, rfl, ha, k⟩ := h
  refine ⟨_, PSs.nox (pss_cons (ps_expr (pe_ceinit rfl T.mT T.tT T.rT T.vT (pa_cons (pv 0) (pa_cons pe_str pa_nil))))
    (pss_cons (ps_ost (pv 0) (pv 1)) (pss_one (ps_ost (pv 0) (pv 2))))), ?_⟩
  refine go_seq (go_drop ⟨_, rfl, a, CF, _, rfl, by decide, T.oF, ha, ?_⟩)
  refine go_seq ⟨_, rfl, _, rfl, a, CF, rfl, T.oF, T.nP, .inl ⟨ha, fun d hd hda => ?_⟩⟩
  refine ⟨_, rfl, _, rfl, a, CF, rfl, T.oF, T.nW, .inr ⟨d, _, upd_same, (upd_ne hda).trans upd_same, by show 1 ≤ 900; decide, ?_⟩⟩
  exact k d hd hda
end
end Tk
end
section
set_option Elab.async false
set_option linter.all false
set_option maxRecDepth 100000
set_option maxHeartbeats 4000000
set_option exponentiation.threshold 10000
namespace Tk
open PySem PySem.Spec PyProof.Rows L2
/-! ### steps that can be done -/
theorem CanW.cons {N : Net} {v : Nat → Rat} {e : Nat × Rat} {r : Steps} (h1 : ∀ x ∈ (deedAt N e.1).1, e.2 * x.2 ≤ v x.1) (h2 : CanW N (after N v e) r) : CanW N v (e :: r) := fun k e' he x hx => by
  cases k with
  | zero =>
    have := Option.some.inj he
    subst this
    exact h1 x hx
  | succ k => exact h2 k e' he x hx
theorem CanW.nil (N : Net) (v : Nat → Rat) : CanW N v [] := fun k e he => by simp at he
/-- what steps take from a place in all -/
def usedL (N : Net) : Steps → Nat → Rat
  | [], _ => 0
  | e :: r, p => e.2 * amt (deedAt N e.1).1 p + usedL N r p
theorem usedL_nn {N : Net} (o : OkNet N) : ∀ {m : Steps}, (∀ e ∈ m, e.1 < N.deeds.length ∧ 0 < e.2) → ∀ p, 0 ≤ usedL N m p
  | [], _, _ => Rat.le_refl
  | e :: r, h, p => by
    have h1 := h e List.mem_cons_self
    have q := Rat.mul_nonneg (Rat.le_of_lt h1.2) (amt_nn (o.deed (deedAt_of h1.1)).1 p)
    have ih := usedL_nn o (m := r) (fun e he => h e (List.mem_cons_of_mem _ he)) p
    show 0 ≤ e.2 * amt (deedAt N e.1).1 p + usedL N r p
    grind
theorem can_used {N : Net} (o : OkNet N) : ∀ {m : Steps} {v : Nat → Rat}, (∀ e ∈ m, e.1 < N.deeds.length ∧ 0 < e.2) → (∀ p, p < N.many → 0 < usedL N m p → usedL N m p ≤ v p) → CanW N v m
  | [], v, _, _ => CanW.nil N v
  | e :: r, v, h, hu => by
    have h1 := h e List.mem_cons_self
    obtain ⟨o1, o2⟩ := o.deed (deedAt_of h1.1)
    have hr := fun e' he => h e' (List.mem_cons_of_mem e he)
    refine CanW.cons (fun x hx => ?_) (can_used o hr fun p hp hpos => ?_)
    · have hx1 := o1.1 x hx
      have ea := amt_of (nodup_of o1.2) hx
      have q := usedL_nn o hr x.1
      have p0 := Rat.mul_pos h1.2 hx1.2.2
      have k : usedL N (e :: r) x.1 = e.2 * x.2 + usedL N r x.1 := by
        show e.2 * amt (deedAt N e.1).1 x.1 + usedL N r x.1 = _
        rw [ea]
      have := hu x.1 hx1.1 (by rw [k]; grind)
      rw [k] at this
      grind
    · have q1 := Rat.mul_nonneg (Rat.le_of_lt h1.2) (amt_nn o1 p)
      have q2 := Rat.mul_nonneg (Rat.le_of_lt h1.2) (amt_nn o2 p)
      have k : usedL N (e :: r) p = e.2 * amt (deedAt N e.1).1 p + usedL N r p := rfl
      have := hu p hp (by rw [k]; grind)
      rw [k] at this
      show usedL N r p ≤ v p + e.2 * (amt (deedAt N e.1).2 p - amt (deedAt N e.1).1 p)
      grind
/-! sums over steps -/
def sumL (g : Nat → Rat) : List Nat → Rat
  | [] => 0
  | j :: r => g j + sumL g r
theorem sumL_app (g : Nat → Rat) : ∀ l r, sumL g (l ++ r) = sumL g l + sumL g r
  | [], r => by show sumL g r = 0 + sumL g r; rw [Rat.zero_add]
  | j :: l, r => by
    show g j + sumL g (l ++ r) = g j + sumL g l + sumL g r
    rw [sumL_app g l r]
    grind
theorem sumL_filter (g : Nat → Rat) (q : Nat → Bool) : ∀ n, sumL g ((List.range n).filter q) = sumN (fun j => if q j then g j else 0) n
  | 0 => rfl
  | n + 1 => by
    rw [List.range_succ, List.filter_append, sumL_app, sumL_filter g q n]
    show _ = sumN _ n + (if q n then g n else 0)
    congr 1
    cases h : q n with
    | true =>
      rw [show List.filter q [n] = [n] by simp [h], if_pos rfl]
      show g n + 0 = g n
      rw [Rat.add_zero]
    | false =>
      rw [show List.filter q [n] = [] by simp [h], if_neg Bool.false_ne_true]
      rfl
theorem afters_list (N : Net) (f : Nat → Rat) (p : Nat) : ∀ (l : List Nat) (v : Nat → Rat), afters N v (l.map fun j => (j, f j)) p = v p + sumL (fun j => f j * chg (deedAt N j) p) l
  | [], v => by show v p = v p + 0; rw [Rat.add_zero]
  | j :: l, v => by
    show afters N (after N v (j, f j)) (l.map fun j => (j, f j)) p = v p + (f j * chg (deedAt N j) p + sumL _ l)
    rw [afters_list N f p l]
    unfold after
    grind
theorem used_list (N : Net) (f : Nat → Rat) (p : Nat) : ∀ l : List Nat, usedL N (l.map fun j => (j, f j)) p = sumL (fun j => f j * amt (deedAt N j).1 p) l
  | [] => rfl
  | j :: l => by
    show f j * amt (deedAt N j).1 p + usedL N (l.map fun j => (j, f j)) p = f j * amt (deedAt N j).1 p + sumL _ l
    rw [used_list N f p l]
theorem pos_sum {n : Nat} {x : Nat → Rat} (hx : ∀ j, j < n → 0 ≤ x j) (c : Rat) (y : Nat → Rat) : sumL (fun j => x j * c * y j) (posL n x) = c * sumN (fun j => x j * y j) n := by
  unfold posL
  rw [sumL_filter, ← sumN_mul]
  refine sumN_congr fun j hj => ?_
  by_cases h : 0 < x j
  · rw [if_pos (decide_eq_true h)]
    grind
  · rw [if_neg (fun z => h (of_decide_eq_true z))]
    have := hx j hj
    have e : x j = 0 := by grind
    rw [e]
    grind
/-- scaled steps -/
theorem afters_scale (N : Net) (c : Rat) (p : Nat) : ∀ (s : Steps) (v u : Nat → Rat), (∀ q, u q = c * v q) → afters N u (s.map fun e => (e.1, e.2 * c)) p = c * afters N v s p
  | [], v, u, h => h p
  | e :: s, v, u, h => afters_scale N c p s (after N v e) (after N u (e.1, e.2 * c)) fun q => by
    unfold after
    rw [h q]
    grind
theorem afters_part (N : Net) (c : Rat) (p : Nat) (s : Steps) (v : Nat → Rat) : afters N v (s.map fun e => (e.1, e.2 * c)) p = v p + c * (afters N v s p - v p) := by
  rw [afters_gain N _ v p, afters_gain N s v p, afters_scale N c p s (fun _ => 0) (fun _ => 0) fun q => by rw [Rat.mul_zero]]
  grind
theorem can_part {N : Net} {v : Nat → Rat} {s : Steps} {c : Rat} (o : OkNet N) (hv : ∀ p, p < N.many → 0 ≤ v p) (hs : ∀ e ∈ s, e.1 < N.deeds.length) (h : CanW N v s) (c0 : 0 ≤ c) (c1 : c ≤ 1) : CanW N v (s.map fun e => (e.1, e.2 * c)) := fun k e he x hx => by
  rw [List.getElem?_map] at he
  cases hk : s[k]? with
  | none => rw [hk] at he; cases he
  | some e0 =>
    rw [hk] at he
    have he := Option.some.inj he
    subst he
    have q := h k e0 hk x hx
    have lt := ((o.deed (deedAt_of (hs e0 (mem_at hk)))).1.1 x hx).1
    rw [← List.map_take, afters_part]
    have v0 := Rat.mul_nonneg (show 0 ≤ 1 - c by grind) (hv x.1 lt)
    have q2 := Rat.mul_le_mul_of_nonneg_left q c0
    show e0.2 * c * x.2 ≤ _
    grind
/-! ### a run that comes near -/
def runL (s m : Steps) (r : Nat) : List PyData := run1L s ++ (if m = [] then [] else [turnD (r : Int) m])
def lapV (N : Net) (b : Nat → Rat) (s m : Steps) (k : Rat) (p : Nat) : Rat := afters N b s p + k * afters N (fun _ => 0) m p
structure RunOk (N : Net) (b e : Nat → Rat) (wi : Rat) (s m : Steps) (r : Nat) : Prop where
  r1 : 1 ≤ r
  rz : Sz (r : Int)
  ls : s.length ≤ 7
  lm : m.length ≤ 7
  nds : (s.map (·.1)).Nodup
  ndm : (m.map (·.1)).Nodup
  ps : ∀ e ∈ s, e.1 < N.deeds.length ∧ 0 < e.2
  pm : ∀ e ∈ m, e.1 < N.deeds.length ∧ 0 < e.2
  cs : CanW N b s
  cm0 : CanW N (lapV N b s m 0) m
  cm1 : CanW N (lapV N b s m ((r : Rat) - 1)) m
  near : ∀ p, p < N.many → absR (lapV N b s m r p - e p) ≤ wi
  sz : ∃ D B C, OkSteps N D C s ∧ OkSteps N D C m ∧ Bd D (4 * B + 80 * C) ∧ ∀ p, p < N.many → Ov D B (b p) ∧ Ov D B (e p) ∧ Ov D B (lapV N b s m 0 p) ∧ Ov D B (lapV N b s m ((r : Rat) - 1) p) ∧ Ov D B (lapV N b s m r p)
end Tk
end
section
set_option Elab.async false
set_option linter.all false
set_option maxRecDepth 100000
set_option maxHeartbeats 4000000
set_option exponentiation.threshold 10000
namespace Tk
open PySem PySem.Spec PyProof.Rows L2
/-! ### sizes on the way -/
structure WiOk (wi : Rat) : Prop where
  pos : 0 < wi
  up : wi ≤ ((2 ^ 20 : Nat) : Rat)
  den : wi.den ≤ 2 ^ 30
theorem self_dn (x : Rat) : Dn x.den x := (Ov.self x).dn
theorem dn_nat {D V : Nat} {d : Rat} (hD : 0 < D) (h : Dn D d) (p : 0 < d) (u : d ≤ (V : Rat)) : ∃ K : Nat, 0 < K ∧ K ≤ V * D ∧ d * (D : Rat) = (K : Rat) := by
  have q := h.ov (V := V) (by have := natR0 V; grind) u
  obtain ⟨k, e, hk⟩ := q
  have h1 : (0 : Rat) < (k : Rat) := by
    rw [← e]
    exact Rat.mul_pos p (natRp hD)
  have h2 : 0 < k := by
    have e0 : ((0 : Int) : Rat) = 0 := rfl
    rw [← e0] at h1
    exact Rat.intCast_lt_intCast.mp h1
  refine ⟨k.natAbs, by omega, by rw [Nat.mul_comm]; exact hk, ?_⟩
  rw [e, ← Rat.intCast_natCast]
  congr 1
  omega
theorem quot_dn {D E K : Nat} {x d : Rat} (h : d * (D : Rat) = (K : Rat)) (p : 0 < d) (hx : Dn E x) : Dn (E * K) (x / d) := by
  obtain ⟨k, e⟩ := hx
  refine ⟨k * D, ?_⟩
  have := Rat.mul_inv_cancel d (by grind)
  rw [Rat.natCast_mul, Rat.intCast_mul, ← e, ← h, Rat.intCast_natCast, Rat.div_def]
  grind
theorem quot_le {D K : Nat} {x d : Rat} (hK : 0 < K) (h : d * (D : Rat) = (K : Rat)) (p : 0 < d) (x0 : 0 ≤ x) : x / d ≤ x * (D : Rat) := by
  have ip := Rat.inv_pos.mpr p
  have k1 : (1 : Rat) ≤ (K : Rat) := natR.mpr hK
  have i1 : d⁻¹ ≤ (D : Rat) := by
    have q := Rat.mul_le_mul_of_nonneg_left k1 (Rat.le_of_lt ip)
    rw [← h] at q
    have := Rat.inv_mul_cancel d (by grind)
    rw [← Rat.mul_assoc, this, Rat.one_mul, Rat.mul_one] at q
    exact q
  rw [Rat.div_def]
  exact Rat.mul_le_mul_of_nonneg_left i1 x0
theorem absR_dn {D : Nat} {x : Rat} (h : Dn D x) : Dn D (absR x) := by
  unfold absR
  split
  · exact h.neg
  · exact h
/-- steps with their sizes -/
theorem okS {N : Net} {s : Steps} {D T : Nat} (o : OkNet N) (hl : s.length ≤ 7) (hs : ∀ e ∈ s, e.1 < N.deeds.length ∧ 0 < e.2 ∧ e.2 ≤ (T : Rat)) (hd : ∀ e ∈ s, Dn D e.2 ∧ ∀ x ∈ (deedAt N e.1).1 ++ (deedAt N e.1).2, Dn D (e.2 * x.2)) (b : Bd D (D * T)) : OkSteps N D (D * (T * 2 ^ 41)) s := by
  refine ⟨hl, fun e he => ⟨(hs e he).1, ((hd e he).1.ov (by have := natR0 T; have := (hs e he).2.1; grind) (hs e he).2.2).sm b, fun x hx => ?_⟩⟩
  obtain ⟨o1, o2⟩ := o.deed (deedAt_of (hs e he).1)
  have oa : Ov DA BA x.2 ∧ 0 < x.2 := by
    rcases List.mem_append.mp hx with h | h
    · exact (o1.1 x h).2
    · exact (o2.1 x h).2
  have v1 := oa.1.val2 (V := 2 ^ 41) (by decide) (by decide +kernel)
  have n1 := Rat.mul_nonneg (Rat.le_of_lt (hs e he).2.1) (Rat.le_of_lt oa.2)
  have u1 := Rat.mul_le_mul_of_nonneg_right (hs e he).2.2 (Rat.le_of_lt oa.2)
  have u2 := Rat.mul_le_mul_of_nonneg_left v1 (natR0 T)
  have e1 : ((T * 2 ^ 41 : Nat) : Rat) = (T : Rat) * ((2 ^ 41 : Nat) : Rat) := Rat.natCast_mul ..
  refine ((hd e he).2 x hx).ov ?_ ?_
  · have := natR0 (T * 2 ^ 41)
    grind
  · rw [e1]
    exact Rat.le_trans u1 u2
section
variable {N : Net} {b e x : Nat → Rat} {ws fs : List Nat} {s : Steps} {D : Nat} {wi by_ : Rat}
/-- what approach works from -/
structure Way (N : Net) (b e x : Nat → Rat) (fs : List Nat) (s : Steps) (D : Nat) (wi : Rat) : Prop where
  o : OkNet N
  hb : EOk N b
  he : EOk N e
  hx : NearOk N b e fs x
  w : WSt N b (2 ^ 60) D s
  d0 : 0 < D
  d1 : D ≤ 2 ^ 729
  ls : s.length ≤ 7
  re : Reach N b (s.map (·.1))
  sub : ∀ j ∈ fs, j ∈ s.map (·.1)
  wi : WiOk wi
theorem Way.val (k : Way N b e x fs s D wi) {p : Nat} (hp : p < N.many) : 0 ≤ afters N b s p ∧ afters N b s p ≤ ((2 ^ 72 : Nat) : Rat) := wst_val k.w (by decide) k.ls p hp
theorem Way.diff (k : Way N b e x fs s D wi) {p : Nat} (hp : p < N.many) : Dn (D * D0) (afters N b s p - e p) ∧ -((2 ^ 73 : Nat) : Rat) ≤ afters N b s p - e p ∧ afters N b s p - e p ≤ ((2 ^ 73 : Nat) : Rat) := by
  obtain ⟨h1, h2⟩ := k.val hp
  have h3 := k.he.nn p hp
  have h4 := k.he.up p hp
  have c1 : ((2 ^ 72 : Nat) : Rat) ≤ ((2 ^ 73 : Nat) : Rat) := natR.mpr (by decide)
  have c2 : ((2 ^ 60 : Nat) : Rat) ≤ ((2 ^ 73 : Nat) : Rat) := natR.mpr (by decide)
  refine ⟨(k.w.dn p hp).up.sub ?_, by grind, by grind⟩
  have q : Dn (D0 * D) (e p) := (k.he.dn p hp).up
  rw [Nat.mul_comm] at q
  exact q
theorem Way.dd (k : Way N b e x fs s D wi) : 0 < D * D0 ∧ D * D0 ≤ 2 ^ 772 := ⟨Nat.mul_pos k.d0 (by decide), mul_pw k.d1 (show D0 ≤ 2 ^ 43 by decide)⟩
/-- the share of the way, one place -/
theorem Way.quot (k : Way N b e x fs s D wi) {p : Nat} (hp : p < N.many) (h0 : afters N b s p - e p ≠ 0) : ∃ Dy, 0 < Dy ∧ Dy ≤ 2 ^ 880 ∧ Dn Dy (wi / diffA (afters N b s) e p) ∧ 0 ≤ wi / diffA (afters N b s) e p ∧ wi / diffA (afters N b s) e p ≤ ((2 ^ 800 : Nat) : Rat) := by
  obtain ⟨h1, h2, h3⟩ := k.diff hp
  have ap := absR_pos h0
  obtain ⟨K, k0, k1, k2⟩ := dn_nat k.dd.1 (absR_dn h1) ap (absR_le h3 (by grind))
  have q := quot_dn k2 ap (self_dn wi)
  have q2 := quot_le k0 k2 ap (Rat.le_of_lt k.wi.pos)
  have kk : K ≤ 2 ^ (73 + 772) := Nat.le_trans k1 (mul_pw (Nat.le_refl _) k.dd.2)
  have e1 : wi.den * K ≤ 2 ^ (30 + (73 + 772)) := mul_pw k.wi.den kk
  refine ⟨wi.den * K, Nat.mul_pos wi.den_pos k0, Nat.le_trans e1 (Nat.pow_le_pow_right (by decide) (by decide)), q, ?_, ?_⟩
  · rw [Rat.div_def]
    exact Rat.mul_nonneg (Rat.le_of_lt k.wi.pos) (Rat.le_of_lt (Rat.inv_pos.mpr ap))
  · have e2 : wi * ((D * D0 : Nat) : Rat) ≤ ((2 ^ 20 * 2 ^ 772 : Nat) : Rat) := by
      rw [Rat.natCast_mul (2 ^ 20)]
      exact Rat.le_trans (Rat.mul_le_mul_of_nonneg_right k.wi.up (natR0 _)) (Rat.mul_le_mul_of_nonneg_left (natR.mpr k.dd.2) (natR0 _))
    have e3 : ((2 ^ 20 * 2 ^ 772 : Nat) : Rat) ≤ ((2 ^ 800 : Nat) : Rat) := natR.mpr (by decide +kernel)
    exact Rat.le_trans q2 (Rat.le_trans e2 e3)
theorem sm_zero : Sm 0 := ⟨by unfold Sz; decide +kernel, by unfold Sz; decide +kernel⟩
theorem Way.share (k : Way N b e x fs s D wi) {p : Nat} (hp : p < N.many) : Sm (afters N b s p) ∧ Sm (e p) ∧ Sm (afters N b s p - e p) ∧ Sm (wi / diffA (afters N b s) e p) := by
  obtain ⟨h1, h2⟩ := k.val hp
  obtain ⟨h3, h4, h5⟩ := k.diff hp
  refine ⟨sm_of_dn k.d0 k.d1 (Nat.le_refl _) (k.w.dn p hp) h1 h2 (by decide), sm_of_dn (d := 43) (e := 60) (by decide) (by decide) (Nat.le_refl _) (k.he.dn p hp) (k.he.nn p hp) (k.he.up p hp) (by decide), h3.sm k.dd.1 h4 h5 (pw_le (mul_pw k.dd.2 (Nat.le_refl (2 ^ 73))) (by decide)) (pw_le k.dd.2 (by decide)), ?_⟩
  by_cases h0 : afters N b s p - e p = 0
  · have : diffA (afters N b s) e p = 0 := by unfold diffA; rw [h0]; rfl
    rw [this, Rat.div_def, Rat.inv_zero, Rat.mul_zero]
    exact sm_zero
  · obtain ⟨Dy, y0, y1, y2, y3, y4⟩ := k.quot hp h0
    exact sm_of_dn y0 y1 (Nat.le_refl _) y2 y3 y4 (by decide)
theorem sm_wi (h : WiOk wi) : Sm wi := sm_of_dn wi.den_pos h.den (Nat.le_refl _) (self_dn wi) (Rat.le_of_lt h.pos) h.up (by decide)
/-- the share of the way -/
theorem Way.by_dn (k : Way N b e x fs s D wi) (y : WayOk N.many (afters N b s) e wi by_) : ∃ Dy, 0 < Dy ∧ Dy ≤ 2 ^ 880 ∧ Dn Dy by_ := by
  rcases y.or with h | ⟨p, hp, h0, h⟩
  · refine ⟨2, by decide, by decide, 1, ?_⟩
    rw [h]
    decide +kernel
  · obtain ⟨Dy, y0, y1, y2, _⟩ := k.quot hp h0
    exact ⟨Dy, y0, y1, by rw [h]; exact y2⟩
theorem bd_fac (M a b : Nat) : M * a + 80 * (M * b) = M * (a + 80 * b) := by
  rw [Nat.mul_add, Nat.mul_left_comm M 80]
/-- the first walk -/
theorem Way.walk1 (k : Way N b e x fs s D wi) : (∀ p, p < N.many → Ov (D * D0) (D * D0 * 2 ^ 60) (b p)) ∧ OkSteps N (D * D0) (D * D0 * (1 * 2 ^ 41)) s ∧ Bd (D * D0) (D * D0 * 2 ^ 60 + 80 * (D * D0 * (1 * 2 ^ 41))) := by
  have dd := k.dd
  have bd : ∀ z : Nat, z ≤ 2 ^ 60 + 80 * (1 * 2 ^ 41) → D * D0 * z < 2 ^ 4490 := fun z hz => pw_le (mul_pw dd.2 (Nat.le_trans hz (show _ ≤ 2 ^ 61 by decide))) (by decide)
  refine ⟨fun p hp => ?_, okS k.o k.ls (fun e he => ⟨(k.w.par e he).1, (k.w.par e he).2.1, (k.w.par e he).2.2⟩) (fun e he => ⟨(k.w.dp e he).up, fun x hx => (k.w.ds e he x hx).up⟩) ⟨dd.1, pw_le dd.2 (by decide), bd 1 (by decide)⟩, dd.1, pw_le dd.2 (by decide), ?_⟩
  · have q : Dn (D0 * D) (b p) := (k.hb.dn p hp).up
    rw [Nat.mul_comm] at q
    exact q.ov (by have := k.hb.nn p hp; have := natR0 (2 ^ 60); grind) (k.hb.up p hp)
  · rw [bd_fac]
    exact bd _ (Nat.le_refl _)
end
end Tk
end
section
set_option Elab.async false
set_option linter.all false
set_option maxRecDepth 100000
set_option maxHeartbeats 4000000
set_option exponentiation.threshold 10000
namespace Tk
open PySem PySem.Spec PyProof.Rows L2
structure Way2 (N : Net) (b e x : Nat → Rat) (fs : List Nat) (s : Steps) (D : Nat) (wi by_ : Rat) (Dy Dx : Nat) : Prop where
  k : Way N b e x fs s D wi
  y : WayOk N.many (afters N b s) e wi by_
  y0 : 0 < Dy
  y1 : Dy ≤ 2 ^ 880
  yd : Dn Dy by_
  x0 : 0 < Dx
  x1 : Dx ≤ 2 ^ 522
  xd : ∀ j, j < N.deeds.length → Dn Dx (x j) ∧ x j ≤ ((2 ^ 522 : Nat) : Rat)
abbrev headS (s : Steps) (c : Rat) : Steps := s.map fun e => (e.1, e.2 * c)
abbrev restF (x : Nat → Rat) (c : Rat) : Nat → Rat := fun j => x j * (1 - c)
def behF (N : Net) (b x : Nat → Rat) (s : Steps) (c : Rat) : Nat → Rat := fun p => afters N b (headS s c) p + cby N (restF x c) N.deeds.length p
section
variable {N : Net} {b e x : Nat → Rat} {ws fs : List Nat} {s : Steps} {D Dy Dx : Nat} {wi by_ : Rat}
theorem Way2.c1 (k : Way2 N b e x fs s D wi by_ Dy Dx) : 0 ≤ by_ ∧ by_ ≤ 1 := by
  have h1 := k.y.pos
  have h2 := k.y.half
  constructor
  · grind
  · grind
theorem Way2.dd (k : Way2 N b e x fs s D wi by_ Dy Dx) : 0 < D * D0 * Dy ∧ D * D0 * Dy ≤ 2 ^ 1652 := ⟨Nat.mul_pos k.k.dd.1 k.y0, mul_pw k.k.dd.2 k.y1⟩
theorem Way2.de (k : Way2 N b e x fs s D wi by_ Dy Dx) : 0 < Dx * Dy ∧ Dx * Dy ≤ 2 ^ 1402 := ⟨Nat.mul_pos k.x0 k.y0, mul_pw k.x1 k.y1⟩
theorem dn_one (D : Nat) : Dn D 1 := ⟨D, by rw [Rat.one_mul, Rat.intCast_natCast]⟩
theorem Way2.sm_by (k : Way2 N b e x fs s D wi by_ Dy Dx) : Sm by_ ∧ Dn Dy (1 - by_) ∧ Sm (1 - by_) := by
  obtain ⟨h1, h2⟩ := k.c1
  have c1 : ((2 ^ 0 : Nat) : Rat) = 1 := rfl
  have d := (dn_one Dy).sub k.yd
  exact ⟨sm_of_dn k.y0 k.y1 (Nat.le_refl (2 ^ 0)) k.yd h1 (by grind) (by decide), d, sm_of_dn k.y0 k.y1 (Nat.le_refl (2 ^ 0)) d (by grind) (by grind) (by decide)⟩
theorem Way2.bdn (k : Way2 N b e x fs s D wi by_ Dy Dx) {p : Nat} (hp : p < N.many) : Dn (D * D0) (b p) ∧ Dn (D * D0) (e p) := by
  have q : Dn (D0 * D) (b p) := (k.k.hb.dn p hp).up
  have q2 : Dn (D0 * D) (e p) := (k.k.he.dn p hp).up
  rw [Nat.mul_comm] at q q2
  exact ⟨q, q2⟩
/-- where the first turn leads -/
theorem Way2.stand (k : Way2 N b e x fs s D wi by_ Dy Dx) {p : Nat} (hp : p < N.many) : Dn (D * D0 * Dy) (afters N b (headS s by_) p) ∧ by_ * afters N b s p ≤ afters N b (headS s by_) p ∧ 0 ≤ afters N b (headS s by_) p ∧ afters N b (headS s by_) p ≤ ((2 ^ 72 : Nat) : Rat) := by
  obtain ⟨h1, h2⟩ := k.c1
  obtain ⟨v0, v1⟩ := k.k.val hp
  have b0 := k.k.hb.nn p hp
  have b1 := k.k.hb.up p hp
  have c72 : ((2 ^ 60 : Nat) : Rat) ≤ ((2 ^ 72 : Nat) : Rat) := natR.mpr (by decide)
  have eq := afters_part N by_ p s b
  have m1 := Rat.mul_nonneg (show 0 ≤ 1 - by_ by grind) b0
  have m2 := Rat.mul_nonneg h1 v0
  have m3 := Rat.mul_le_mul_of_nonneg_left v1 h1
  have m4 := Rat.mul_le_mul_of_nonneg_left (Rat.le_trans b1 c72) (show 0 ≤ 1 - by_ by grind)
  refine ⟨?_, ?_, ?_, ?_⟩
  · show Dn _ (afters N b (s.map fun e => (e.1, e.2 * by_)) p)
    rw [eq]
    refine Dn.add (k.bdn hp).1.up ?_
    have q := k.yd.mul ((k.k.w.dn p hp).up (E := D0) |>.sub (k.bdn hp).1)
    rw [Nat.mul_comm] at q
    exact q
  · show _ ≤ afters N b (s.map fun e => (e.1, e.2 * by_)) p
    rw [eq]
    grind
  · show _ ≤ afters N b (s.map fun e => (e.1, e.2 * by_)) p
    rw [eq]
    grind
  · show afters N b (s.map fun e => (e.1, e.2 * by_)) p ≤ _
    rw [eq]
    grind
theorem cby_mul (N : Net) (x : Nat → Rat) (c : Rat) (p : Nat) : cby N (restF x c) N.deeds.length p = (1 - c) * cby N x N.deeds.length p := by
  unfold cby
  rw [← sumN_mul]
  exact sumN_congr fun j _ => by grind
/-- where the way is to end -/
theorem Way2.beh (k : Way2 N b e x fs s D wi by_ Dy Dx) {p : Nat} (hp : p < N.many) : behF N b x s by_ p = (1 - by_) * e p + by_ * afters N b s p := by
  unfold behF
  rw [cby_mul]
  have h1 := k.k.hx.eq p hp
  have eq : afters N b (headS s by_) p = _ := afters_part N by_ p s b
  rw [eq]
  grind
theorem Way2.behd (k : Way2 N b e x fs s D wi by_ Dy Dx) {p : Nat} (hp : p < N.many) : Dn (D * D0 * Dy) (behF N b x s by_ p) ∧ by_ * afters N b s p ≤ behF N b x s by_ p ∧ 0 ≤ behF N b x s by_ p ∧ behF N b x s by_ p ≤ ((2 ^ 72 : Nat) : Rat) := by
  obtain ⟨h1, h2⟩ := k.c1
  obtain ⟨v0, v1⟩ := k.k.val hp
  have b0 := k.k.he.nn p hp
  have b1 := k.k.he.up p hp
  have c72 : ((2 ^ 60 : Nat) : Rat) ≤ ((2 ^ 72 : Nat) : Rat) := natR.mpr (by decide)
  have m1 := Rat.mul_nonneg (show 0 ≤ 1 - by_ by grind) b0
  have m2 := Rat.mul_nonneg h1 v0
  have m3 := Rat.mul_le_mul_of_nonneg_left v1 h1
  have m4 := Rat.mul_le_mul_of_nonneg_left (Rat.le_trans b1 c72) (show 0 ≤ 1 - by_ by grind)
  rw [k.beh hp]
  refine ⟨?_, by grind, by grind, by grind⟩
  have q1 := (k.sm_by).2.1.mul (k.bdn hp).2
  have q2 := k.yd.mul ((k.k.w.dn p hp).up (E := D0))
  rw [Nat.mul_comm] at q1 q2
  exact q1.add q2
/-- the parts that are left -/
theorem Way2.rest (k : Way2 N b e x fs s D wi by_ Dy Dx) {j : Nat} (hj : j < N.deeds.length) : Dn (Dx * Dy) (restF x by_ j) ∧ 0 ≤ restF x by_ j ∧ restF x by_ j ≤ ((2 ^ 522 : Nat) : Rat) ∧ (0 < restF x by_ j ↔ 0 < x j) := by
  obtain ⟨h1, h2⟩ := k.c1
  have half := k.y.half
  have x0 := k.k.hx.nn j hj
  obtain ⟨xd, x1⟩ := k.xd j hj
  have m1 := Rat.mul_nonneg x0 (show 0 ≤ 1 - by_ by grind)
  have m2 := Rat.mul_nonneg x0 h1
  refine ⟨xd.mul k.sm_by.2.1, m1, by show x j * (1 - by_) ≤ _; grind, fun h => ?_, fun h => Rat.mul_pos h (by grind)⟩
  refine Classical.byContradiction fun z => ?_
  have : x j = 0 := by grind
  have e : restF x by_ j = 0 := by show x j * (1 - by_) = 0; rw [this, Rat.zero_mul]
  rw [e] at h
  exact absurd h Rat.lt_irrefl
theorem Way2.sm_rest (k : Way2 N b e x fs s D wi by_ Dy Dx) {j : Nat} (hj : j < N.deeds.length) : Sm (x j) ∧ Sm (restF x by_ j) := by
  obtain ⟨h1, h2, h3, _⟩ := k.rest hj
  obtain ⟨xd, x1⟩ := k.xd j hj
  exact ⟨sm_of_dn k.x0 k.x1 (Nat.le_refl _) xd (k.k.hx.nn j hj) x1 (by decide), sm_of_dn k.de.1 k.de.2 (Nat.le_refl _) h1 h2 h3 (by decide)⟩
theorem Way2.chby (k : Way2 N b e x fs s D wi by_ Dy Dx) : (∀ j, j < N.deeds.length → 0 ≤ restF x by_ j ∧ Ov (Dx * Dy) (Dx * Dy * 2 ^ 522) (restF x by_ j)) ∧ Bd (Dx * Dy * DA) (7 * (Dx * Dy * 2 ^ 522 * (2 * BA))) := by
  refine ⟨fun j hj => ?_, Nat.mul_pos k.de.1 (by decide), pw_le (mul_pw k.de.2 (show DA ≤ 2 ^ 28 by decide)) (by decide), ?_⟩
  · obtain ⟨h1, h2, h3, _⟩ := k.rest hj
    exact ⟨h2, h1.ov (by have := natR0 (2 ^ 522); grind) h3⟩
  · exact pw_le (mul_pw (show 7 ≤ 2 ^ 3 by decide) (mul_pw (mul_pw k.de.2 (Nat.le_refl (2 ^ 522))) (show 2 * BA ≤ 2 ^ 69 by decide))) (by decide)
theorem Way2.sm_sum (k : Way2 N b e x fs s D wi by_ Dy Dx) {p : Nat} (hp : p < N.many) : Sm (afters N b (headS s by_) p) ∧ Sm (cby N (restF x by_) N.deeds.length p) ∧ Sm (behF N b x s by_ p) := by
  obtain ⟨h1, h2, h3, h4⟩ := k.stand hp
  obtain ⟨g1, g2, g3, g4⟩ := k.behd hp
  refine ⟨sm_of_dn k.dd.1 k.dd.2 (Nat.le_refl _) h1 h3 h4 (by decide), ?_, sm_of_dn k.dd.1 k.dd.2 (Nat.le_refl _) g1 g3 g4 (by decide)⟩
  have e1 : cby N (restF x by_) N.deeds.length p = behF N b x s by_ p - afters N b (headS s by_) p := by
    unfold behF
    grind
  rw [e1]
  exact (g1.sub h1).sm (V := 2 ^ 72) k.dd.1 (by grind) (by grind) (pw_le (mul_pw k.dd.2 (Nat.le_refl (2 ^ 72))) (by decide)) (pw_le k.dd.2 (by decide))
/-- the second walk -/
theorem Way2.walk2 (k : Way2 N b e x fs s D wi by_ Dy Dx) : (∀ p, p < N.many → Ov (D * D0 * Dy) (D * D0 * Dy * 2 ^ 60) (b p)) ∧ OkSteps N (D * D0 * Dy) (D * D0 * Dy * (1 * 2 ^ 41)) (headS s by_) ∧ Bd (D * D0 * Dy) (D * D0 * Dy * 2 ^ 60 + 80 * (D * D0 * Dy * (1 * 2 ^ 41))) ∧ CanW N b (headS s by_) ∧ (∀ e ∈ headS s by_, e.1 < N.deeds.length ∧ 0 < e.2) := by
  obtain ⟨h1, h2⟩ := k.c1
  have dd := k.dd
  have bd : ∀ z : Nat, z ≤ 2 ^ 60 + 80 * (1 * 2 ^ 41) → D * D0 * Dy * z < 2 ^ 4490 := fun z hz => pw_le (mul_pw dd.2 (Nat.le_trans hz (show _ ≤ 2 ^ 61 by decide))) (by decide)
  have ps : ∀ e ∈ headS s by_, ∃ e0 ∈ s, e = (e0.1, e0.2 * by_) := fun e he => by
    obtain ⟨e0, h0, rfl⟩ := List.mem_map.mp he
    exact ⟨e0, h0, rfl⟩
  refine ⟨fun p hp => (k.bdn hp).1.up.ov (by have := k.k.hb.nn p hp; have := natR0 (2 ^ 60); grind) (k.k.hb.up p hp), okS k.k.o (by rw [List.length_map]; exact k.k.ls) (fun e he => ?_) (fun e he => ?_) ⟨dd.1, pw_le dd.2 (by decide), bd 1 (by decide)⟩, ⟨dd.1, pw_le dd.2 (by decide), ?_⟩, can_part k.k.o (fun p hp => k.k.hb.nn p hp) (fun e he => (k.k.w.par e he).1) k.k.w.can h1 h2, fun e he => ?_⟩
  · obtain ⟨e0, h0, rfl⟩ := ps e he
    obtain ⟨q1, q2, q3⟩ := k.k.w.par e0 h0
    have m := Rat.mul_le_mul_of_nonneg_right q3 h1
    have c1 : ((1 : Nat) : Rat) = 1 := rfl
    exact ⟨q1, Rat.mul_pos q2 k.y.pos, by show e0.2 * by_ ≤ ((1 : Nat) : Rat); grind⟩
  · obtain ⟨e0, h0, rfl⟩ := ps e he
    refine ⟨(k.k.w.dp e0 h0).up.mul k.yd, fun x hx => ?_⟩
    have q := ((k.k.w.ds e0 h0 x hx).up (E := D0)).mul k.yd
    have e1 : e0.2 * by_ * x.2 = e0.2 * x.2 * by_ := by grind
    show Dn _ (e0.2 * by_ * x.2)
    rw [e1]
    exact q
  · rw [bd_fac]
    exact bd _ (Nat.le_refl _)
  · obtain ⟨e0, h0, rfl⟩ := ps e he
    obtain ⟨q1, q2, q3⟩ := k.k.w.par e0 h0
    exact ⟨q1, Rat.mul_pos q2 k.y.pos⟩
end
end Tk
end
section
set_option Elab.async false
set_option linter.all false
set_option maxRecDepth 100000
set_option maxHeartbeats 4000000
set_option exponentiation.threshold 10000
namespace Tk
open PySem PySem.Spec PyProof.Rows L2
theorem sumN_dn {D : Nat} {f : Nat → Rat} : ∀ {n : Nat}, (∀ i, i < n → Dn D (f i)) → Dn D (sumN f n)
  | 0, _ => ⟨0, by show (0 : Rat) * _ = _; rw [Rat.zero_mul] <;> rfl⟩
  | n + 1, h => (sumN_dn fun i hi => h i (by omega)).add (h n (by omega))
theorem sumN_le {V : Rat} {f : Nat → Rat} : ∀ {n : Nat}, (∀ i, i < n → f i ≤ V) → sumN f n ≤ (n : Rat) * V
  | 0, _ => by
    have e : ((0 : Nat) : Rat) = 0 := rfl
    rw [e, Rat.zero_mul]
    exact Rat.le_refl
  | n + 1, h => by
    have ih := sumN_le (n := n) fun i hi => h i (by omega)
    have h1 := h n (by omega)
    have e : ((n + 1 : Nat) : Rat) = (n : Rat) + 1 := by rw [Rat.natCast_add] <;> rfl
    show sumN f n + f n ≤ _
    rw [e]
    grind
theorem sumN_pos {f : Nat → Rat} : ∀ {n : Nat}, 0 < sumN f n → ∃ i, i < n ∧ 0 < f i
  | 0, h => absurd h Rat.lt_irrefl
  | n + 1, h => by
    have h : 0 < sumN f n + f n := h
    by_cases q : 0 < f n
    · exact ⟨n, by omega, q⟩
    · obtain ⟨i, hi, g⟩ := sumN_pos (f := f) (n := n) (by grind)
      exact ⟨i, by omega, g⟩
theorem quot_ov {D E B K : Nat} {x d : Rat} (h : d * (D : Rat) = (K : Rat)) (p : 0 < d) (hx : Ov E B x) : Ov (E * K) (B * D) (x / d) := by
  obtain ⟨k, e, hk⟩ := hx
  refine ⟨k * D, ?_, ?_⟩
  · have := Rat.mul_inv_cancel d (by grind)
    rw [Rat.natCast_mul, Rat.intCast_mul, ← e, ← h, Rat.intCast_natCast, Rat.div_def]
    grind
  · rw [Int.natAbs_mul, Int.natAbs_natCast]
    exact Nat.mul_le_mul_right D hk
section
variable {N : Net} {b e x : Nat → Rat} {ws fs : List Nat} {s : Steps} {D Dy Dx : Nat} {wi by_ : Rat}
theorem Way2.wet (k : Way2 N b e x fs s D wi by_ Dy Dx) {p : Nat} (hp : p < N.many) (h : 0 < taken N (restF x by_) p) : 0 < afters N b s p := by
  obtain ⟨j, hj, hpos⟩ := sumN_pos h
  obtain ⟨_, r0, _, riff⟩ := k.rest hj
  obtain ⟨o1, _⟩ := k.k.o.deed (deedAt_of hj)
  have a0 := amt_nn o1 p
  have rp : 0 < restF x by_ j := by
    refine Classical.byContradiction fun z => ?_
    have : restF x by_ j = 0 := by grind
    rw [this, Rat.zero_mul] at hpos
    exact absurd hpos Rat.lt_irrefl
  have xp := riff.mp rp
  have jf : j ∈ fs := Classical.byContradiction fun z => by
    have := k.k.hx.out j hj z
    rw [this] at xp
    exact absurd xp Rat.lt_irrefl
  have pt : p ∈ tk N j := Classical.byContradiction fun z => by
    have hpos : 0 < restF x by_ j * amt (deedAt N j).1 p := hpos
    rw [amt_none z, Rat.mul_zero] at hpos
    exact absurd hpos Rat.lt_irrefl
  obtain ⟨i, hi⟩ := List.getElem?_of_mem (k.k.sub j jf)
  exact k.k.w.wet p hp ((k.k.re.ok i j hi p pt).mono fun j hj => List.mem_of_mem_take hj)
abbrev RR (D Dy : Nat) : Nat := 2 ^ 566 * (D * D0 * Dy)
theorem Way2.term (k : Way2 N b e x fs s D wi by_ Dy Dx) {j : Nat} (hj : j < N.deeds.length) (p : Nat) : Dn (Dx * Dy * DA) (restF x by_ j * amt (deedAt N j).1 p) ∧ 0 ≤ restF x by_ j * amt (deedAt N j).1 p ∧ restF x by_ j * amt (deedAt N j).1 p ≤ ((2 ^ 563 : Nat) : Rat) := by
  obtain ⟨h1, h2, h3, _⟩ := k.rest hj
  obtain ⟨o1, _⟩ := k.k.o.deed (deedAt_of hj)
  have a0 := amt_nn o1 p
  have a1 := amt_le41 o1 p
  refine ⟨h1.mul (amt_dn o1 p), Rat.mul_nonneg h2 a0, ?_⟩
  have e1 : ((2 ^ 563 : Nat) : Rat) = ((2 ^ 522 : Nat) : Rat) * ((2 ^ 41 : Nat) : Rat) := by rw [← Rat.natCast_mul, ← Nat.pow_add]
  rw [e1]
  exact Rat.le_trans (Rat.mul_le_mul_of_nonneg_right h3 a0) (Rat.mul_le_mul_of_nonneg_left a1 (natR0 _))
theorem Way2.tk_dn (k : Way2 N b e x fs s D wi by_ Dy Dx) (p : Nat) {i : Nat} (hi : i ≤ N.deeds.length) : Dn (Dx * Dy * DA) (dotN (restF x by_) (tkv N p) i) ∧ 0 ≤ dotN (restF x by_) (tkv N p) i ∧ dotN (restF x by_) (tkv N p) i ≤ ((2 ^ 566 : Nat) : Rat) := by
  have l7 := k.k.o.2.2.1
  refine ⟨sumN_dn fun j hj => (k.term (by omega) p).1, sumN_nonneg fun j hj => (k.term (by omega) p).2.1, ?_⟩
  have h1 : dotN (restF x by_) (tkv N p) i ≤ (i : Rat) * ((2 ^ 563 : Nat) : Rat) := sumN_le fun j hj => (k.term (by omega) p).2.2
  have h2 : (i : Rat) ≤ ((2 ^ 3 : Nat) : Rat) := natR.mpr (by omega)
  have e1 : ((2 ^ 566 : Nat) : Rat) = ((2 ^ 3 : Nat) : Rat) * ((2 ^ 563 : Nat) : Rat) := by rw [← Rat.natCast_mul, ← Nat.pow_add]
  rw [e1]
  exact Rat.le_trans h1 (Rat.mul_le_mul_of_nonneg_right h2 (natR0 _))
theorem Way2.de2 (k : Way2 N b e x fs s D wi by_ Dy Dx) : 0 < Dx * Dy * DA ∧ Dx * Dy * DA ≤ 2 ^ 1430 := ⟨Nat.mul_pos k.de.1 (by decide), mul_pw k.de.2 (show DA ≤ 2 ^ 28 by decide)⟩
theorem Way2.quo (k : Way2 N b e x fs s D wi by_ Dy Dx) {p : Nat} (hp : p < N.many) {l : Rat} (ld : Dn (D * D0 * Dy) l) (l0 : 0 < l) (l1 : l ≤ ((2 ^ 72 : Nat) : Rat)) : Sm (taken N (restF x by_) p / l) ∧ taken N (restF x by_) p ≤ ((RR D Dy : Nat) : Rat) * l := by
  obtain ⟨t1, t2, t3⟩ := k.tk_dn p (Nat.le_refl N.deeds.length)
  obtain ⟨K, k0, k1, k2⟩ := dn_nat k.dd.1 ld l0 l1
  have q := quot_ov k2 l0 (t1.ov (by have := natR0 (2 ^ 566); grind) t3)
  have e1 : Dx * Dy * DA * K ≤ 2 ^ (1430 + (72 + 1652)) := mul_pw k.de2.2 (Nat.le_trans k1 (mul_pw (Nat.le_refl _) k.dd.2))
  have e2 : Dx * Dy * DA * 2 ^ 566 * (D * D0 * Dy) ≤ 2 ^ (1430 + 566 + 1652) := mul_pw (mul_pw k.de2.2 (Nat.le_refl _)) k.dd.2
  refine ⟨q.sm ⟨Nat.mul_pos k.de2.1 k0, pw_le e1 (by decide), pw_le e2 (by decide)⟩, ?_⟩
  · have k1' : (1 : Rat) ≤ (K : Rat) := natR.mpr k0
    rw [Rat.natCast_mul (2 ^ 566)]
    have m := Rat.mul_le_mul_of_nonneg_left k1' (natR0 (2 ^ 566))
    rw [← k2] at m
    have : taken N (restF x by_) p ≤ ((2 ^ 566 : Nat) : Rat) := t3
    grind
theorem Way2.rd (k : Way2 N b e x fs s D wi by_ Dy Dx) {p : Nat} (hp : p < N.many) : RdOk N (restF x by_) (afters N b (headS s by_)) (behF N b x s by_) (RR D Dy) p := by
  obtain ⟨s1, s2, s3⟩ := k.sm_sum hp
  obtain ⟨h1, h2, h3, h4⟩ := k.stand hp
  obtain ⟨g1, g2, g3, g4⟩ := k.behd hp
  refine ⟨fun j hj => ?_, fun i hi => ?_, s1, s3, fun ht => ?_⟩
  · obtain ⟨q1, q2, q3⟩ := k.term hj p
    exact ⟨(k.sm_rest hj).2, (amt_ovA (k.k.o.deed (deedAt_of hj)).1 p).smA, sm_of_dn k.de2.1 k.de2.2 (Nat.le_refl _) q1 q2 q3 (by decide)⟩
  · obtain ⟨q1, q2, q3⟩ := k.tk_dn p hi
    exact sm_of_dn k.de2.1 k.de2.2 (Nat.le_refl _) q1 q2 q3 (by decide)
  · have w := Rat.mul_pos k.y.pos (k.wet hp ht)
    have sp : 0 < afters N b (headS s by_) p := by grind
    have bp : 0 < behF N b x s by_ p := by grind
    obtain ⟨a1, a2⟩ := k.quo hp h1 sp h4
    obtain ⟨a3, a4⟩ := k.quo hp g1 bp g4
    exact ⟨sp, bp, a1, a3, a2, a4⟩
theorem Way2.rr (k : Way2 N b e x fs s D wi by_ Dy Dx) : 1 ≤ RR D Dy ∧ RR D Dy ≤ 2 ^ 2218 := ⟨Nat.mul_pos (by decide) k.dd.1, mul_pw (Nat.le_refl (2 ^ 566)) k.dd.2⟩
theorem inv_r {r : Nat} (h : 1 ≤ r) : Rat.divInt 1 (r : Int) * (r : Rat) = 1 ∧ 0 < Rat.divInt 1 (r : Int) ∧ Rat.divInt 1 (r : Int) ≤ 1 := by
  have p : (0 : Rat) < r := natRp h
  have e : Rat.divInt 1 (r : Int) = (r : Rat)⁻¹ := by
    rw [Rat.divInt_eq_div, Rat.intCast_natCast, Rat.div_def]
    have : ((1 : Int) : Rat) = 1 := rfl
    rw [this, Rat.one_mul]
  have ip := Rat.inv_pos.mpr p
  have m := Rat.inv_mul_cancel (r : Rat) (by grind)
  have r1 : (1 : Rat) ≤ r := natR.mpr h
  have q := Rat.mul_le_mul_of_nonneg_left r1 (Rat.le_of_lt ip)
  rw [e]
  exact ⟨m, ip, by grind⟩
theorem mid_after (k : Way2 N b e x fs s D wi by_ Dy Dx) (r : Nat) (v : Nat → Rat) (p : Nat) : afters N v (midS N.deeds.length (restF x by_) r) p = v p + Rat.divInt 1 (r : Int) * cby N (restF x by_) N.deeds.length p := by
  unfold midS
  rw [afters_list N (fun j => restF x by_ j * Rat.divInt 1 (r : Int)) p, pos_sum (fun j hj => (k.rest hj).2.1)]
  rfl
theorem mid_used (k : Way2 N b e x fs s D wi by_ Dy Dx) (r p : Nat) : usedL N (midS N.deeds.length (restF x by_) r) p = Rat.divInt 1 (r : Int) * taken N (restF x by_) p := by
  unfold midS
  rw [used_list N (fun j => restF x by_ j * Rat.divInt 1 (r : Int)) p, pos_sum (fun j hj => (k.rest hj).2.1)]
  rfl
theorem mid_lap (k : Way2 N b e x fs s D wi by_ Dy Dx) (r p : Nat) (c : Rat) : lapV N b (headS s by_) (midS N.deeds.length (restF x by_) r) c p = afters N b (headS s by_) p + c * (Rat.divInt 1 (r : Int) * (behF N b x s by_ p - afters N b (headS s by_) p)) := by
  unfold lapV
  rw [mid_after k]
  have e1 : behF N b x s by_ p - afters N b (headS s by_) p = cby N (restF x by_) N.deeds.length p := by
    unfold behF
    grind
  rw [e1, Rat.zero_add]
theorem dn_r {E B r : Nat} {x q : Rat} (h : Ov E B x) (hq : q * (r : Rat) = 1) : Ov (E * r) B (x * q) := by
  obtain ⟨k, e, hk⟩ := h
  refine ⟨k, ?_, hk⟩
  rw [Rat.natCast_mul, ← e]
  have : x * q * ((E : Rat) * (r : Rat)) = x * (E : Rat) * (q * (r : Rat)) := by grind
  rw [this, hq, Rat.mul_one]
theorem dn_rd {E r : Nat} {x q : Rat} (h : Dn E x) (hq : q * (r : Rat) = 1) : Dn (E * r) (x * q) := by
  obtain ⟨k, e⟩ := h
  refine ⟨k, ?_⟩
  rw [Rat.natCast_mul, ← e]
  have : x * q * ((E : Rat) * (r : Rat)) = x * (E : Rat) * (q * (r : Rat)) := by grind
  rw [this, hq, Rat.mul_one]
/-- the run is a good one -/
theorem Way2.run (k : Way2 N b e x fs s D wi by_ Dy Dx) {r : Nat} (r1 : 1 ≤ r) (rR : r ≤ RR D Dy) (hr : ∀ p, p < N.many → RdRes N (restF x by_) (afters N b (headS s by_)) (behF N b x s by_) r p) : RunOk N b e wi (headS s by_) (midS N.deeds.length (restF x by_) r) r := by
  obtain ⟨q1, q0, qle⟩ := inv_r r1
  have l7 := k.k.o.2.2.1
  obtain ⟨w1, w2, w3, w4, w5⟩ := k.walk2
  have r2 := k.rr.2
  have rbig : r ≤ 2 ^ 2218 := Nat.le_trans rR r2
  have pl : (posL N.deeds.length (restF x by_)).length ≤ 7 := by
    have q := List.length_filter_le (fun p => decide (0 < restF x by_ p)) (List.range N.deeds.length)
    rw [List.length_range] at q
    exact Nat.le_trans q l7
  have pm : ∀ e ∈ midS N.deeds.length (restF x by_) r, ∃ j, j < N.deeds.length ∧ 0 < restF x by_ j ∧ e = (j, restF x by_ j * Rat.divInt 1 (r : Int)) := fun e he => by
    obtain ⟨j, hj, rfl⟩ := List.mem_map.mp he
    have := List.mem_filter.mp hj
    exact ⟨j, List.mem_range.mp this.1, of_decide_eq_true this.2, rfl⟩
  have pm2 : ∀ e ∈ midS N.deeds.length (restF x by_) r, e.1 < N.deeds.length ∧ 0 < e.2 := fun e he => by
    obtain ⟨j, h1, h2, rfl⟩ := pm e he
    exact ⟨h1, Rat.mul_pos h2 q0⟩
  have lap1 : ∀ p, p < N.many → lapV N b (headS s by_) (midS N.deeds.length (restF x by_) r) ((r : Rat) - 1) p = Rat.divInt 1 (r : Int) * afters N b (headS s by_) p + (1 - Rat.divInt 1 (r : Int)) * behF N b x s by_ p := fun p _ => by
    rw [mid_lap k]
    have : ((r : Rat) - 1) * (Rat.divInt 1 (r : Int) * (behF N b x s by_ p - afters N b (headS s by_) p)) = (Rat.divInt 1 (r : Int) * (r : Rat) - Rat.divInt 1 (r : Int)) * (behF N b x s by_ p - afters N b (headS s by_) p) := by grind
    rw [this, q1]
    grind
  have lapr : ∀ p, lapV N b (headS s by_) (midS N.deeds.length (restF x by_) r) (r : Rat) p = behF N b x s by_ p := fun p => by
    rw [mid_lap k]
    have : (r : Rat) * (Rat.divInt 1 (r : Int) * (behF N b x s by_ p - afters N b (headS s by_) p)) = Rat.divInt 1 (r : Int) * (r : Rat) * (behF N b x s by_ p - afters N b (headS s by_) p) := by grind
    rw [this, q1]
    grind
  have lap0 : ∀ p, lapV N b (headS s by_) (midS N.deeds.length (restF x by_) r) 0 p = afters N b (headS s by_) p := fun p => by
    rw [mid_lap k, Rat.zero_mul, Rat.add_zero]
  have tkle : ∀ p, p < N.many → 0 < usedL N (midS N.deeds.length (restF x by_) r) p → usedL N (midS N.deeds.length (restF x by_) r) p ≤ afters N b (headS s by_) p ∧ usedL N (midS N.deeds.length (restF x by_) r) p ≤ behF N b x s by_ p := fun p hp h => by
    rw [mid_used k] at h ⊢
    have tp : 0 < taken N (restF x by_) p := by
      refine Classical.byContradiction fun z => ?_
      have := Rat.mul_nonneg (Rat.le_of_lt q0) (show 0 ≤ -taken N (restF x by_) p by grind)
      grind
    obtain ⟨h1, h2⟩ := hr p hp tp
    have m1 := Rat.mul_le_mul_of_nonneg_left h1 (Rat.le_of_lt q0)
    have m2 := Rat.mul_le_mul_of_nonneg_left h2 (Rat.le_of_lt q0)
    rw [← Rat.mul_assoc, q1, Rat.one_mul] at m1 m2
    exact ⟨m1, m2⟩
  have E0 : 0 < D * D0 * Dy * Dx := Nat.mul_pos k.dd.1 k.x0
  have E1 : D * D0 * Dy * Dx ≤ 2 ^ 2174 := mul_pw k.dd.2 k.x1
  have M0 : 0 < D * D0 * Dy * Dx * r := Nat.mul_pos E0 r1
  have M1 : D * D0 * Dy * Dx * r ≤ 2 ^ 4392 := mul_pw E1 rbig
  have dnM : ∀ {z : Rat}, Dn (D * D0 * Dy * r) z → Dn (D * D0 * Dy * Dx * r) z := fun h => h.of ⟨Dx, by rw [Nat.mul_right_comm]⟩
  have dnV : ∀ {z : Rat}, Dn (D * D0 * Dy) z → Dn (D * D0 * Dy * Dx * r) z := fun h => dnM h.up
  refine ⟨r1, by unfold Sz; rw [Int.natAbs_natCast]; exact pw_le rbig (by decide), by rw [List.length_map]; exact k.k.ls, by unfold midS; rw [List.length_map]; exact pl, ?_, ?_, w5, pm2, w4, ?_, ?_, fun p hp => ?_, D * D0 * Dy * Dx * r, D * D0 * Dy * Dx * r * 2 ^ 73, D * D0 * Dy * Dx * 2 ^ 563 + D * D0 * Dy * Dx * r * 2 ^ 41, ?_, ?_, ?_, fun p hp => ?_⟩
  · have e1 : (headS s by_).map (·.1) = s.map (·.1) := by rw [List.map_map]; rfl
    rw [e1]
    exact k.k.re.nd
  · have e1 : (midS N.deeds.length (restF x by_) r).map (·.1) = posL N.deeds.length (restF x by_) := by
      unfold midS
      rw [List.map_map]
      conv => rhs; rw [← List.map_id (posL N.deeds.length (restF x by_))]
      exact List.map_congr_left fun _ _ => rfl
    rw [e1]
    exact List.nodup_range.filter _
  · exact can_used k.k.o pm2 fun p hp h => by rw [lap0]; exact (tkle p hp h).1
  · refine can_used k.k.o pm2 fun p hp h => ?_
    obtain ⟨t1, t2⟩ := tkle p hp h
    rw [lap1 p hp]
    have m1 := Rat.mul_le_mul_of_nonneg_left t1 (Rat.le_of_lt q0)
    have m2 := Rat.mul_le_mul_of_nonneg_left t2 (show 0 ≤ 1 - Rat.divInt 1 (r : Int) by grind)
    grind
  · rw [lapr, k.beh hp]
    have e1 : (1 - by_) * e p + by_ * afters N b s p - e p = by_ * (afters N b s p - e p) := by grind
    have h1 := k.y.le p hp
    unfold diffA at h1
    have h2 := absR_nn (afters N b s p - e p)
    have c1 := k.c1.1
    rw [e1]
    refine absR_le ?_ ?_
    · have : afters N b s p - e p ≤ absR (afters N b s p - e p) := by unfold absR; split <;> grind
      exact Rat.le_trans (Rat.mul_le_mul_of_nonneg_left this c1) h1
    · have : -(afters N b s p - e p) ≤ absR (afters N b s p - e p) := by unfold absR; split <;> grind
      have q := Rat.le_trans (Rat.mul_le_mul_of_nonneg_left this c1) h1
      grind
  · refine ⟨by rw [List.length_map]; exact k.k.ls, fun e he => ?_⟩
    obtain ⟨h1, h2, h3⟩ := w2.2 e he
    refine ⟨h1, h2, fun y hy => ?_⟩
    have q := (h3 y hy).up (Dx * r)
    rw [← Nat.mul_assoc, Nat.one_mul] at q
    refine q.mono ?_
    have e1 : D * D0 * Dy * 2 ^ 41 * (Dx * r) = D * D0 * Dy * Dx * r * 2 ^ 41 := by
      rw [Nat.mul_right_comm, ← Nat.mul_assoc]
    rw [e1]
    exact Nat.le_add_left _ _
  · refine ⟨by unfold midS; rw [List.length_map]; exact pl, fun e he => ?_⟩
    obtain ⟨j, h1, h2, rfl⟩ := pm e he
    obtain ⟨g1, g2, g3, _⟩ := k.rest h1
    refine ⟨h1, ?_, fun y hy => ?_⟩
    · refine (dn_r (g1.ov (V := 2 ^ 522) (by have := natR0 (2 ^ 522); grind) g3) q1).sm ⟨Nat.mul_pos k.de.1 r1, pw_le (mul_pw k.de.2 rbig) (by decide), pw_le (mul_pw k.de.2 (Nat.le_refl (2 ^ 522))) (by decide)⟩
    · obtain ⟨o1, o2⟩ := k.k.o.deed (deedAt_of h1)
      have oa : Ov DA BA y.2 ∧ 0 < y.2 := by
        rcases List.mem_append.mp hy with h | h
        · exact (o1.1 y h).2
        · exact (o2.1 y h).2
      have v1 := oa.1.val2 (V := 2 ^ 41) (by decide) (by decide +kernel)
      have n1 := Rat.mul_nonneg g2 (Rat.le_of_lt oa.2)
      have u1 := Rat.mul_le_mul_of_nonneg_right g3 (Rat.le_of_lt oa.2)
      have u2 := Rat.mul_le_mul_of_nonneg_left v1 (natR0 (2 ^ 522))
      have e1 : ((2 ^ 563 : Nat) : Rat) = ((2 ^ 522 : Nat) : Rat) * ((2 ^ 41 : Nat) : Rat) := by rw [← Rat.natCast_mul, ← Nat.pow_add]
      have t1 : Ov (Dx * Dy * DA) (Dx * Dy * DA * 2 ^ 563) (restF x by_ j * y.2) := (g1.mul oa.1.dn).ov (by have := natR0 (2 ^ 563); grind) (by rw [e1]; exact Rat.le_trans u1 u2)
      have t2 := (dn_r t1 q1).up (D * 27720)
      have e2 : restF x by_ j * Rat.divInt 1 (r : Int) * y.2 = restF x by_ j * y.2 * Rat.divInt 1 (r : Int) := by grind
      show Ov _ _ (restF x by_ j * Rat.divInt 1 (r : Int) * y.2)
      rw [e2]
      have e3 : Dx * Dy * DA * r * (D * 27720) = D * D0 * Dy * Dx * r := by
        show Dx * Dy * DA * r * (D * 27720) = D * (DA * 27720) * Dy * Dx * r
        simp only [Nat.mul_assoc, Nat.mul_comm, Nat.mul_left_comm]
      have e4 : Dx * Dy * DA * 2 ^ 563 * (D * 27720) = D * D0 * Dy * Dx * 2 ^ 563 := by
        generalize 2 ^ 563 = Z
        show Dx * Dy * DA * Z * (D * 27720) = D * (DA * 27720) * Dy * Dx * Z
        simp only [Nat.mul_assoc, Nat.mul_comm, Nat.mul_left_comm]
      rw [e3, e4] at t2
      exact t2.mono (Nat.le_add_right _ _)
  · refine ⟨M0, pw_le M1 (by decide), ?_⟩
    have b1 : D * D0 * Dy * Dx * r * 2 ^ 73 ≤ 2 ^ 4465 := mul_pw M1 (Nat.le_refl _)
    have b2 : D * D0 * Dy * Dx * 2 ^ 563 ≤ 2 ^ 2737 := mul_pw E1 (Nat.le_refl _)
    have b3 : D * D0 * Dy * Dx * r * 2 ^ 41 ≤ 2 ^ 4433 := mul_pw M1 (Nat.le_refl _)
    have b4 : 4 * 2 ^ 4465 + 80 * (2 ^ 2737 + 2 ^ 4433) < 2 ^ 4490 := by decide +kernel
    exact Nat.lt_of_le_of_lt (Nat.add_le_add (Nat.mul_le_mul_left 4 b1) (Nat.mul_le_mul_left 80 (Nat.add_le_add b2 b3))) b4
  · obtain ⟨h1, h2, h3, h4⟩ := k.stand hp
    obtain ⟨g1, g2, g3, g4⟩ := k.behd hp
    have c1 : ((2 ^ 72 : Nat) : Rat) ≤ ((2 ^ 73 : Nat) : Rat) := natR.mpr (by decide)
    have c2 : ((2 ^ 60 : Nat) : Rat) ≤ ((2 ^ 73 : Nat) : Rat) := natR.mpr (by decide)
    have z0 := natR0 (2 ^ 73)
    have fin : ∀ {z : Rat}, Dn (D * D0 * Dy * Dx * r) z → 0 ≤ z → z ≤ ((2 ^ 73 : Nat) : Rat) → Ov (D * D0 * Dy * Dx * r) (D * D0 * Dy * Dx * r * 2 ^ 73) z := fun d l u => d.ov (by grind) u
    refine ⟨fin (dnV (k.bdn hp).1.up) (k.k.hb.nn p hp) (Rat.le_trans (k.k.hb.up p hp) c2), fin (dnV (k.bdn hp).2.up) (k.k.he.nn p hp) (Rat.le_trans (k.k.he.up p hp) c2), ?_, ?_, ?_⟩
    · rw [lap0]
      exact fin (dnV h1) h3 (Rat.le_trans h4 c1)
    · rw [lap1 p hp]
      have m1 := Rat.mul_nonneg (Rat.le_of_lt q0) h3
      have m2 := Rat.mul_nonneg (show 0 ≤ 1 - Rat.divInt 1 (r : Int) by grind) g3
      have m3 := Rat.mul_le_mul_of_nonneg_left h4 (Rat.le_of_lt q0)
      have m4 := Rat.mul_le_mul_of_nonneg_left g4 (show 0 ≤ 1 - Rat.divInt 1 (r : Int) by grind)
      refine fin (dnM ?_) (by grind) (by grind)
      have e1 : Rat.divInt 1 (r : Int) * afters N b (headS s by_) p + (1 - Rat.divInt 1 (r : Int)) * behF N b x s by_ p = behF N b x s by_ p + (afters N b (headS s by_) p - behF N b x s by_ p) * Rat.divInt 1 (r : Int) := by grind
      rw [e1]
      exact g1.up.add (dn_rd (h1.sub g1) q1)
    · rw [lapr]
      exact fin (dnV g1) g3 (Rat.le_trans g4 c1)
end
end Tk
end
section
set_option Elab.async false
set_option linter.all false
set_option maxRecDepth 100000
set_option maxHeartbeats 4000000
set_option exponentiation.threshold 10000
namespace Tk
open PySem PySem.Spec PyProof.Rows L2
/-! ### approach -/
def spAp (K : PySem.W.Frag) (CF : Addr) : Sp := fun vs H Q E => ∃ (F : Hp) (nv bv ev iv : V) (N : Net) (b e : Nat → Rat) (wi : Rat), vs = [nv, bv, ev, iv] ∧ Same F H ∧ DD K F nv (netD N) ∧ DD K F bv (vD N.many b) ∧ DD K F ev (vD N.many e) ∧ DD K F iv (fr wi) ∧ OkNet N ∧ EOk N b ∧ EOk N e ∧ WiOk wi ∧
  (∀ ws fs x s m r v F' H', CanBe N b ws fs → NearOk N b e fs x → RunOk N b e wi s m r → Gr F H F' H' → DD K F' v (.list (runL s m r)) → Q v H') ∧
  (∀ ws fs x d pl pw F' H', CanBe N b ws fs → FarOk N b e fs x → Gr F H F' H' → H' d = some (.xd [("weights", .ref pw), ("places", .ref pl)]) → H d = none → H pl = none → H pw = none → pl ≠ pw → DD K F' (.ref pl) (natD ((List.range N.many).filter fun p => !decide (p ∈ ws))) → DD K F' (.ref pw) (vD N.many x) → E (.ref CF) (some d) H')
abbrev nA : List Str := ["net", "begin", "end", "within", "told", "deeds", "first", "by", "ahead", "rest", "stand", "behind"]
theorem sc_approach : FnScope nA ["net", "begin", "end", "within"] (defScope (top 61)) := ⟨rfl, rfl, rfl, by decide +kernel, rfl, by decide +kernel, by decide +kernel⟩
abbrev XA (P : Program) (w : World) (K : PySem.W.Frag) (mg : Str → Option Value) (base : Heap) (f : Addr) (cdv : Value) (A0 : Around) (outer : List Env) (s0 : Shared) (H : Hp) (E : XK) : Cx := (cxOf (CX P w) P w K mg base nA "approach" (defScope (top 61)) f cdv A0 outer s0 H E).nox
structure GA (P : Program) (w : World) (K : PySem.W.Frag) (mg : Str → Option Value) (base : Heap) : Prop where
  near : Fn P w K mg base "near" 7 (spNear K)
  wetting : Fn P w K mg base "wetting" 5 (spD K RWetting)
  walk : Fn P w K mg base "walk" 6 (spD K RWalk)
  share_of_way : Fn P w K mg base "share_of_way" 4 (spD K RShare)
  times : Fn P w K mg base "times" 4 (spD K RTimes)
  lessened : Fn P w K mg base "lessened" 3 (spD K (R2F (· - ·)))
  scaled : Fn P w K mg base "scaled" 4 (spD K RScaled)
  summed : Fn P w K mg base "summed" 4 (spD K (RV2 (· + ·)))
  change_by : Fn P w K mg base "change_by" 6 (spD K RChangeBy)
  middle_turn : Fn P w K mg base "middle_turn" 6 (spD K RMiddle)
section
variable {P : Program} {w : World} {K : PySem.W.Frag} {mg : Str → Option Value} {base : Heap} {f CT CF fI : Addr} {fd fdI : FuncData} {aN aO aT aH : Addr}
theorem ok_approach (F : FnT K "approach" (top 61) f fd) (B : Bt mg) (C : Cst K mg aN aO aT aH) (G : GA P w K mg base) (T : FarT K mg CT CF) (iC : PySem.W.findIn K (.ref CF) "__init__" = some (some (.ref fI))) (tI : PySem.W.typeIn K (.ref fI) = some (.type "function"))
    (FI : FnOk P w K mg base CX0 1 fI fdI ["self", "places", "weights"] (spFI K CF)) (bI : Binds K fdI ["self", "places", "weights"] []) : FnOk P w K mg base (CX P w) 8 f fd ["net", "begin", "end", "within"] (spAp K CF) := by
  have nd := sc_approach.nd
  refine F.ok sc_approach (fun vs H Q E h => ?_) (fun cdv A0 outer s0 H vs Q E hr h => ?_)
  · obtain ⟨F', nv, bv, ev, iv, N, b, e, wi, rfl, _⟩ := h
    rfl
  obtain ⟨Fz, nv, bv, ev, iv, N, b, e, wi, rfl, sub, dn, db, de, di, o, hb, he, hw, hQ1, hQ2⟩ := h
  have l5 := o.2.1
  have l7 := o.2.2.1
  have br : SSs (XA P w K mg base f cdv A0 outer s0 H E) [sAt (defBody (top 61)) 2, sAt (defBody (top 61)) 3, sAt (defBody (top 61)) 4, sAt (defBody (top 61)) 5, sAt (defBody (top 61)) 6, sAt (defBody (top 61)) 7, sAt (defBody (top 61)) 8, sAt (defBody (top 61)) 9] _ _ :=
    sss_cons (ss_set 5 nd (se_ofN (sn_listR B.list B.range rfl (se_len B.len (se_ixT (sv 0) se_int)))))
    (sss_cons (ss_set 6 nd (se_call G.wetting hr (sa_cons (sv 0) (sa_cons (sv 1) (sa_cons (sv 5) (sa_cons (se_rep (se_lst (sa_cons C.ONE sa_nil)) (se_len B.len (sv 5))) sa_nil))))))
    (sss_cons (ss_set 7 nd (se_call G.share_of_way hr (sa_cons (se_call G.walk hr (sa_cons (sv 0) (sa_cons (sv 1) (sa_cons (sv 6) sa_nil)))) (sa_cons (sv 2) (sa_cons (sv 3) sa_nil)))))
    (sss_cons (ss_set 8 nd (se_call G.times hr (sa_cons (sv 6) (sa_cons (sv 7) sa_nil))))
    (sss_cons (ss_set 9 nd (se_call G.scaled hr (sa_cons (se_ixT (sv 4) se_int) (sa_cons (se_call G.lessened hr (sa_cons C.ONE (sa_cons (sv 7) sa_nil))) sa_nil))))
    (sss_cons (ss_set 10 nd (se_call G.walk hr (sa_cons (sv 0) (sa_cons (sv 1) (sa_cons (sv 8) sa_nil)))))
    (sss_cons (ss_set 11 nd (se_call G.summed hr (sa_cons (sv 10) (sa_cons (se_call G.change_by hr (sa_cons (sv 0) (sa_cons (sv 9) sa_nil))) sa_nil))))
    (sss_one (ss_ret (se_cat (sv 8) (se_call G.middle_turn hr (sa_cons (sv 0) (sa_cons (sv 9) (sa_cons (sv 10) (sa_cons (sv 11) sa_nil))))))))))))))
  obtain ⟨fN, fdN, psN, FN, hmN, kpN, bN⟩ := G.near
  refine ⟨_, pss_cons (ps_set (i := 4) nd rfl (Or.inl rfl) (pe_call (E := E0) FN (hr.mono (by decide)) rfl hmN kpN bN .nil pass0 (pa_cons (pv 0) (pa_cons (pv 1) (pa_cons (pv 2) pa_nil)))))
    (pss_cons (ps_if (pt_cmpR op_eq (pe_ix ix_tup (pv 4) pe_int (fun _ _ => rfl)) pe_str (nomark _))
      (pss_one (ps_raise rfl (takes_of rfl rfl rfl rfl) (pmk_oex T.oF iC tI FI (hr.mono (by decide)) bI .nil pass0 rfl T.mF (pa_cons (pe_ix ix_tup (pv 4) pe_int (fun _ _ => rfl)) (pa_cons (pe_ix ix_tup (pv 4) pe_int (fun _ _ => rfl)) pa_nil))))) pss_nil)
    (PSs.nox br.p)), ?_⟩
  refine go_seq ⟨_, rfl, _, rfl, _, rfl, Fz, nv, bv, ev, N, b, e, rfl, sub, dn, db, de, o, hb, he, fun ws fs x v F1 H1 c hx g1 dv => ?_, fun ws fs x t pl pw F1 H1 c hx g1 ht _ hpl hpw hne dpl dpw => ?_⟩
  · obtain ⟨t, tvs, rfl, sq, htv⟩ := dv.tup_v
    obtain ⟨t1, t2, rfl, d1, d2⟩ := htv.two
    have e1 : t1 = .str strN := by cases d1; rfl
    subst e1
    refine go_seq ⟨_, rfl, t, _, 0, _, rfl, rfl, sameT g1.fh sq, rfl, rfl, _, rfl, ?_⟩
    rw [show decide (L2.V.str strN = L2.V.str "far") = false by decide +kernel]
    refine iteF ?_
    have z1 : Zs K F1 [.fz (netD N), .fz (vD N.many b), .fz (vD N.many e), .fz (fr wi), .fz (pr (.str strN) (vD N.deeds.length x)), .no, .no, .no, .no, .no, .no, .no] ((L2.start nA [nv, bv, ev, iv]).set 4 (some (.ref t))) := .fz (dn.mono g1.ff) (.fz (db.mono g1.ff) (.fz (de.mono g1.ff) (.fz (di.mono g1.ff) (.fz dv (.no (.no (.no (.no (.no (.no (.no .nil)))))))))))
    refine br.s (fun _ => False) F1 H1 _ _ F1 H1 (endsD fun d => ∃ s m r, RunOk N b e wi s m r ∧ d = .list (runL s m r)) _ (z1.rp g1.fh) ?_ ⟨fun A σ F' H' hn _ _ => ?_, fun d v A σ F' H' hd r s dd => ?_, fun _ _ _ _ z _ _ => z.elim, fun _ _ _ _ z _ _ => z.elim⟩
    · have hb' : ∀ p, p < N.many → 0 ≤ b p ∧ b p ≤ ((2 ^ 60 : Nat) : Rat) ∧ Dn D0 (b p) := fun p hp => ⟨hb.nn p hp, hb.up p hp, hb.dn p hp⟩
      refine ⟨_, rfl, _, 1, _, rfl, rfl, rfl, _, .inl rfl, N.deeds.length, by rw [List.length_map], by omega, ?_⟩
      have el : ((List.range N.deeds.length).map fun i => PyData.int ((i : Nat) : Int)).length = N.deeds.length := by rw [List.length_map, List.length_range]
      refine ⟨_, rfl, _, rfl, _, rfl, by decide, _, rfl, _, .inl rfl, _, _, rfl, rfl, by omega, by rw [el]; omega, le_line (by show 1 * (((List.range N.deeds.length).map fun i => PyData.int ((i : Nat) : Int)).length : Int).toNat ≤ 1000; rw [el]; omega), N, b, D0, 2 ^ 60, ?_, o, hb', by decide, by decide, Nat.le_refl _, fun s D wst d0 d1 ls re cl => ?_⟩
      · rw [el, Int.toNat_natCast, rep_flat]
        rfl
      have sub' : ∀ j ∈ fs, j ∈ s.map (·.1) := fun j hj => by
        obtain ⟨gs, r, cg, h1, _⟩ := c.ex
        exact (reach_same r cg re cl j).mp ((h1 j).mp hj)
      have k : Way N b e x fs s D wi := ⟨o, hb, he, hx, wst, d0, d1, ls, re, sub', hw⟩
      obtain ⟨w1, w2, w3⟩ := k.walk1
      refine ⟨_, rfl, _, rfl, _, rfl, N, b, s, _, _, _, rfl, o, w1, w2, w3, wst.can, ?_⟩
      refine ⟨_, rfl, _, rfl, N.many, afters N b s, e, wi, rfl, by omega, hw.pos, sm_wi hw, fun p hp => k.share hp, fun by_ y => ?_⟩
      obtain ⟨Dy, y0, y1, yd⟩ := k.by_dn y
      obtain ⟨Dx, x0, x1, xd⟩ := hx.sz
      have k2 : Way2 N b e x fs s D wi by_ Dy Dx := ⟨k, y, y0, y1, yd, x0, x1, xd⟩
      obtain ⟨sb, _, s1b⟩ := k2.sm_by
      refine ⟨_, rfl, _, rfl, s, by_, rfl, ls, fun e he => (w2.2 e he).2.1, sb, ?_⟩
      refine ⟨_, rfl, _, 1, _, rfl, rfl, rfl, _, rfl, 1, by_, rfl, sm_one, sb, N.deeds.length, x, 1 - by_, rfl, by omega, fun j hj => (k2.sm_rest hj).1, s1b, ?_⟩
      obtain ⟨v1, v2, v3, v4, v5⟩ := k2.walk2
      refine ⟨_, rfl, _, rfl, _, rfl, N, b, headS s by_, _, _, _, rfl, o, v1, v2, v3, v4, ?_⟩
      obtain ⟨c1, c2⟩ := k2.chby
      refine ⟨_, rfl, _, rfl, _, rfl, N, restF x by_, Dx * Dy, _, rfl, o, c1, k2.de.1, c2, N.many, afters N b (headS s by_), cby N (restF x by_) N.deeds.length, rfl, by omega, fun p hp => ⟨(k2.sm_sum hp).1, (k2.sm_sum hp).2.1⟩, ?_⟩
      refine ⟨_, rfl, _, rfl, _, rfl, _, rfl, _, rfl, N, restF x by_, afters N b (headS s by_), behF N b x s by_, RR D Dy, rfl, o, k2.rr.1, pw_le k2.rr.2 (by decide), fun p hp => k2.rd hp, fun j hj => (k2.sm_rest hj).2, fun r r1 rR hr => ?_⟩
      have run := k2.run r1 rR hr
      have e1 : midD N.deeds.length (restF x by_) r = .list (if midS N.deeds.length (restF x by_) r = [] then [] else [turnD (r : Int) (midS N.deeds.length (restF x by_) r)]) := by
        unfold midD
        by_cases q : posL N.deeds.length (restF x by_) = []
        · rw [if_pos q, if_pos (by unfold midS; rw [q]; rfl)]
        · rw [if_neg q, if_neg (fun z => q (by unfold midS at z; exact List.map_eq_nil_iff.mp z))]
      rw [e1]
      refine ⟨_, _, rfl, rfl, ?_, headS s by_, _, r, run, rfl⟩
      have l1 := run1_len (headS s by_)
      have l2 : (if midS N.deeds.length (restF x by_) r = [] then ([] : List PyData) else [turnD (r : Int) (midS N.deeds.length (restF x by_) r)]).length ≤ 1 := by
        split
        · exact Nat.zero_le 1
        · exact Nat.le_refl 1
      have l3 : (run1L (headS s by_)).length ≤ 1 := by
        rw [l1]
        split
        · exact Nat.zero_le 1
        · exact Nat.le_refl 1
      exact le_line (show _ ≤ 1000 from Nat.le_trans (Nat.add_le_add l3 l2) (by decide))
    · obtain ⟨s, m, r, _, hn⟩ := hn
      cases hn
    · obtain ⟨s', m, r', hrun, rfl⟩ := hd
      exact hQ1 ws fs x s' m r' v F' H' c hx hrun (g1.trans ⟨fun a o z => r.keep a o z id, s, r.sub, r.new⟩) dd
  · refine go_seq ⟨_, rfl, t, _, 0, _, rfl, rfl, SqT.of ht, rfl, rfl, _, rfl, ?_⟩
    rw [show decide (L2.V.str strF = L2.V.str "far") = true by decide +kernel]
    refine iteT ?_
    refine ⟨_, rfl, t, _, 1, _, rfl, rfl, SqT.of ht, rfl, _, rfl, t, _, 2, _, rfl, rfl, SqT.of ht, rfl, by show 2 ≤ 1000; decide, fun a ha => ⟨a, .ref pl, .ref pw, rfl, upd_same, fun d hd hda => ⟨rfl, d, _, ?_, upd_same, ?_, ?_⟩⟩⟩
    · rw [upd_ne (fun z => hda z.symm), upd_same]
    · rw [upd_ne hda] at hd
      exact hd
    · rw [upd_ne hda] at hd
      have eH : upd (L2.del (upd (upd (upd (upd H1 a (exo a CF none)) d (exd d [("places", .ref pl)])) a (exo a CF (some d))) d (exd d [("weights", .ref pw), ("places", .ref pl)])) a) d (.xd [("weights", .ref pw), ("places", .ref pl)]) = upd H1 d (.xd [("weights", .ref pw), ("places", .ref pl)]) := by
        funext q
        by_cases z1 : q = d
        · rw [z1, upd_same, upd_same]
        · rw [upd_ne z1, upd_ne z1]
          by_cases z2 : q = a
          · rw [z2, L2.del_same, ha]
          · rw [L2.del_ne z2, upd_ne z1, upd_ne z2, upd_ne z1, upd_ne z2]
      have fin := hQ2 ws fs x d pl pw F1 (upd H1 d (.xd [("weights", .ref pw), ("places", .ref pl)])) c hx (g1.trans (Gr.laid g1.fh hd)) upd_same (g1.hh.free hd) hpl hpw hne dpl dpw
      rw [← eH] at fin
      exact fin
end
end Tk
end
section
set_option Elab.async false
set_option linter.all false
set_option maxRecDepth 100000
set_option maxHeartbeats 4000000
set_option exponentiation.threshold 10000
namespace Tk
open PySem PySem.Spec PyProof.Rows L2
/-! ### data that are like themselves -/
mutual
theorem eqv_self : ∀ d : PyData, d.canLay0 = true → PyData.eqv d d = true
  | .none, _ => by rw [PyData.eqv]
  | .bool b, _ => by rw [PyData.eqv]; exact beq_self_eq_true b
  | .int i, _ => by rw [PyData.eqv]; exact beq_self_eq_true i
  | .str x, _ => by rw [PyData.eqv]; exact beq_self_eq_true x
  | .list xs, h => by rw [PyData.eqv]; exact eqv_selfs xs (by rw [PyData.canLay0] at h; exact h)
  | .tuple xs, h => by rw [PyData.eqv]; exact eqv_selfs xs (by rw [PyData.canLay0] at h; exact h)
  | .dict _, h => by rw [PyData.canLay0] at h; cases h
theorem eqv_selfs : ∀ ds : List PyData, PyData.canLayAll0 ds = true → PyData.eqvAll ds ds = true
  | [], _ => by rw [PyData.eqvAll]
  | d :: ds, h => by
    rw [PyData.canLayAll0] at h
    have h := Bool.and_eq_true_iff.mp h
    rw [PyData.eqvAll, eqv_self d h.1, eqv_selfs ds h.2]
    rfl
end
def Lay (k : Nat) (d : PyData) : Prop := d.canLay0 = true ∧ d.depth ≤ k
theorem Lay.int (i : Int) (k : Nat) : Lay k (.int i) := ⟨by rw [PyData.canLay0], by rw [PyData.depth]; exact Nat.zero_le _⟩
theorem lay_all {k : Nat} : ∀ {ds : List PyData}, (∀ d ∈ ds, Lay k d) → PyData.canLayAll0 ds = true ∧ PyData.depthAll ds ≤ k
  | [], _ => ⟨by rw [PyData.canLayAll0], by rw [PyData.depthAll]; exact Nat.zero_le _⟩
  | d :: ds, h => by
    have h1 := h d List.mem_cons_self
    have h2 := lay_all (ds := ds) fun d hd => h d (List.mem_cons_of_mem _ hd)
    refine ⟨by rw [PyData.canLayAll0, h1.1, h2.1]; rfl, ?_⟩
    rw [PyData.depthAll]
    have := h1.2
    have := h2.2
    omega
theorem Lay.list {k : Nat} {ds : List PyData} (h : ∀ d ∈ ds, Lay k d) : Lay (k + 1) (.list ds) := by
  obtain ⟨h1, h2⟩ := lay_all h
  exact ⟨by rw [PyData.canLay0]; exact h1, by rw [PyData.depth]; omega⟩
theorem Lay.tuple {k : Nat} {ds : List PyData} (h : ∀ d ∈ ds, Lay k d) : Lay (k + 1) (.tuple ds) := by
  obtain ⟨h1, h2⟩ := lay_all h
  exact ⟨by rw [PyData.canLay0]; exact h1, by rw [PyData.depth]; omega⟩
theorem Lay.shaped {k : Nat} {d : PyData} (h : Lay k d) (hk : k ≤ 64) : SeqAt.shaped d = true := by
  unfold SeqAt.shaped
  rw [h.1, decide_eq_true (show d.depth ≤ 64 from Nat.le_trans h.2 hk)]
  rfl
theorem Lay.self {k : Nat} {d : PyData} (h : Lay k d) : PyData.eqv d d = true := eqv_self d h.1
theorem lay_fr (x : Rat) : Lay 1 (fr x) := Lay.tuple fun d hd => by
  rcases List.mem_cons.mp hd with rfl | hd
  · exact Lay.int _ 0
  · have : d = .int (x.den : Int) := by simpa using hd
    rw [this]
    exact Lay.int _ 0
theorem lay_mapD {k n : Nat} {g : Nat → PyData} (h : ∀ i, i < n → Lay k (g i)) : Lay (k + 1) (.list (mapD n g)) := Lay.list fun d hd => by
  obtain ⟨i, hi, rfl⟩ := List.mem_map.mp hd
  exact h i (List.mem_range.mp hi)
theorem lay_vD (n : Nat) (v : Nat → Rat) : Lay 2 (vD n v) := lay_mapD fun i _ => lay_fr _
theorem lay_natD (l : List Nat) : Lay 1 (natD l) := Lay.list fun d hd => by
  obtain ⟨i, _, rfl⟩ := List.mem_map.mp hd
  exact Lay.int _ 0
theorem lay_nil : Lay 1 (.list []) := Lay.list fun d hd => nomatch hd
theorem fr_self (x : Rat) : Rat.divInt x.num (x.den : Int) = x := Rat.num_divInt_den x
theorem fr_neg (x : Rat) : PyData.tuple [.int (0 - x.num), .int (x.den : Int)] = fr (-x) := by
  show _ = PyData.tuple [.int (-x).num, .int ((-x).den : Int)]
  rw [Rat.neg_num, Int.zero_sub]
  rfl
theorem fr_int (k : Int) : PyData.tuple [.int k, .int 1] = fr (k : Rat) := rfl
section
variable {P : Program} {w : World} {K : PySem.W.Frag} {mg : Str → Option Value} {base : Heap} {f : Addr} {fd : FuncData} {aN aO aT aH : Addr}
def RLowest : RC := fun ds Q => ∃ a b : Int, ds = [.int a, .int b] ∧ 0 < b ∧ (∀ z g : Int, g ≠ 0 → g.natAbs = Int.gcd a b → CFdiv z g) ∧ Q (fr (Rat.divInt a b))
theorem sc_law_lowest : FnScope ["_law_top", "_law_bottom", "_law_one", "_law_other"] ["_law_top", "_law_bottom"] (defScope (top 65)) := ⟨rfl, rfl, rfl, by decide +kernel, rfl, by decide +kernel, by decide +kernel⟩
theorem ok_law_lowest (F : FnT K "_law_lowest" (top 65) f fd) (B : Bt mg) : FnOk P w K mg base CX0 1 f fd ["_law_top", "_law_bottom"] (spD K RLowest) := by
  have nd := sc_law_lowest.nd
  refine okD F sc_law_lowest (by decide) (fun ds Q h => ?_) (fun cdv A outer s H hr => ?_)
  · obtain ⟨a, b, rfl, _⟩ := h
    rfl
  refine ⟨_, _, (sss_cons (ss_set 2 nd (se_callB call_abs soc_abs B.abs (sa_cons (sv 0) sa_nil)))
      (sss_cons (ss_set 3 nd (sv 1))
      (sss_cons (ss_while PassesOwn.never (st_ne (sv 3) se_int)
      (sss_one (ss_par 2 3 rfl nd (sa_cons (sv 3) (sa_cons (se_mod (sv 2) (sv 3)) sa_nil)))))
      (sss_one (ss_ret (se_tup (sa_cons (se_fdiv (sv 0) (sv 2)) (sa_cons (se_fdiv (sv 1) (sv 2)) sa_nil)))))))), fun ds Q h => ?_⟩
  obtain ⟨a, b, rfl, hb, hz, hQ⟩ := h
  have hg := gcd_pos_of (a := a) (b := b) (by omega)
  refine ⟨_, rfl, _, rfl, _, rfl, ?_⟩
  refine ⟨fun m A => ∃ x y : Nat, A = [.fz (.int a), .fz (.int b), .fz (.int x), .fz (.int y)] ∧ x.gcd y = a.gcd b ∧ m = y, ⟨b.natAbs, a.natAbs, b.natAbs, ?_, rfl, rfl⟩, ?_⟩
  · rw [abs_eq]
    have e : (b.natAbs : Int) = b := by omega
    rw [e]
    rfl
  · rintro y A ⟨x, _, rfl, hg2, rfl⟩
    refine ⟨_, rfl, _, rfl, _, rfl, ?_⟩
    by_cases hy : y = 0
    · subst hy
      refine iteF ?_
      rw [Nat.gcd_zero_right] at hg2
      subst hg2
      refine ⟨_, rfl, _, rfl, _, _, rfl, rfl, hz _ _ (by omega) (by omega), _, rfl, _, rfl, _, _, rfl, rfl, hz _ _ (by omega) (by omega), (by show (2 : Nat) ≤ 1000; decide), ?_⟩
      obtain ⟨h1, h2⟩ := divInt_pos (a := a) hb
      show Q (.tuple [.int (a.fdiv (Int.gcd a b : Int)), .int (b.fdiv (Int.gcd a b : Int))])
      rw [← h1, ← h2]
      exact hQ
    · rw [decide_eq_false (show ¬ ((y : Nat) : Int) = 0 by omega)]
      refine iteT ?_
      have hy0 : 0 < y := by omega
      refine ⟨_, rfl, _, rfl, _, rfl, _, _, rfl, rfl, by omega, _, _, rfl, x % y, Nat.mod_lt _ hy0, y, x % y, ?_, ?_, rfl⟩
      · show [Slot.fz (.int a), .fz (.int b), Slot.fz (.int y), Slot.fz (.int ((x : Int).fmod (y : Int)))] = _
        rw [fmod_nat] <;> rfl
      · rw [← hg2, Nat.gcd_comm x y]
        exact (Nat.gcd_rec y x).symm ▸ Nat.gcd_comm _ _
theorem sc_law_sum : FnScope ["_law_one", "_law_other"] ["_law_one", "_law_other"] (defScope (top 66)) := ⟨rfl, rfl, rfl, by decide +kernel, rfl, by decide +kernel, by decide +kernel⟩
theorem ok_law_sum (F : FnT K "_law_sum" (top 66) f fd) (g_law_lowest : Fn P w K mg base "_law_lowest" 1 (spD K RLowest)) : FnOk P w K mg base CX0 2 f fd ["_law_one", "_law_other"] (spD K (R2F (· + ·))) := by
  have nd := sc_law_sum.nd
  refine okD F sc_law_sum (by decide) (fun ds Q h => ?_) (fun cdv A outer s H hr => ?_)
  · exact h.len
  refine ⟨_, _, (sss_one (ss_ret (se_call g_law_lowest hr (sa_cons (se_add (se_mul (se_ixT (sv 0) se_int) (se_ixT (sv 1) se_int)) (se_mul (se_ixT (sv 1) se_int) (se_ixT (sv 0) se_int))) (sa_cons (se_mul (se_ixT (sv 0) se_int) (se_ixT (sv 1) se_int)) sa_nil))))), fun ds Q h => ?_⟩
  obtain ⟨x, y, rfl, hx, hy, hQ⟩ := h
  obtain ⟨h0, hc⟩ := cf_of (a := x.num * y.den + y.num * x.den) hx.2 hy.2 (den0 x) (den0 y)
  refine ⟨_, rfl, _, 0, _, rfl, rfl, rfl, _, rfl, _, 1, _, rfl, rfl, rfl, _, _, rfl, rfl, hx.1.mul hy.2, ?_⟩
  refine ⟨_, rfl, _, 0, _, rfl, rfl, rfl, _, rfl, _, 1, _, rfl, rfl, rfl, _, _, rfl, rfl, hy.1.mul hx.2, _, _, rfl, rfl, ?_⟩
  refine ⟨_, rfl, _, 1, _, rfl, rfl, rfl, _, rfl, _, 1, _, rfl, rfl, rfl, _, _, rfl, rfl, hx.2.mul hy.2, ?_⟩
  refine ⟨_, _, rfl, Int.mul_pos (den_pos x) (den_pos y), hc, ?_⟩
  rw [← add_divInt]
  exact hQ
theorem sc_law_times : FnScope ["_law_one", "_law_other"] ["_law_one", "_law_other"] (defScope (top 67)) := ⟨rfl, rfl, rfl, by decide +kernel, rfl, by decide +kernel, by decide +kernel⟩
theorem ok_law_times (F : FnT K "_law_times" (top 67) f fd) (g_law_lowest : Fn P w K mg base "_law_lowest" 1 (spD K RLowest)) : FnOk P w K mg base CX0 2 f fd ["_law_one", "_law_other"] (spD K (R2F (· * ·))) := by
  have nd := sc_law_times.nd
  refine okD F sc_law_times (by decide) (fun ds Q h => ?_) (fun cdv A outer s H hr => ?_)
  · exact h.len
  refine ⟨_, _, (sss_one (ss_ret (se_call g_law_lowest hr (sa_cons (se_mul (se_ixT (sv 0) se_int) (se_ixT (sv 1) se_int)) (sa_cons (se_mul (se_ixT (sv 0) se_int) (se_ixT (sv 1) se_int)) sa_nil))))), fun ds Q h => ?_⟩
  obtain ⟨x, y, rfl, hx, hy, hQ⟩ := h
  obtain ⟨h0, hc⟩ := cf_of (a := x.num * y.num) hx.2 hy.2 (den0 x) (den0 y)
  refine ⟨_, rfl, _, 0, _, rfl, rfl, rfl, _, rfl, _, 0, _, rfl, rfl, rfl, _, _, rfl, rfl, hx.1.mul hy.1, ?_⟩
  refine ⟨_, rfl, _, 1, _, rfl, rfl, rfl, _, rfl, _, 1, _, rfl, rfl, rfl, _, _, rfl, rfl, hx.2.mul hy.2, ?_⟩
  refine ⟨_, _, rfl, Int.mul_pos (den_pos x) (den_pos y), hc, ?_⟩
  rw [← mul_divInt]
  exact hQ
theorem sc_law_less : FnScope ["_law_one", "_law_other"] ["_law_one", "_law_other"] (defScope (top 68)) := ⟨rfl, rfl, rfl, by decide +kernel, rfl, by decide +kernel, by decide +kernel⟩
theorem ok_law_less (F : FnT K "_law_less" (top 68) f fd) : FnOk P w K mg base CX0 1 f fd ["_law_one", "_law_other"] (spD K RIsLess) := by
  have nd := sc_law_less.nd
  refine okD F sc_law_less (by decide) (fun ds Q h => ?_) (fun cdv A outer s H hr => ?_)
  · obtain ⟨x, y, rfl, _⟩ := h
    rfl
  refine ⟨_, _, (sss_one (ss_ret (se_lt (se_mul (se_ixT (sv 0) se_int) (se_ixT (sv 1) se_int)) (se_mul (se_ixT (sv 1) se_int) (se_ixT (sv 0) se_int))))), fun ds Q h => ?_⟩
  obtain ⟨x, y, rfl, hx, hy, hQ⟩ := h
  refine ⟨_, rfl, _, 0, _, rfl, rfl, rfl, _, rfl, _, 1, _, rfl, rfl, rfl, _, _, rfl, rfl, hx.1.mul hy.2, ?_⟩
  refine ⟨_, rfl, _, 0, _, rfl, rfl, rfl, _, rfl, _, 1, _, rfl, rfl, rfl, _, _, rfl, rfl, hy.1.mul hx.2, _, _, rfl, rfl, ?_⟩
  have e : decide (x.num * (y.den : Int) < y.num * (x.den : Int)) = decide (x < y) := decide_eq_decide.mpr (lt_num x y)
  show Q (.bool (decide (x.num * (y.den : Int) < y.num * (x.den : Int))))
  rw [e]
  exact hQ
def RWholeL : RC := fun ds Q => ∃ a : Int, ds = [.int a] ∧ Q (.bool true)
theorem sc_law_whole : FnScope ["_law_found"] ["_law_found"] (defScope (top 69)) := ⟨rfl, rfl, rfl, by decide +kernel, rfl, by decide +kernel, by decide +kernel⟩
theorem ok_law_whole (F : FnT K "_law_whole" (top 69) f fd) (B : Bt mg) : FnOk P w K mg base CX0 1 f fd ["_law_found"] (spD K RWholeL) := by
  have nd := sc_law_whole.nd
  refine okD F sc_law_whole (by decide) (fun ds Q h => ?_) (fun cdv A outer s H hr => ?_)
  · obtain ⟨a, rfl, _⟩ := h
    rfl
  refine ⟨_, _, (sss_one (ss_ret (se_and (se_isi (T := "int") B.isinstance B.int_ (sv 0)) (se_one (se_not (se_isi (T := "bool") B.isinstance B.bool_ (sv 0))))))), fun ds Q h => ?_⟩
  obtain ⟨a, rfl, hQ⟩ := h
  refine ⟨_, rfl, _, rfl, _, rfl, ?_⟩
  refine iteT ?_
  exact ⟨_, rfl, _, rfl, _, rfl, hQ⟩
def RIsFrac : RC := fun ds Q => ∃ x : Rat, ds = [fr x] ∧ Sm x ∧ Q (.bool true)
theorem sc_law_is_fraction : FnScope ["_law_found"] ["_law_found"] (defScope (top 70)) := ⟨rfl, rfl, rfl, by decide +kernel, rfl, by decide +kernel, by decide +kernel⟩
theorem ok_law_is_fraction (F : FnT K "_law_is_fraction" (top 70) f fd) (B : Bt mg) (g_law_lowest : Fn P w K mg base "_law_lowest" 1 (spD K RLowest)) (g_law_whole : Fn P w K mg base "_law_whole" 1 (spD K RWholeL)) : FnOk P w K mg base CX0 2 f fd ["_law_found"] (spD K RIsFrac) := by
  have nd := sc_law_is_fraction.nd
  refine okD F sc_law_is_fraction (by decide) (fun ds Q h => ?_) (fun cdv A outer s H hr => ?_)
  · obtain ⟨x, rfl, _⟩ := h
    rfl
  have hu := hr.units
  refine ⟨_, _, (sss_cons (ss_if (sw_or (st_not (st_val (se_isi (T := "tuple") B.isinstance B.tuple_ (sv 0)))) (sw_or (st_ne (se_len B.len (sv 0)) se_int) (sw_or1 (st_not (st_val (se_call g_law_whole hr (sa_cons (se_ixT (sv 0) se_int) sa_nil))))))).t (sss_one (ss_ret se_bl)) sss_nil)
      (sss_cons (ss_if (sw_or (st_not (st_val (se_call g_law_whole hr (sa_cons (se_ixT (sv 0) se_int) sa_nil)))) (sw_or1 (st_lt (se_ixT (sv 0) se_int) se_int))).t (sss_one (ss_ret se_bl)) sss_nil)
      (sss_one (ss_ret (se_eqD hu (se_call g_law_lowest hr (sa_cons (se_ixT (sv 0) se_int) (sa_cons (se_ixT (sv 0) se_int) sa_nil))) (sv 0)))))), fun ds Q h => ?_⟩
  obtain ⟨x, rfl, sx, hQ⟩ := h
  obtain ⟨h0, hc⟩ := cf_of (a := x.num) (i := (x.den : Int)) (j := 1) sx.2 sm_one.1 (den0 x) (by decide)
  rw [Int.mul_one] at hc
  refine ⟨_, rfl, _, rfl, _, rfl, ?_⟩
  refine iteF ?_
  refine ⟨_, rfl, _, .inr rfl, _, rfl, _, rfl, ?_⟩
  refine iteF ?_
  refine ⟨_, rfl, _, 0, _, rfl, rfl, rfl, _, rfl, _, rfl, ?_⟩
  refine iteF ?_
  refine ⟨_, rfl, _, 1, _, rfl, rfl, rfl, _, rfl, _, rfl, ?_⟩
  refine iteF ?_
  refine ⟨_, rfl, _, 1, _, rfl, rfl, rfl, _, _, rfl, rfl, _, rfl, ?_⟩
  rw [decide_eq_false (show ¬ (x.den : Int) < 1 by have := den_pos x; omega)]
  refine iteF ?_
  refine ⟨_, rfl, _, 0, _, rfl, rfl, rfl, _, rfl, _, 1, _, rfl, rfl, rfl, x.num, (x.den : Int), rfl, den_pos x, hc, _, rfl, ?_⟩
  rw [fr_self]
  refine ⟨(lay_fr x).shaped (by decide), (lay_fr x).shaped (by decide), ?_⟩
  rw [(lay_fr x).self]
  exact hQ
def RLack : RC := fun ds Q => ∃ N v e, ds = [netD N, vD N.many v, entD e] ∧ OkNet N ∧ e.1 < N.deeds.length ∧ Sm e.2 ∧ (∀ x ∈ (deedAt N e.1).1, Sm (v x.1) ∧ Sm (e.2 * x.2) ∧ e.2 * x.2 ≤ v x.1) ∧ Q .none
theorem sc_law_lack : FnScope ["_law_net_here", "_law_stand", "_law_step", "_law_place", "_law_amount_here"] ["_law_net_here", "_law_stand", "_law_step"] (defScope (top 75)) := ⟨rfl, rfl, rfl, by decide +kernel, rfl, by decide +kernel, by decide +kernel⟩
theorem ok_law_lack (F : FnT K "_law_lack" (top 75) f fd) (g_law_less : Fn P w K mg base "_law_less" 1 (spD K RIsLess)) (g_law_times : Fn P w K mg base "_law_times" 2 (spD K (R2F (· * ·)))) : FnOk P w K mg base CX0 3 f fd ["_law_net_here", "_law_stand", "_law_step"] (spD K RLack) := by
  have nd := sc_law_lack.nd
  refine okD F sc_law_lack (by decide) (fun ds Q h => ?_) (fun cdv A outer s H hr => ?_)
  · obtain ⟨N, v, e, rfl, _⟩ := h
    rfl
  refine ⟨_, _, (sss_cons (ss_for rfl PassesOwn.never (si_list (se_ixT (se_ixL (se_ixT (sv 0) se_int) (se_ixT (sv 2) se_int)) se_int)) (sg_two 3 4 rfl nd (sg_name 3 nd) (sg_name 4 nd))
      (sss_one (ss_if (st_val (se_call g_law_less hr (sa_cons (se_ixL (sv 1) (sv 3)) (sa_cons (se_call g_law_times hr (sa_cons (se_ixT (sv 2) se_int) (sa_cons (sv 4) sa_nil))) sa_nil)))) (sss_one (ss_ret (sv 3))) sss_nil)))
      (sss_one (ss_ret se_non))), fun ds Q h => ?_⟩
  obtain ⟨N, v, e, rfl, o, hj, se, hx, hQ⟩ := h
  have hd := deedAt_of hj
  obtain ⟨o1, o2⟩ := o.deed hd
  refine ⟨_, rfl, _, 1, _, rfl, rfl, rfl, _, rfl, _, 0, _, rfl, rfl, rfl, _, _, _, rfl, rfl, deed_ix hd, _, 0, _, rfl, rfl, rfl, _, rfl, ?_⟩
  refine ⟨fun i A => ∃ a b, A = [.fz (netD N), .fz (vD N.many v), .fz (entD e), a, b], ⟨_, _, rfl⟩, ?_, ?_⟩
  · rintro i d A hd2 ⟨a, b, rfl⟩
    obtain ⟨x, hxi, rfl⟩ := sideL_get hd2
    have h1 := o1.1 x (mem_at hxi)
    obtain ⟨s1, s2, s3⟩ := hx x (mem_at hxi)
    refine ⟨_, rfl, _, _, rfl, _, _, rfl, rfl, ?_⟩
    refine ⟨_, rfl, _, rfl, _, _, _, rfl, rfl, vL_ix h1.1, _, rfl, _, 1, _, rfl, rfl, rfl, _, rfl, _, _, rfl, se, h1.2.1.smA, _, _, rfl, s1, s2, _, rfl, ?_⟩
    rw [decide_eq_false (show ¬ v x.1 < e.2 * x.2 by grind)]
    refine iteF ?_
    exact ⟨_, _, rfl⟩
  · rintro A ⟨a, b, rfl⟩
    exact hQ
def RBehind : RC := fun ds Q => ∃ N v e D B C, ds = [netD N, vD N.many v, entD e] ∧ OkNet N ∧ e.1 < N.deeds.length ∧ Sm e.2 ∧ (∀ p, p < N.many → Ov D B (v p)) ∧ (∀ x ∈ (deedAt N e.1).1 ++ (deedAt N e.1).2, Ov D C (e.2 * x.2)) ∧ Bd D (B + 10 * C) ∧ Q (vD N.many (after N v e))
theorem add_neg_mul (x c a : Rat) : x + -c * a = x + -(c * a) := by grind
theorem sc_law_behind : FnScope ["_law_net_here", "_law_stand", "_law_step", "_law_found", "_law_place", "_law_amount_here", "_law_much"] ["_law_net_here", "_law_stand", "_law_step"] (defScope (top 76)) := ⟨rfl, rfl, rfl, by decide +kernel, rfl, by decide +kernel, by decide +kernel⟩
theorem ok_law_behind (F : FnT K "_law_behind" (top 76) f fd) (B : Bt mg) (g_law_sum : Fn P w K mg base "_law_sum" 2 (spD K (R2F (· + ·)))) (g_law_times : Fn P w K mg base "_law_times" 2 (spD K (R2F (· * ·)))) : FnOk P w K mg base CX0 3 f fd ["_law_net_here", "_law_stand", "_law_step"] (spD K RBehind) := by
  have nd := sc_law_behind.nd
  refine okD F sc_law_behind (by decide) (fun ds Q h => ?_) (fun cdv A outer s H hr => ?_)
  · obtain ⟨N, v, e, D, B, C, rfl, _⟩ := h
    rfl
  refine ⟨_, _, (sss_cons (ss_setN 3 nd (sn_listOf B.list (sv 1)))
      (sss_cons (ss_for rfl PassesOwn.never (si_list (se_ixT (se_ixL (se_ixT (sv 0) se_int) (se_ixT (sv 2) se_int)) se_int)) (sg_two 4 5 rfl nd (sg_name 4 nd) (sg_name 5 nd))
      (sss_cons (ss_set 6 nd (se_call g_law_times hr (sa_cons (se_ixT (sv 2) se_int) (sa_cons (sv 5) sa_nil))))
      (sss_one (ss_setIx 3 (se_call g_law_sum hr (sa_cons (se_ixM 3 (sv 4)) (sa_cons (se_tup (sa_cons (se_sub se_int (se_ixT (sv 6) se_int)) (sa_cons (se_ixT (sv 6) se_int) sa_nil))) sa_nil))) (sv 4)))))
      (sss_cons (ss_for rfl PassesOwn.never (si_list (se_ixT (se_ixL (se_ixT (sv 0) se_int) (se_ixT (sv 2) se_int)) se_int)) (sg_two 4 5 rfl nd (sg_name 4 nd) (sg_name 5 nd))
      (sss_one (ss_setIx 3 (se_call g_law_sum hr (sa_cons (se_ixM 3 (sv 4)) (sa_cons (se_call g_law_times hr (sa_cons (se_ixT (sv 2) se_int) (sa_cons (sv 5) sa_nil))) sa_nil))) (sv 4))))
      (sss_one (ss_ret (svf 3)))))), fun ds Q h => ?_⟩
  obtain ⟨N, v, e, D, B', C', rfl, o, hj, se, hv, hx, hb, hQ⟩ := h
  have hd := deedAt_of hj
  obtain ⟨o1, o2⟩ := o.deed hd
  have bm : ∀ {z : Nat}, z ≤ B' + 10 * C' → Bd D z := fun hz => hb.le hb.1 (Nat.le_refl _) hz
  have S := side2 o hj hv hx
  refine ⟨_, rfl, _, rfl, ?_⟩
  refine ⟨_, rfl, _, 1, _, rfl, rfl, rfl, _, rfl, _, 0, _, rfl, rfl, rfl, _, _, _, rfl, rfl, deed_ix hd, _, 0, _, rfl, rfl, rfl, _, rfl, ?_⟩
  refine ⟨fun i A => ∃ a b m, A = [.fz (netD N), .fz (vD N.many v), .fz (entD e), .mu true (vL N.many (addS (-e.2) ((deedAt N e.1).1.take i) v)), a, b, m], ⟨_, _, _, rfl⟩, ?_, ?_⟩
  · rintro i d A hd2 ⟨a, b, m, rfl⟩
    obtain ⟨t, ht, rfl⟩ := sideL_get hd2
    have h1 := o1.1 t (mem_at ht)
    have sm := (hx t (List.mem_append_left _ (mem_at ht))).sm (bm (by omega))
    refine ⟨_, rfl, _, _, rfl, _, _, rfl, rfl, ?_⟩
    refine ⟨_, rfl, _, 1, _, rfl, rfl, rfl, _, rfl, _, _, rfl, se, h1.2.1.smA, ?_⟩
    refine ⟨_, _, rfl, _, rfl, _, _, _, _, rfl, rfl, vL_ix h1.1, _, rfl, _, 0, _, rfl, rfl, rfl, _, _, rfl, rfl, _, rfl, _, 1, _, rfl, rfl, rfl, by show (2 : Nat) ≤ 1000; decide, ?_⟩
    refine ⟨_, -(e.2 * t.2), congrArg (fun z => [_, z]) (fr_neg _), (S.t1 i _ h1.1).sm (bm (by omega)), ⟨by rw [Rat.neg_num]; exact sm.1.neg, sm.2⟩, ⟨_, _, rfl⟩, _, rfl, _, _, _, t.1, rfl, rfl, ?_, ?_⟩
    · rw [vL_len]
      exact ixN_nat h1.1
    · refine ⟨.fz (.int (t.1 : Int)), .fz (fr t.2), .fz (fr (e.2 * t.2)), ?_⟩
      rw [vL_set, take_next ht, addS_snoc, add_neg_mul]
      rfl
  rintro A ⟨a, b, m, rfl⟩
  rw [sideL_len, List.take_length]
  refine ⟨_, rfl, _, 1, _, rfl, rfl, rfl, _, rfl, _, 0, _, rfl, rfl, rfl, _, _, _, rfl, rfl, deed_ix hd, _, 1, _, rfl, rfl, rfl, _, rfl, ?_⟩
  refine ⟨fun i A => ∃ a b m, A = [.fz (netD N), .fz (vD N.many v), .fz (entD e), .mu true (vL N.many (addS e.2 ((deedAt N e.1).2.take i) (addS (-e.2) (deedAt N e.1).1 v))), a, b, m], ⟨_, _, _, rfl⟩, ?_, ?_⟩
  · rintro i d A hd2 ⟨a, b, m, rfl⟩
    obtain ⟨t, ht, rfl⟩ := sideL_get hd2
    have h1 := o2.1 t (mem_at ht)
    have sm := (hx t (List.mem_append_right _ (mem_at ht))).sm (bm (by omega))
    refine ⟨_, rfl, _, _, rfl, _, _, rfl, rfl, ?_⟩
    refine ⟨_, _, rfl, _, rfl, _, _, _, _, rfl, rfl, vL_ix h1.1, _, rfl, _, 1, _, rfl, rfl, rfl, _, rfl, _, _, rfl, se, h1.2.1.smA, _, _, rfl, (S.t2 i _ h1.1).sm (bm (by omega)), sm, ⟨_, _, rfl⟩, _, rfl, _, _, _, t.1, rfl, rfl, ?_, ?_⟩
    · rw [vL_len]
      exact ixN_nat h1.1
    · refine ⟨.fz (.int (t.1 : Int)), .fz (fr t.2), m, ?_⟩
      rw [vL_set, take_next ht, addS_snoc]
      rfl
  rintro A ⟨a, b, m, rfl⟩
  rw [sideL_len, List.take_length, two_sides]
  exact ⟨_, rfl, hQ⟩
end
end Tk
end
section
set_option Elab.async false
set_option linter.all false
set_option maxRecDepth 100000
set_option maxHeartbeats 4000000
set_option exponentiation.threshold 10000
namespace Tk
open PySem PySem.Spec PyProof.Rows L2
section
variable {P : Program} {w : World} {K : PySem.W.Frag} {mg : Str → Option Value} {base : Heap} {f : Addr} {fd : FuncData} {aN aO aT aH : Addr}
def RGain : RC := fun ds Q => ∃ N s D C, ds = [netD N, stepsD s] ∧ OkNet N ∧ OkSteps N D C s ∧ Bd D (80 * C) ∧ Q (vD N.many (afters N (fun _ => 0) s))
theorem sc_law_gain : FnScope ["_law_net_here", "_law_steps", "_law_found", "_law_step"] ["_law_net_here", "_law_steps"] (defScope (top 78)) := ⟨rfl, rfl, rfl, by decide +kernel, rfl, by decide +kernel, by decide +kernel⟩
theorem ok_law_gain (F : FnT K "_law_gain" (top 78) f fd) (g_law_behind : Fn P w K mg base "_law_behind" 3 (spD K RBehind)) : FnOk P w K mg base CX0 4 f fd ["_law_net_here", "_law_steps"] (spD K RGain) := by
  have nd := sc_law_gain.nd
  refine okD F sc_law_gain (by decide) (fun ds Q h => ?_) (fun cdv A outer s H hr => ?_)
  · obtain ⟨N, s, D, C, rfl, _⟩ := h
    rfl
  refine ⟨_, _, (sss_cons (ss_set 2 nd (se_rep (se_lst (sa_cons (se_tup (sa_cons se_int (sa_cons se_int sa_nil))) sa_nil)) (se_ixT (sv 0) se_int)))
      (sss_cons (ss_for rfl PassesOwn.never (si_list (sv 1)) (sg_name 3 nd)
      (sss_one (ss_set 2 nd (se_call g_law_behind hr (sa_cons (sv 0) (sa_cons (sv 2) (sa_cons (sv 3) sa_nil)))))))
      (sss_one (ss_ret (sv 2))))), fun ds Q h => ?_⟩
  obtain ⟨N, s, D, C', rfl, o, hs, hb, hQ⟩ := h
  obtain ⟨r1, r2, r3⟩ := o.rep
  have hl := hs.1
  refine ⟨by show (2 : Nat) ≤ 1000; decide, by show (1 : Nat) ≤ 1000; decide, _, rfl, _, 0, _, rfl, rfl, rfl, _, _, rfl, rfl, r1, r2, r3, ?_⟩
  have e0 : PyData.tuple [.int 0, .int 1] = fr 0 := rfl
  rw [e0, Int.toNat_natCast, vL_zero]
  refine ⟨_, rfl, _, rfl, ?_⟩
  refine ⟨fun i A => ∃ a, A = [.fz (netD N), .fz (stepsD s), .fz (vD N.many (afters N (fun _ => 0) (s.take i))), a], ⟨_, rfl⟩, ?_, ?_⟩
  · rintro i d A hd ⟨a, rfl⟩
    obtain ⟨e, he, rfl⟩ := stepsL_get hd
    obtain ⟨h1, h2, h3⟩ := hs.2 e (mem_at he)
    have hi := lt_of_get he
    have z : i * (10 * C') + 10 * C' ≤ 80 * C' := by
      have := Nat.mul_le_mul_right (10 * C') (show i ≤ 6 by omega)
      omega
    refine ⟨_, rfl, _, rfl, _, rfl, N, afters N (fun _ => 0) (s.take i), e, D, i * (10 * C'), C', rfl, o, h1, h2, fun p hp => ?_, h3, hb.le hb.1 (Nat.le_refl _) z, ?_⟩
    · have q := afters_ov (B := 0) (v := fun _ => 0) o (p := p) (Ov.zero D 0) hs i (by omega)
      rw [Nat.zero_add] at q
      exact q
    · refine ⟨.fz (entD e), ?_⟩
      rw [take_next he, afters_snoc]
      rfl
  · rintro A ⟨a, rfl⟩
    rw [stepsL_len, List.take_length]
    exact ⟨_, rfl, hQ⟩
def RAfter : RC := fun ds Q => ∃ (n : Nat) (v g : Nat → Rat) (k : Int), ds = [vD n v, vD n g, .int k] ∧ n ≤ 1000 ∧ Sm (k : Rat) ∧ (∀ i, i < n → Sm (v i) ∧ Sm (g i) ∧ Sm ((k : Rat) * g i)) ∧ Q (vD n fun i => v i + (k : Rat) * g i)
theorem sc_law_after : FnScope ["_law_stand", "_law_gain_here", "_law_rounds", "_law_here", "_law_more"] ["_law_stand", "_law_gain_here", "_law_rounds"] (defScope (top 79)) := ⟨rfl, rfl, rfl, by decide +kernel, rfl, by decide +kernel, by decide +kernel⟩
theorem ok_law_after (F : FnT K "_law_after" (top 79) f fd) (B : Bt mg) (g_law_sum : Fn P w K mg base "_law_sum" 2 (spD K (R2F (· + ·)))) (g_law_times : Fn P w K mg base "_law_times" 2 (spD K (R2F (· * ·)))) : FnOk P w K mg base CX0 3 f fd ["_law_stand", "_law_gain_here", "_law_rounds"] (spD K RAfter) := by
  have nd := sc_law_after.nd
  refine okD F sc_law_after (by decide) (fun ds Q h => ?_) (fun cdv A outer s H hr => ?_)
  · obtain ⟨n, v, g, k, rfl, _⟩ := h
    rfl
  refine ⟨_, _, (sss_one (ss_ret (se_ofN (sn_lc [("_law_here", 3), ("_law_more", 4)] rfl nd (si_zip B.zip (sa_cons (sv 0) (sa_cons (sv 1) sa_nil))) (by kernel_rfl) (fun _ _ _ _ _ => by exact (sg_two 3 4 rfl nd (sg_name 3 nd) (sg_name 4 nd))) (fun _ _ _ _ _ => by exact sts_nil) (fun _ _ _ _ _ => by exact (se_call g_law_sum hr (sa_cons (sv 3) (sa_cons (se_call g_law_times hr (sa_cons (se_tup (sa_cons (sv 2) (sa_cons se_int sa_nil))) (sa_cons (sv 4) sa_nil))) sa_nil)))))))), fun ds Q h => ?_⟩
  obtain ⟨n, v, g, k, rfl, hn, sk, hs, hQ⟩ := h
  refine ⟨_, rfl, _, rfl, _, _, rfl, ?_⟩
  rw [vL_zip]
  refine ⟨rfl, by rw [mapD_len]; exact hn, fun i => some (fr (v i + (k : Rat) * g i)), fun i d hd => ?_, ?_⟩
  · obtain ⟨hi, rfl⟩ := mapD_get hd
    obtain ⟨s1, s2, s3⟩ := hs i hi
    exact ⟨_, rfl, _, _, rfl, _, _, rfl, rfl, rfl, _, rfl, _, rfl, by show (2 : Nat) ≤ 1000; decide, _, rfl, (k : Rat), g i, rfl, sk, s2, _, _, rfl, s1, s3, rfl, rfl⟩
  · rw [mapD_len, outs_map fun i _ => rfl]
    exact hQ
def RCanL : RC := fun ds Q => ∃ N v s D B C, ds = [netD N, vD N.many v, stepsD s] ∧ OkNet N ∧ (∀ p, p < N.many → Ov D B (v p)) ∧ OkSteps N D C s ∧ Bd D (B + 80 * C) ∧ CanW N v s ∧ Q (.bool true)
theorem sc_law_can : FnScope ["_law_net_here", "_law_stand", "_law_steps", "_law_here", "_law_step"] ["_law_net_here", "_law_stand", "_law_steps"] (defScope (top 80)) := ⟨rfl, rfl, rfl, by decide +kernel, rfl, by decide +kernel, by decide +kernel⟩
theorem ok_law_can (F : FnT K "_law_can" (top 80) f fd) (B : Bt mg) (g_law_behind : Fn P w K mg base "_law_behind" 3 (spD K RBehind)) (g_law_lack : Fn P w K mg base "_law_lack" 3 (spD K RLack)) : FnOk P w K mg base CX0 4 f fd ["_law_net_here", "_law_stand", "_law_steps"] (spD K RCanL) := by
  have nd := sc_law_can.nd
  refine okD F sc_law_can (by decide) (fun ds Q h => ?_) (fun cdv A outer s H hr => ?_)
  · obtain ⟨N, v, s, D, B, C, rfl, _⟩ := h
    rfl
  refine ⟨_, _, (sss_cons (ss_set 3 nd (se_ofN (sn_listOf B.list (sv 1))))
      (sss_cons (ss_for rfl PassesOwn.never (si_list (sv 2)) (sg_name 4 nd)
      (sss_cons (ss_if (st_notN (se_call g_law_lack hr (sa_cons (sv 0) (sa_cons (sv 3) (sa_cons (sv 4) sa_nil))))) (sss_one (ss_ret se_bl)) sss_nil)
      (sss_one (ss_set 3 nd (se_call g_law_behind hr (sa_cons (sv 0) (sa_cons (sv 3) (sa_cons (sv 4) sa_nil))))))))
      (sss_one (ss_ret se_bl)))), fun ds Q h => ?_⟩
  obtain ⟨N, v, s, D, B', C', rfl, o, hv0, hs, hb, can, hQ⟩ := h
  have bm : ∀ {z : Nat}, z ≤ B' + 80 * C' → Bd D z := fun hz => hb.le hb.1 (Nat.le_refl _) hz
  have hl := hs.1
  refine ⟨_, rfl, _, rfl, ?_⟩
  refine ⟨_, rfl, _, rfl, ?_⟩
  refine ⟨fun i A => ∃ a, A = [.fz (netD N), .fz (vD N.many v), .fz (stepsD s), .fz (vD N.many (afters N v (s.take i))), a], ⟨_, rfl⟩, ?_, ?_⟩
  · rintro i d A hd ⟨a, rfl⟩
    obtain ⟨e, he, rfl⟩ := stepsL_get hd
    obtain ⟨h1, h2, h3⟩ := hs.2 e (mem_at he)
    have hi := lt_of_get he
    have z : i * (10 * C') + 10 * C' ≤ 80 * C' := by
      have := Nat.mul_le_mul_right (10 * C') (show i ≤ 6 by omega)
      omega
    have hv : ∀ p, p < N.many → Ov D (B' + i * (10 * C')) (afters N v (s.take i) p) := fun p hp => afters_ov o (hv0 p hp) hs i (by omega)
    obtain ⟨o1, o2⟩ := o.deed (deedAt_of h1)
    refine ⟨_, rfl, _, rfl, _, rfl, N, afters N v (s.take i), e, rfl, o, h1, h2, fun x hx => ⟨(hv x.1 (o1.1 x hx).1).sm (bm (by omega)), (h3 x (List.mem_append_left _ hx)).sm (bm (by omega)), can i e he x hx⟩, rfl, _, rfl, ?_⟩
    refine iteF ?_
    refine ⟨_, rfl, _, rfl, _, rfl, N, afters N v (s.take i), e, D, B' + i * (10 * C'), C', rfl, o, h1, h2, hv, h3, bm (by omega), ?_⟩
    refine ⟨.fz (entD e), ?_⟩
    rw [take_next he, afters_snoc]
    rfl
  · rintro A ⟨a, rfl⟩
    exact hQ
theorem lay_ent (e : Nat × Rat) : Lay 2 (entD e) := Lay.tuple fun d hd => by
  rcases List.mem_cons.mp hd with rfl | hd
  · exact Lay.int _ 1
  · have : d = fr e.2 := by simpa using hd
    rw [this]
    exact lay_fr _
theorem lay_steps (s : Steps) : Lay 3 (stepsD s) := Lay.list fun d hd => by
  obtain ⟨e, _, rfl⟩ := List.mem_map.mp hd
  exact lay_ent e
theorem eqv_cons_nil (d : PyData) (ds : List PyData) : PyData.eqv (.list (d :: ds)) (.list []) = false := by
  rw [PyData.eqv, PyData.eqvAll]
def RIsTurn : RC := fun ds Q => ∃ N r s, ds = [netD N, turnD r s] ∧ OkNet N ∧ 1 ≤ r ∧ s ≠ [] ∧ (∀ e ∈ s, e.1 < N.deeds.length ∧ Sm e.2 ∧ 0 < e.2) ∧ Q (.bool true)
theorem sc_law_is_turn : FnScope ["_law_net_here", "_law_turn", "_law_step"] ["_law_net_here", "_law_turn"] (defScope (top 81)) := ⟨rfl, rfl, rfl, by decide +kernel, rfl, by decide +kernel, by decide +kernel⟩
theorem ok_law_is_turn (F : FnT K "_law_is_turn" (top 81) f fd) (B : Bt mg) (g_law_is_fraction : Fn P w K mg base "_law_is_fraction" 2 (spD K RIsFrac)) (g_law_whole : Fn P w K mg base "_law_whole" 1 (spD K RWholeL)) : FnOk P w K mg base CX0 3 f fd ["_law_net_here", "_law_turn"] (spD K RIsTurn) := by
  have nd := sc_law_is_turn.nd
  refine okD F sc_law_is_turn (by decide) (fun ds Q h => ?_) (fun cdv A outer s H hr => ?_)
  · obtain ⟨N, r, s, rfl, _⟩ := h
    rfl
  have hu := hr.units
  refine ⟨_, _, (sss_cons (ss_if (sw_or (st_not (st_val (se_isi (T := "tuple") B.isinstance B.tuple_ (sv 1)))) (sw_or (st_ne (se_len B.len (sv 1)) se_int) (sw_or (st_not (st_val (se_call g_law_whole hr (sa_cons (se_ixT (sv 1) se_int) sa_nil)))) (sw_or1 (st_lt (se_ixT (sv 1) se_int) se_int))))).t (sss_one (ss_ret se_bl)) sss_nil)
      (sss_cons (ss_if (sw_or (st_not (st_val (se_isi (T := "list") B.isinstance B.list_ (se_ixT (sv 1) se_int)))) (sw_or1 (st_eqD hu (se_ixT (sv 1) se_int) (se_lst sa_nil)))).t (sss_one (ss_ret se_bl)) sss_nil)
      (sss_cons (ss_for rfl PassesOwn.never (si_list (se_ixT (sv 1) se_int)) (sg_name 2 nd)
      (sss_cons (ss_if (sw_or (st_not (st_val (se_isi (T := "tuple") B.isinstance B.tuple_ (sv 2)))) (sw_or (st_ne (se_len B.len (sv 2)) se_int) (sw_or1 (st_not (st_val (se_call g_law_whole hr (sa_cons (se_ixT (sv 2) se_int) sa_nil))))))).t (sss_one (ss_ret se_bl)) sss_nil)
      (sss_one (ss_if (sw_or (st_not (st_between se_int (se_ixT (sv 2) se_int) (se_len B.len (se_ixT (sv 0) se_int)))) (sw_or (st_not (st_val (se_call g_law_is_fraction hr (sa_cons (se_ixT (sv 2) se_int) sa_nil)))) (sw_or1 (st_lt (se_ixT (se_ixT (sv 2) se_int) se_int) se_int)))).t (sss_one (ss_ret se_bl)) sss_nil))))
      (sss_one (ss_ret se_bl))))), fun ds Q h => ?_⟩
  obtain ⟨N, r, s, rfl, o, hr1, hne, hs, hQ⟩ := h
  refine ⟨_, rfl, _, rfl, _, rfl, ?_⟩
  refine iteF ?_
  refine ⟨_, rfl, _, .inr rfl, _, rfl, _, rfl, ?_⟩
  refine iteF ?_
  refine ⟨_, rfl, _, 0, _, rfl, rfl, rfl, _, rfl, _, rfl, ?_⟩
  refine iteF ?_
  refine ⟨_, rfl, _, 0, _, rfl, rfl, rfl, _, _, rfl, rfl, _, rfl, ?_⟩
  rw [decide_eq_false (show ¬ r < 1 by omega)]
  refine iteF ?_
  refine ⟨_, rfl, _, 1, _, rfl, rfl, rfl, _, rfl, _, rfl, ?_⟩
  refine iteF ?_
  refine ⟨_, rfl, _, 1, _, rfl, rfl, rfl, by decide, (lay_steps s).shaped (by decide), lay_nil.shaped (by decide), _, rfl, ?_⟩
  have e1 : PyData.eqv (stepsD s) (.list []) = false := by
    cases s with
    | nil => exact absurd rfl hne
    | cons e r => exact eqv_cons_nil _ _
  rw [e1]
  refine iteF ?_
  refine ⟨_, rfl, _, 1, _, rfl, rfl, rfl, _, rfl, ?_⟩
  refine ⟨fun i A => ∃ a, A = [.fz (netD N), .fz (turnD r s), a], ⟨_, rfl⟩, ?_, ?_⟩
  · rintro i d A hd ⟨a, rfl⟩
    obtain ⟨e, he, rfl⟩ := stepsL_get hd
    obtain ⟨h1, h2, h3⟩ := hs e (mem_at he)
    refine ⟨_, rfl, _, rfl, _, rfl, ?_⟩
    refine iteF ?_
    refine ⟨_, rfl, _, .inr rfl, _, rfl, _, rfl, ?_⟩
    refine iteF ?_
    refine ⟨_, rfl, _, 0, _, rfl, rfl, rfl, _, rfl, _, rfl, ?_⟩
    refine iteF ?_
    refine ⟨_, rfl, _, 0, _, rfl, rfl, rfl, _, _, rfl, rfl, _, rfl, ?_⟩
    rw [decide_eq_true (show (0 : Int) ≤ ((e.1 : Nat) : Int) by omega)]
    refine iteT ?_
    refine ⟨_, rfl, _, 1, _, rfl, rfl, rfl, _, .inl rfl, _, _, rfl, rfl, _, rfl, ?_⟩
    rw [decide_eq_true (show ((e.1 : Nat) : Int) < ((N.deeds.map deedD).length : Int) by rw [List.length_map]; omega)]
    refine iteF ?_
    refine ⟨_, rfl, _, 1, _, rfl, rfl, rfl, e.2, rfl, h2, _, rfl, ?_⟩
    refine iteF ?_
    refine ⟨_, rfl, _, 1, _, rfl, rfl, rfl, _, 0, _, rfl, rfl, rfl, _, _, rfl, rfl, _, rfl, ?_⟩
    rw [decide_eq_false (show ¬ e.2.num < 1 by have := num_pos.mpr h3; omega)]
    refine iteF ?_
    exact ⟨_, rfl⟩
  · rintro A ⟨a, rfl⟩
    exact hQ
/-! a run's turns -/
structure TurnOk (N : Net) (v : Nat → Rat) (t : Nat × Steps) : Prop where
  r1 : 1 ≤ t.1
  rz : Sz (t.1 : Int)
  ne : t.2 ≠ []
  ps : ∀ e ∈ t.2, e.1 < N.deeds.length ∧ 0 < e.2
  c0 : CanW N v t.2
  c1 : CanW N (fun p => v p + ((t.1 : Rat) - 1) * afters N (fun _ => 0) t.2 p) t.2
  sz : ∃ D B C, OkSteps N D C t.2 ∧ Bd D (4 * B + 80 * C) ∧ ∀ p, p < N.many → Ov D B (v p) ∧ Ov D B (v p + ((t.1 : Rat) - 1) * afters N (fun _ => 0) t.2 p) ∧ Ov D B (v p + (t.1 : Rat) * afters N (fun _ => 0) t.2 p)
def endT (N : Net) (v : Nat → Rat) : List (Nat × Steps) → Nat → Rat
  | [] => v
  | t :: r => endT N (fun p => v p + (t.1 : Rat) * afters N (fun _ => 0) t.2 p) r
def TurnsOk (N : Net) (v : Nat → Rat) : List (Nat × Steps) → Prop
  | [] => True
  | t :: r => TurnOk N v t ∧ TurnsOk N (fun p => v p + (t.1 : Rat) * afters N (fun _ => 0) t.2 p) r
theorem turns_at {N : Net} : ∀ {ts : List (Nat × Steps)} {v : Nat → Rat} {i : Nat} {t : Nat × Steps}, TurnsOk N v ts → ts[i]? = some t → TurnOk N (endT N v (ts.take i)) t ∧ endT N v (ts.take (i + 1)) = fun p => endT N v (ts.take i) p + (t.1 : Rat) * afters N (fun _ => 0) t.2 p
  | [], v, i, t, _, e => by simp at e
  | t0 :: r, v, 0, t, h, e => by
    have e := Option.some.inj e
    subst e
    exact ⟨h.1, rfl⟩
  | t0 :: r, v, i + 1, t, h, e => turns_at (ts := r) (i := i) h.2 e
def turnsL (ts : List (Nat × Steps)) : List PyData := ts.map fun t => turnD (t.1 : Int) t.2
def REndOf : RC := fun ds Q => ∃ N b ts, ds = [netD N, vD N.many b, .list (turnsL ts)] ∧ OkNet N ∧ TurnsOk N b ts ∧ Q (vD N.many (endT N b ts))
theorem natCast_sub1 (r : Nat) : (((r : Int) - 1 : Int) : Rat) = (r : Rat) - 1 := by
  rw [Rat.intCast_sub, Rat.intCast_natCast]
  rfl
theorem vL_congr' {n : Nat} {u v : Nat → Rat} (h : ∀ p, u p = v p) : vD n u = vD n v := by
  have : u = v := funext h
  rw [this]
theorem sm_int {k : Int} (h : Sz k) : Sm (k : Rat) := ⟨h, by show Sz ((1 : Nat) : Int); exact sm_one.2⟩
theorem dd_after {N : Net} {v g : Nat → Rat} {D B C : Nat} {k : Rat} {p : Nat} (hb : Bd D (4 * B + 80 * C)) (h1 : Ov D B (v p)) (h2 : Ov D B (v p + k * g p)) : Sm (k * g p) := by
  have q := h2.sub h1
  have e : v p + k * g p - v p = k * g p := by grind
  rw [e] at q
  exact q.sm (hb.le hb.1 (Nat.le_refl _) (by omega))
theorem sc_law_end_of : FnScope ["_law_net_here", "_law_stand", "_law_run", "_law_here", "_law_turn", "_law_gain_here", "_law_lap"] ["_law_net_here", "_law_stand", "_law_run"] (defScope (top 82)) := ⟨rfl, rfl, rfl, by decide +kernel, rfl, by decide +kernel, by decide +kernel⟩
theorem ok_law_end_of (F : FnT K "_law_end_of" (top 82) f fd) (B : Bt mg) (g_law_after : Fn P w K mg base "_law_after" 3 (spD K RAfter)) (g_law_can : Fn P w K mg base "_law_can" 4 (spD K RCanL)) (g_law_gain : Fn P w K mg base "_law_gain" 4 (spD K RGain)) (g_law_is_turn : Fn P w K mg base "_law_is_turn" 3 (spD K RIsTurn)) : FnOk P w K mg base CX0 5 f fd ["_law_net_here", "_law_stand", "_law_run"] (spD K REndOf) := by
  have nd := sc_law_end_of.nd
  refine okD F sc_law_end_of (by decide) (fun ds Q h => ?_) (fun cdv A outer s H hr => ?_)
  · obtain ⟨N, b, ts, rfl, _⟩ := h
    rfl
  refine ⟨_, _, (sss_cons (ss_set 3 nd (se_ofN (sn_listOf B.list (sv 1))))
      (sss_cons (ss_if (st_not (st_val (se_isi (T := "list") B.isinstance B.list_ (sv 2)))) (sss_one (ss_ret se_non)) sss_nil)
      (sss_cons (ss_for rfl PassesOwn.never (si_list (sv 2)) (sg_name 4 nd)
      (sss_cons (ss_if (st_not (st_val (se_call g_law_is_turn hr (sa_cons (sv 0) (sa_cons (sv 4) sa_nil))))) (sss_one (ss_ret se_non)) sss_nil)
      (sss_cons (ss_set 5 nd (se_call g_law_gain hr (sa_cons (sv 0) (sa_cons (se_ixT (sv 4) se_int) sa_nil))))
      (sss_cons (ss_for rfl PassesOwn.never (si_list (se_lst (sa_cons se_int (sa_cons (se_sub (se_ixT (sv 4) se_int) se_int) sa_nil)))) (sg_name 6 nd)
      (sss_one (ss_if (st_not (st_val (se_call g_law_can hr (sa_cons (sv 0) (sa_cons (se_call g_law_after hr (sa_cons (sv 3) (sa_cons (sv 5) (sa_cons (sv 6) sa_nil)))) (sa_cons (se_ixT (sv 4) se_int) sa_nil)))))) (sss_one (ss_ret se_non)) sss_nil)))
      (sss_one (ss_set 3 nd (se_call g_law_after hr (sa_cons (sv 3) (sa_cons (sv 5) (sa_cons (se_ixT (sv 4) se_int) sa_nil))))))))))
      (sss_one (ss_ret (sv 3)))))), fun ds Q h => ?_⟩
  obtain ⟨N, b, ts, rfl, o, ht, hQ⟩ := h
  have l5 := o.2.1
  refine ⟨_, rfl, _, rfl, ?_⟩
  refine ⟨_, rfl, _, rfl, _, rfl, ?_⟩
  refine iteF ?_
  refine ⟨_, rfl, _, rfl, ?_⟩
  refine ⟨fun i A => ∃ x y z, A = [.fz (netD N), .fz (vD N.many b), .fz (.list (turnsL ts)), .fz (vD N.many (endT N b (ts.take i))), x, y, z], ⟨_, _, _, rfl⟩, ?_, ?_⟩
  · rintro i d A hd ⟨x, y, z, rfl⟩
    unfold turnsL at hd
    rw [List.getElem?_map] at hd
    cases hti : ts[i]? with
    | none => rw [hti] at hd; cases hd
    | some t =>
      rw [hti] at hd
      have hd := Option.some.inj hd
      subst hd
      obtain ⟨tk, en⟩ := turns_at ht hti
      obtain ⟨D, B', C', hs, hb, hv⟩ := tk.sz
      have bm : ∀ {z : Nat}, z ≤ 4 * B' + 80 * C' → Bd D z := fun hz => hb.le hb.1 (Nat.le_refl _) hz
      have gs : ∀ p, p < N.many → Sm (afters N (fun _ => 0) t.2 p) := fun p _ => by
        have q := afters_ov (B := 0) (v := fun _ => 0) o (p := p) (Ov.zero D 0) hs t.2.length (Nat.le_refl _)
        rw [List.take_length, Nat.zero_add] at q
        refine q.sm (bm ?_)
        have := Nat.mul_le_mul_right (10 * C') hs.1
        omega
      refine ⟨_, rfl, _, rfl, N, (t.1 : Int), t.2, rfl, o, by have := tk.r1; omega, tk.ne, fun e he => ⟨(tk.ps e he).1, (hs.2 e he).2.1, (tk.ps e he).2⟩, _, rfl, ?_⟩
      refine iteF ?_
      refine ⟨_, rfl, _, rfl, _, 1, _, rfl, rfl, rfl, N, t.2, D, C', rfl, o, hs, bm (by omega), ?_⟩
      refine ⟨_, rfl, _, 0, _, rfl, rfl, rfl, _, _, rfl, rfl, by show (2 : Nat) ≤ 1000; decide, _, rfl, ?_⟩
      refine ⟨fun j A => ∃ z', A = [.fz (netD N), .fz (vD N.many b), .fz (.list (turnsL ts)), .fz (vD N.many (endT N b (ts.take i))), .fz (turnD (t.1 : Int) t.2), .fz (vD N.many (afters N (fun _ => 0) t.2)), z'], ⟨_, rfl⟩, ?_, ?_⟩
      · rintro j d A hd ⟨z', rfl⟩
        have c0 : CanW N (fun p => endT N b (ts.take i) p + 0 * afters N (fun _ => 0) t.2 p) t.2 := by
          have e : (fun p => endT N b (ts.take i) p + 0 * afters N (fun _ => 0) t.2 p) = endT N b (ts.take i) := by
            funext p
            rw [Rat.zero_mul, Rat.add_zero]
          rw [e]
          exact tk.c0
        have v0 : ∀ p, p < N.many → Ov D B' (endT N b (ts.take i) p + 0 * afters N (fun _ => 0) t.2 p) := fun p hp => by
          rw [Rat.zero_mul, Rat.add_zero]
          exact (hv p hp).1
        have sr1 : Sz ((t.1 : Int) - 1) := by
          have h1 := tk.rz
          have h2 := tk.r1
          unfold Sz at h1 ⊢
          omega
        match j, hd with
        | 0, hd =>
          have hd := Option.some.inj hd
          subst hd
          have e0 : ((0 : Int) : Rat) = 0 := rfl
          refine ⟨_, rfl, _, rfl, _, rfl, _, rfl, N.many, _, _, (0 : Int), rfl, by omega, sm_int (by unfold Sz; decide +kernel), fun p hp => ⟨(hv p hp).1.sm (bm (by omega)), gs p hp, by rw [e0]; exact dd_after (N := N) (v := endT N b (ts.take i)) (g := afters N (fun _ => 0) t.2) hb (hv p hp).1 (v0 p hp)⟩, _, rfl, _, 1, _, rfl, rfl, rfl, N, _, t.2, D, B', C', rfl, o, fun p hp => by rw [e0]; exact v0 p hp, hs, bm (by omega), by rw [e0]; exact c0, _, rfl, ?_⟩
          refine iteF ?_
          exact ⟨_, rfl⟩
        | 1, hd =>
          have hd := Option.some.inj hd
          subst hd
          have e0 : (((t.1 : Int) - 1 : Int) : Rat) = (t.1 : Rat) - 1 := natCast_sub1 t.1
          refine ⟨_, rfl, _, rfl, _, rfl, _, rfl, N.many, _, _, ((t.1 : Int) - 1 : Int), rfl, by omega, sm_int sr1, fun p hp => ⟨(hv p hp).1.sm (bm (by omega)), gs p hp, by rw [e0]; exact dd_after (N := N) (v := endT N b (ts.take i)) (g := afters N (fun _ => 0) t.2) hb (hv p hp).1 (hv p hp).2.1⟩, _, rfl, _, 1, _, rfl, rfl, rfl, N, _, t.2, D, B', C', rfl, o, fun p hp => by rw [e0]; exact (hv p hp).2.1, hs, bm (by omega), by rw [e0]; exact tk.c1, _, rfl, ?_⟩
          refine iteF ?_
          exact ⟨_, rfl⟩
        | j + 2, hd => cases hd
      · rintro A ⟨z', rfl⟩
        refine ⟨_, rfl, _, rfl, _, rfl, _, 0, _, rfl, rfl, rfl, N.many, _, _, (t.1 : Int), rfl, by omega, sm_int tk.rz, fun p hp => ⟨(hv p hp).1.sm (bm (by omega)), gs p hp, by rw [Rat.intCast_natCast]; exact dd_after (N := N) (v := endT N b (ts.take i)) (g := afters N (fun _ => 0) t.2) hb (hv p hp).1 (hv p hp).2.2⟩, ?_⟩
        refine ⟨.fz (turnD (t.1 : Int) t.2), .fz (vD N.many (afters N (fun _ => 0) t.2)), z', ?_⟩
        rw [en, Rat.intCast_natCast]
        rfl
  · rintro A ⟨x, y, z, rfl⟩
    have el : (turnsL ts).length = ts.length := List.length_map ..
    rw [el, List.take_length]
    exact ⟨_, rfl, hQ⟩
end
end Tk
end
section
set_option Elab.async false
set_option linter.all false
set_option maxRecDepth 100000
set_option maxHeartbeats 4000000
set_option exponentiation.threshold 10000
namespace Tk
open PySem PySem.Spec PyProof.Rows L2
section
variable {P : Program} {w : World} {K : PySem.W.Frag} {mg : Str → Option Value} {base : Heap} {f : Addr} {fd : FuncData} {aN aO aT aH : Addr}
theorem sc_law_weighed : FnScope ["_law_weights", "_law_numbers", "_law_total", "_law_weight", "_law_number"] ["_law_weights", "_law_numbers"] (defScope (top 84)) := ⟨rfl, rfl, rfl, by decide +kernel, rfl, by decide +kernel, by decide +kernel⟩
theorem ok_law_weighed (F : FnT K "_law_weighed" (top 84) f fd) (B : Bt mg) (g_law_sum : Fn P w K mg base "_law_sum" 2 (spD K (R2F (· + ·)))) (g_law_times : Fn P w K mg base "_law_times" 2 (spD K (R2F (· * ·)))) : FnOk P w K mg base CX0 3 f fd ["_law_weights", "_law_numbers"] (spD K RWeighed) := by
  have nd := sc_law_weighed.nd
  refine okD F sc_law_weighed (by decide) (fun ds Q h => ?_) (fun cdv A outer s H hr => ?_)
  · obtain ⟨n, u, v, rfl, _⟩ := h
    rfl
  refine ⟨_, _, (sss_cons (ss_set 2 nd (se_tup (sa_cons se_int (sa_cons se_int sa_nil))))
      (sss_cons (ss_for rfl PassesOwn.never (si_zip B.zip (sa_cons (sv 0) (sa_cons (sv 1) sa_nil))) (sg_two 3 4 rfl nd (sg_name 3 nd) (sg_name 4 nd))
      (sss_one (ss_if (sw_and (st_ne (se_ixT (sv 3) se_int) se_int) (sw_and1 (st_ne (se_ixT (sv 4) se_int) se_int))).t (sss_one (ss_set 2 nd (se_call g_law_sum hr (sa_cons (sv 2) (sa_cons (se_call g_law_times hr (sa_cons (sv 3) (sa_cons (sv 4) sa_nil))) sa_nil))))) sss_nil)))
      (sss_one (ss_ret (sv 2))))), fun ds Q h => ?_⟩
  obtain ⟨n, u, v, rfl, hn, hs, hd, hQ⟩ := h
  refine ⟨by show (2 : Nat) ≤ 1000; decide, _, rfl, _, rfl, _, _, rfl, ?_⟩
  rw [vL_zip]
  refine ⟨fun i A => ∃ a b, A = [.fz (vD n u), .fz (vD n v), .fz (fr (dotN u v i)), a, b], ⟨_, _, rfl⟩, ?_, ?_⟩
  · rintro i d A hd' ⟨a, b, rfl⟩
    obtain ⟨hi, rfl⟩ := mapD_get hd'
    obtain ⟨s1, s2, s3⟩ := hs i hi
    refine ⟨_, rfl, _, _, rfl, _, _, rfl, rfl, ?_⟩
    refine ⟨_, rfl, _, 0, _, rfl, rfl, rfl, _, rfl, _, rfl, ?_⟩
    rw [dec_num0]
    refine ite2 (fun h1 => ?_) (fun h1 => ?_)
    · have h1 : u i ≠ 0 := by simpa using h1
      refine ⟨_, rfl, _, 0, _, rfl, rfl, rfl, _, rfl, _, rfl, ?_⟩
      rw [dec_num0]
      refine ite2 (fun h2 => ?_) (fun h2 => ?_)
      · exact ⟨_, rfl, _, rfl, _, rfl, _, _, rfl, s1, s2, _, _, rfl, hd i (by omega), s3, _, _, rfl⟩
      · have h2 : v i = 0 := by simpa using h2
        have e : dotN u v (i + 1) = dotN u v i := by
          show dotN u v i + u i * v i = _
          rw [h2, Rat.mul_zero, Rat.add_zero]
        exact ⟨.fz (fr (u i)), .fz (fr (v i)), by rw [e]; rfl⟩
    · have h1 : u i = 0 := by simpa using h1
      refine iteF ?_
      have e : dotN u v (i + 1) = dotN u v i := by
        show dotN u v i + u i * v i = _
        rw [h1, Rat.zero_mul, Rat.add_zero]
      exact ⟨.fz (fr (u i)), .fz (fr (v i)), by rw [e]; rfl⟩
  · rintro A ⟨a, b, rfl⟩
    refine ⟨_, rfl, ?_⟩
    rw [mapD_len]
    exact hQ
def RGap : RC := fun ds Q => ∃ n u v, ds = [vD n u, vD n v] ∧ n ≤ 1000 ∧ (∀ i, i < n → Sm (u i) ∧ Sm (v i)) ∧ Q (vD n fun i => v i + -u i)
theorem sc_law_gap : FnScope ["_law_begin", "_law_end", "_law_here", "_law_there"] ["_law_begin", "_law_end"] (defScope (top 86)) := ⟨rfl, rfl, rfl, by decide +kernel, rfl, by decide +kernel, by decide +kernel⟩
theorem ok_law_gap (F : FnT K "_law_gap" (top 86) f fd) (B : Bt mg) (g_law_sum : Fn P w K mg base "_law_sum" 2 (spD K (R2F (· + ·)))) : FnOk P w K mg base CX0 3 f fd ["_law_begin", "_law_end"] (spD K RGap) := by
  have nd := sc_law_gap.nd
  refine okD F sc_law_gap (by decide) (fun ds Q h => ?_) (fun cdv A outer s H hr => ?_)
  · obtain ⟨n, u, v, rfl, _⟩ := h
    rfl
  refine ⟨_, _, (sss_one (ss_ret (se_ofN (sn_lc [("_law_here", 2), ("_law_there", 3)] rfl nd (si_zip B.zip (sa_cons (sv 0) (sa_cons (sv 1) sa_nil))) (by kernel_rfl) (fun _ _ _ _ _ => by exact (sg_two 2 3 rfl nd (sg_name 2 nd) (sg_name 3 nd))) (fun _ _ _ _ _ => by exact sts_nil) (fun _ _ _ _ _ => by exact (se_call g_law_sum hr (sa_cons (sv 3) (sa_cons (se_tup (sa_cons (se_sub se_int (se_ixT (sv 2) se_int)) (sa_cons (se_ixT (sv 2) se_int) sa_nil))) sa_nil)))))))), fun ds Q h => ?_⟩
  obtain ⟨n, u, v, rfl, hn, hs, hQ⟩ := h
  refine ⟨_, rfl, _, rfl, _, _, rfl, ?_⟩
  rw [vL_zip]
  refine ⟨rfl, by rw [mapD_len]; exact hn, fun i => some (fr (v i + -u i)), fun i d hd => ?_, ?_⟩
  · obtain ⟨hi, rfl⟩ := mapD_get hd
    obtain ⟨s1, s2⟩ := hs i hi
    refine ⟨_, rfl, _, _, rfl, _, _, rfl, rfl, rfl, _, rfl, _, rfl, _, 0, _, rfl, rfl, rfl, _, _, rfl, rfl, _, rfl, _, 1, _, rfl, rfl, rfl, by show (2 : Nat) ≤ 1000; decide, ?_⟩
    exact ⟨_, -u i, congrArg (fun z => [_, z]) (fr_neg _), s2, ⟨by rw [Rat.neg_num]; exact s1.1.neg, s1.2⟩, rfl, rfl⟩
  · rw [mapD_len, outs_map fun i _ => rfl]
    exact hQ
theorem sc_law_change : FnScope ["_law_net_here", "_law_deed_here", "_law_found", "_law_place", "_law_amount_here"] ["_law_net_here", "_law_deed_here"] (defScope (top 85)) := ⟨rfl, rfl, rfl, by decide +kernel, rfl, by decide +kernel, by decide +kernel⟩
theorem ok_law_change (F : FnT K "_law_change" (top 85) f fd) (g_law_sum : Fn P w K mg base "_law_sum" 2 (spD K (R2F (· + ·)))) : FnOk P w K mg base CX0 3 f fd ["_law_net_here", "_law_deed_here"] (spD K RChangeOf) := by
  have nd := sc_law_change.nd
  refine okD F sc_law_change (by decide) (fun ds Q h => ?_) (fun cdv A outer s H hr => ?_)
  · obtain ⟨N, j, d, rfl, _⟩ := h
    rfl
  refine ⟨_, _, (sss_cons (ss_setN 2 nd (sn_rep (se_lst (sa_cons (se_tup (sa_cons se_int (sa_cons se_int sa_nil))) sa_nil)) (se_ixT (sv 0) se_int)))
      (sss_cons (ss_for rfl PassesOwn.never (si_list (se_ixT (se_ixL (se_ixT (sv 0) se_int) (sv 1)) se_int)) (sg_two 3 4 rfl nd (sg_name 3 nd) (sg_name 4 nd))
      (sss_one (ss_setIx 2 (sv 4) (sv 3))))
      (sss_cons (ss_for rfl PassesOwn.never (si_list (se_ixT (se_ixL (se_ixT (sv 0) se_int) (sv 1)) se_int)) (sg_two 3 4 rfl nd (sg_name 3 nd) (sg_name 4 nd))
      (sss_one (ss_setIx 2 (se_call g_law_sum hr (sa_cons (se_ixM 2 (sv 3)) (sa_cons (se_tup (sa_cons (se_sub se_int (se_ixT (sv 4) se_int)) (sa_cons (se_ixT (sv 4) se_int) sa_nil))) sa_nil))) (sv 3))))
      (sss_one (ss_ret (svf 2)))))), fun ds Q h => ?_⟩
  obtain ⟨N, j, d, rfl, o, hd, hQ⟩ := h
  obtain ⟨r1, r2, r3⟩ := o.rep
  obtain ⟨o1, o2⟩ := o.deed hd
  have z0 : ∀ p, Ov DA BA (setS d.2 (fun _ => 0) p) := fun p => setS_ov (Ov.zero _ _) fun e he => (o2.1 e he).2.1
  refine ⟨by show (2 : Nat) ≤ 1000; decide, by show (1 : Nat) ≤ 1000; decide, _, rfl, _, 0, _, rfl, rfl, rfl, _, _, rfl, rfl, r1, r2, r3, ?_⟩
  have e0 : PyData.tuple [.int 0, .int 1] = fr 0 := rfl
  rw [e0, Int.toNat_natCast, vL_zero]
  refine ⟨_, rfl, _, 1, _, rfl, rfl, rfl, _, rfl, _, _, _, rfl, rfl, deed_ix hd, _, 1, _, rfl, rfl, rfl, _, rfl, ?_⟩
  refine ⟨fun i A => ∃ a b, A = [.fz (netD N), .fz (.int (j : Nat)), .mu true (vL N.many (setS (d.2.take i) fun _ => 0)), a, b], ⟨_, _, rfl⟩, ?_, ?_⟩
  · rintro i x A hx ⟨a, b, rfl⟩
    obtain ⟨e, he, rfl⟩ := sideL_get hx
    refine ⟨_, rfl, _, _, rfl, _, _, rfl, rfl, _, rfl, ⟨_, _, rfl⟩, _, rfl, _, _, _, e.1, rfl, rfl, ?_, ?_⟩
    · rw [vL_len]
      exact ixN_nat (o2.1 e (mem_at he)).1
    · refine ⟨.fz (.int (e.1 : Int)), .fz (fr e.2), ?_⟩
      rw [vL_set, take_next he, setS_snoc]
      rfl
  rintro A ⟨a, b, rfl⟩
  rw [sideL_len, List.take_length]
  refine ⟨_, rfl, _, 1, _, rfl, rfl, rfl, _, rfl, _, _, _, rfl, rfl, deed_ix hd, _, 0, _, rfl, rfl, rfl, _, rfl, ?_⟩
  refine ⟨fun i A => ∃ a b, A = [.fz (netD N), .fz (.int (j : Nat)), .mu true (vL N.many (lessS (d.1.take i) (setS d.2 fun _ => 0))), a, b], ⟨_, _, rfl⟩, ?_, ?_⟩
  · rintro i x A hx ⟨a, b, rfl⟩
    obtain ⟨e, he, rfl⟩ := sideL_get hx
    have he1 := o1.1 e (mem_at he)
    have s1 : Sm (lessS (d.1.take i) (setS d.2 fun _ => 0) e.1) := by
      refine (lessS_ov (B := BA) (C := BA) (z0 e.1) fun e' h' => (o1.1 e' (List.mem_of_mem_take h')).2.1).sm ⟨by decide, by decide +kernel, ?_⟩
      have h5 := o1.len
      have h6 := o.2.1
      have h7 : (d.1.take i).length ≤ 5 := by rw [List.length_take]; omega
      calc BA + (d.1.take i).length * BA ≤ BA + 5 * BA := by
            have := Nat.mul_le_mul_right BA h7
            omega
        _ < 2 ^ 4490 := by decide +kernel
    have sm := he1.2.1.smA
    refine ⟨_, rfl, _, _, rfl, _, _, rfl, rfl, ?_⟩
    refine ⟨_, _, rfl, _, rfl, _, _, _, _, rfl, rfl, vL_ix he1.1, _, rfl, _, 0, _, rfl, rfl, rfl, _, _, rfl, rfl, _, rfl, _, 1, _, rfl, rfl, rfl, by show (2 : Nat) ≤ 1000; decide, ?_⟩
    refine ⟨_, -e.2, congrArg (fun z => [_, z]) (fr_neg _), s1, ⟨by rw [Rat.neg_num]; exact sm.1.neg, sm.2⟩, ⟨_, _, rfl⟩, _, rfl, _, _, _, e.1, rfl, rfl, ?_, ?_⟩
    · rw [vL_len]
      exact ixN_nat he1.1
    · refine ⟨.fz (.int (e.1 : Int)), .fz (fr e.2), ?_⟩
      rw [vL_set, take_next he, lessS_snoc, Rat.sub_eq_add_neg]
      rfl
  rintro A ⟨a, b, rfl⟩
  rw [sideL_len, List.take_length]
  refine ⟨_, rfl, ?_⟩
  have e : vL N.many (lessS d.1 (setS d.2 fun _ => 0)) = vL N.many (chg d) := vL_congr fun p _ => by
    rw [lessS_eq, setS_zero (nodup_of o2.2)]
    rfl
  show Q (.list (vL N.many (lessS d.1 (setS d.2 fun _ => 0))))
  rw [e]
  exact hQ
theorem cby_ov {N : Net} {D B C : Nat} {v x : Nat → Rat} (o : OkNet N) (hv : ∀ p, p < N.many → Ov D B (v p)) (hx : ∀ j, j < N.deeds.length → ∀ t ∈ (deedAt N j).1 ++ (deedAt N j).2, Ov D C (x j * t.2)) : ∀ i, i ≤ N.deeds.length → ∀ p, p < N.many → Ov D (B + i * (10 * C)) (v p + cby N x i p)
  | 0, _, p, hp => by
    have e : v p + cby N x 0 p = v p := Rat.add_zero _
    rw [e]
    exact (hv p hp).mono (by omega)
  | i + 1, hi, p, hp => by
    have q := after_ov (e := (i, x i)) (v := fun p => v p + cby N x i p) o hi (hx i hi) (cby_ov o hv hx i (by omega) p hp)
    have e : after N (fun p => v p + cby N x i p) (i, x i) p = v p + cby N x (i + 1) p := by
      show v p + cby N x i p + x i * chg (deedAt N i) p = v p + (cby N x i p + x i * chg (deedAt N i) p)
      rw [Rat.add_assoc]
    rw [e] at q
    refine q.mono ?_
    have h1 : (i + 1) * (10 * C) = i * (10 * C) + 10 * C := Nat.succ_mul i (10 * C)
    omega
def REndBy : RC := fun ds Q => ∃ N v x D B C, ds = [netD N, vD N.many v, vD N.deeds.length x] ∧ OkNet N ∧ (∀ p, p < N.many → Ov D B (v p)) ∧ (∀ j, j < N.deeds.length → 0 ≤ x j ∧ Sm (x j) ∧ ∀ t ∈ (deedAt N j).1 ++ (deedAt N j).2, Ov D C (x j * t.2)) ∧ Bd D (B + 80 * C) ∧ Q (vD N.many fun p => v p + cby N x N.deeds.length p)
theorem sc_law_end_by : FnScope ["_law_net_here", "_law_stand", "_law_parts", "_law_found", "_law_deed_here"] ["_law_net_here", "_law_stand", "_law_parts"] (defScope (top 89)) := ⟨rfl, rfl, rfl, by decide +kernel, rfl, by decide +kernel, by decide +kernel⟩
theorem ok_law_end_by (F : FnT K "_law_end_by" (top 89) f fd) (B : Bt mg) (g_law_behind : Fn P w K mg base "_law_behind" 3 (spD K RBehind)) : FnOk P w K mg base CX0 4 f fd ["_law_net_here", "_law_stand", "_law_parts"] (spD K REndBy) := by
  have nd := sc_law_end_by.nd
  refine okD F sc_law_end_by (by decide) (fun ds Q h => ?_) (fun cdv A outer s H hr => ?_)
  · obtain ⟨N, v, x, D, B, C, rfl, _⟩ := h
    rfl
  refine ⟨_, _, (sss_cons (ss_set 3 nd (se_ofN (sn_listOf B.list (sv 1))))
      (sss_cons (ss_for rfl PassesOwn.never (si_range B.range (sa_cons (se_len B.len (se_ixT (sv 0) se_int)) sa_nil)) (sg_name 4 nd)
      (sss_one (ss_if (st_gt (se_ixT (se_ixL (sv 2) (sv 4)) se_int) se_int) (sss_one (ss_set 3 nd (se_call g_law_behind hr (sa_cons (sv 0) (sa_cons (sv 3) (sa_cons (se_tup (sa_cons (sv 4) (sa_cons (se_ixL (sv 2) (sv 4)) sa_nil))) sa_nil)))))) sss_nil)))
      (sss_one (ss_ret (sv 3))))), fun ds Q h => ?_⟩
  obtain ⟨N, v, x, D, B', C', rfl, o, hv, hx, hb, hQ⟩ := h
  have l7 := o.2.2.1
  have e0 : vD N.many v = vD N.many fun p => v p + cby N x 0 p := vL_congr' fun p => (Rat.add_zero _).symm
  refine ⟨_, rfl, _, rfl, ?_⟩
  refine ⟨_, rfl, _, 1, _, rfl, rfl, rfl, _, .inl rfl, N.deeds.length, ?_, by omega, ?_⟩
  · show [PyData.int ((N.deeds.map deedD).length : Nat)] = _
    rw [List.length_map]
  refine ⟨fun i A => ∃ a, A = [.fz (netD N), .fz (vD N.many v), .fz (vD N.deeds.length x), .fz (vD N.many fun p => v p + cby N x i p), a], ⟨_, by rw [← e0]; rfl⟩, ?_, ?_⟩
  · rintro i d A hd ⟨a, rfl⟩
    rw [rgD_map] at hd
    obtain ⟨hi, rfl⟩ := mapD_get hd
    obtain ⟨x0, sx, ox⟩ := hx i hi
    have e1 : vD N.many (fun p => v p + cby N x (i + 1) p) = vD N.many (after N (fun p => v p + cby N x i p) (i, x i)) := vL_congr' fun p => by
      show v p + (cby N x i p + x i * chg (deedAt N i) p) = v p + cby N x i p + x i * chg (deedAt N i) p
      rw [Rat.add_assoc]
    refine ⟨_, rfl, _, rfl, _, _, _, rfl, rfl, vL_ix hi, _, 0, _, rfl, rfl, rfl, _, _, rfl, rfl, _, rfl, ?_⟩
    rw [decide_num_pos]
    refine ite2 (fun h1 => ?_) (fun h1 => ?_)
    · have z : i * (10 * C') + 10 * C' ≤ 80 * C' := by
        have := Nat.mul_le_mul_right (10 * C') (show i ≤ 6 by omega)
        omega
      refine ⟨_, rfl, _, rfl, _, rfl, _, rfl, _, rfl, _, _, _, rfl, rfl, vL_ix hi, by show (2 : Nat) ≤ 1000; decide, N, _, (i, x i), D, B' + i * (10 * C'), C', rfl, o, hi, sx, cby_ov o hv (fun j hj => (hx j hj).2.2) i (by omega), ox, hb.le hb.1 (Nat.le_refl _) (by omega), ?_⟩
      refine ⟨.fz (.int (i : Int)), ?_⟩
      rw [e1]
      rfl
    · have h1 : x i = 0 := by
        have h1 : ¬ 0 < x i := by simpa using h1
        exact Rat.le_antisymm (Rat.not_lt.mp h1) x0
      refine ⟨.fz (.int (i : Int)), ?_⟩
      have e2 : vD N.many (fun p => v p + cby N x (i + 1) p) = vD N.many fun p => v p + cby N x i p := vL_congr' fun p => by
        show v p + (cby N x i p + x i * chg (deedAt N i) p) = _
        rw [h1, Rat.zero_mul, Rat.add_zero]
      rw [e2]
      rfl
  · rintro A ⟨a, rfl⟩
    rw [rgD_len]
    exact ⟨_, rfl, hQ⟩
end
end Tk
end
section
set_option Elab.async false
set_option linter.all false
set_option maxRecDepth 100000
set_option maxHeartbeats 4000000
set_option exponentiation.threshold 10000
namespace Tk
open PySem PySem.Spec PyProof.Rows L2
/-! ### the set of a list of ints, so known that it can be sorted -/
abbrev bare0 (w : World) : Obj := { cls := .type "set", dict := none, data := .set #[] 0 (.fresh 0 0 (!w.params.followText "set-order")) }
abbrev hp0 (w : World) (h : Heap) : Heap := h.push (bare0 w)
def Filled (w : World) (ns : List Int) (h : Heap) (h' : Heap) : Prop := ∃ c, SetR w h' h.objs.size (fun j => decide (j ∈ ns)) c ∧ c ≤ ns.length ∧ ∀ b o, h.get? b = some o → h'.get? b = some o
section
variable {P : Program} {w : World} {A : Around} {E : Value → Shared → Prop} {s : Shared}
set_option maxHeartbeats 8000000 in
theorem set_of_list {l : Addr} {its : Array Value} (ns : List Int) {Q : Value → Shared → Prop} (hh : A.handled = none) (hl : s.heap.IsList l its) (hi : IntsAre its.toList ns) (hb : ns.length + 1 < scanBound)
    (k : ∀ (h' : Heap) (tk : Nat), Filled w ns s.heap h' → Q (.ref s.heap.objs.size) { s with heap := h', toks := tk }) :
    wpAny (model P w) A (call (.type "set") [.ref l]) Q E s := by
  have hz : its.size = ns.length := by
    have q := IntsAre.length hi
    rwa [Array.length_toList] at q
  obtain ⟨mc, mt, mm⟩ := F.called_set.mro
  have m1 := F.called_set.made
  have m2 := F.called_set.sub
  refine wpAny_call (codeAny_of_tree (show wpAny _ _ (callAny (.type "set") _) _ _ _ from wpAny_pure ⟨Code.quiet_builtin _ (by decide +kernel), codeAny_builtin F.entry_type_call ?_⟩))
  rw [Around.under_plain (weight_type_call_type "set" [.ref l] []) rfl]
  have m3 := F.called_set.notType
  have m4 := F.called_set.canCreate
  have m5 := F.typeCall_set_1 (.ref l)
  repeat (any_goals (first | assumption | wp_step))
  refine codeAny_mono (code_set_led1 (.ref l) (E := E) (Q₁ := fun x z => x = .ref s.heap.objs.size ∧ z = { s with heap := hp0 w s.heap }) ⟨rfl, rfl⟩) fun r z hr => ?_
  cases r with
  | error e => exact hr
  | ok fl =>
    cases fl with
    | ret x =>
      obtain ⟨rfl, rfl⟩ := hr
      have g0 : (hp0 w s.heap).get? s.heap.objs.size = some (bare0 w) := Heap.get?_push_size _ rfl
      have ty : Shared.TypeIs { s with heap := hp0 w s.heap } (.ref s.heap.objs.size) "set" := ⟨_, g0, rfl⟩
      have n1 := F.called_set.init.lookup
      have n2 := F.called_set.init.bind (.ref s.heap.objs.size)
      repeat (any_goals (first | assumption | wp_step))
      refine codeAny_mono (codeAny_call_builtin (R := wants (fun r y => r = .none ∧ ∃ h' tk, y = { s with heap := h', toks := tk } ∧ Filled w ns s.heap h') E) F.called_set.init.plain F.entry_set_init (check_set_init_1 ty ?_)) fun r y hy => ?_
      · obtain ⟨⟨oc, od, oa, os⟩, og, ocl, nl, oda⟩ := hl
        simp only at ocl oda
        subst ocl; subst oda
        have g1 : (hp0 w s.heap).get? l = some { cls := .type "list", dict := od, data := .seq its nl, slots := os } := Heap.get?_push_of_some _ og
        have n3 := F.sub_list_set
        have n4 := F.sub_list_frozenset
        have n5 : (Value.type "list" == Value.type "dict") = false := by decide
        have l1 : (hp0 w s.heap).IsList l its := ⟨_, g1, rfl, nl, rfl⟩
        unfold Builtin.«set.__init__» noKeywords Builtin.Frozenset.updateFrom
        generalize hPI : pyIter = PI
        wp_walk
        subst hPI
        refine wpAny_pyIter_list l1 (wpAny_bind (wpAny_runValue ?_))
        have lt := Heap.lt_size og
        have sz : (hp0 w s.heap).objs.size = s.heap.objs.size + 1 := Heap.size_push ..
        have nI : l ≠ (hp0 w s.heap).objs.size := by rw [sz]; exact Nat.ne_of_lt (Nat.lt_succ_of_lt lt)
        have nS : s.heap.objs.size ∉ [(hp0 w s.heap).objs.size, l] := by
          rw [sz]
          intro z
          rcases List.mem_cons.mp z with z | z
          · exact Nat.ne_of_lt (Nat.lt_succ_self _) z
          · exact Nat.ne_of_gt lt (List.mem_singleton.mp z)
        have hv : ∀ (i : Nat) (v : Value), its[i]? = some v → ∃ k t, ns[i]? = some k ∧ v = .int k t := fun i v hv => by
          have li : i < ns.length := hz ▸ (Array.getElem?_eq_some_iff.mp hv).1
          obtain ⟨t, e⟩ := PyProof.Rows.IntsAre.int_at hi i v (by rw [Array.getElem?_toList]; exact hv)
          refine ⟨ns[i], t, List.getElem?_eq_getElem li, ?_⟩
          rw [e, List.getD_eq_getElem?_getD, List.getElem?_eq_getElem li] <;> rfl
        refine set_update_ints ((Walks.list (by simp [hh]) _ l nI its).toS) s.heap.objs.size nS ns hz hb hv (its.size - 0) 0 _ (by omega) (Nat.zero_le _) ⟨⟨_, Heap.get?_push_size _ rfl, rfl, rfl⟩, l1.push _⟩ ⟨0, Nat.le_refl 0, setR_new_at (Heap.get?_push_of_some _ g0)⟩ fun y c mv hc hS => ?_
        obtain ⟨h', g', d', t', o'⟩ := y
        have e1 : g' = s.gens := mv.gens
        have e2 : d' = s.drawn := mv.drawn
        have e3 : o' = s.os := mv.os
        subst e1; subst e2; subst e3
        refine wpAny_pure (show wpAny _ _ (ret Value.none) _ _ _ from wpAny_pure ⟨rfl, h', t', rfl, c, hS, hz ▸ hc, fun b o e => ?_⟩)
        have lb := Heap.lt_size e
        refine mv.heap b o (fun z => ?_) (Heap.get?_push_of_some _ (Heap.get?_push_of_some _ e))
        rcases List.mem_cons.mp z with z | z
        · exact Nat.ne_of_lt lb z
        · have z := List.mem_singleton.mp z
          rw [sz] at z
          exact Nat.ne_of_lt (Nat.lt_succ_of_lt lb) z
      · cases r with
        | error e => exact hy
        | ok fl =>
          cases fl with
          | ret v =>
            obtain ⟨rfl, h', tk, rfl, R⟩ := hy
            repeat (any_goals (first | assumption | wp_step))
            exact k _ _ R
          | _ => exact hy.elim
    | _ => exact hr.elim
end
/-- sorted(set(a)) of a list of ints -/
def tSortedSetI (K : PySem.W.Frag) (ta : TE) : TE := fun σ H Q => ta σ H fun x H1 => ∃ (l : Addr) (ns : List Int), x = .ref l ∧ SqL K H1 l (ns.map V.int) ∧ ns.length < 64 ∧
  ∀ (ms : List Int) (p : Addr), ms.Pairwise (· < ·) → (∀ k : Int, k ∈ ms ↔ k ∈ ns) → H1 p = none → Q (.ref p) (upd H1 p (.lst (ms.map V.int)))
theorem sorted_step {X : Cx} {pins : List (Addr × Obj)} {σ : L2.St} {H : Hp} {s : Shared} {a : Addr} {S : Int → Bool} {n : Nat} {Q : VK} (I : Inv X pins σ H s) (hc : X.calm = true) (R : SetR X.w s.heap a S n) (h64 : n < 64)
    (q : ∀ (ms : List Int) (p : Addr), ms.Pairwise (· < ·) → (∀ k : Int, k ∈ ms ↔ S k = true) → H p = none → Q (.ref p) (upd H p (.lst (ms.map V.int)))) :
    wpAny (model X.prog X.w) X.A (call (.builtin "sorted") [.ref a]) (EP X pins σ Q) X.xe s := by
  refine sorted_set R (I.ok.hd hc) h64 fun z p out c ms k g o hp hg hi hs hm hl => ?_
  have hn : H p = none := I.hok.fresh hp
  have J : Inv X pins σ (upd H p (.lst (ms.map V.int))) { s with heap := z.heap, gens := z.gens, drawn := z.drawn, toks := z.toks } :=
    I.call (ch := []) (Un.laid k hp hn) (I.hok.laid k hp ⟨by rw [List.length_map, hl, sizeLine_eq]; omega, out.toList, c, vals_of_ints hi, hg⟩) (by rw [g]; exact I.bare) (fun _ z => nomatch z)
  obtain ⟨zh, zg, zd, zt, zo⟩ := z
  cases o
  exact ⟨.ref p, _, J, rfl, q ms p hs hm hn⟩
theorem pe_sortedSetI {X : Cx} {a : Expr} {ta : TE} {p p2 q pos : Pos} (hg : Gl X "sorted") (hm : X.mg "sorted" = none) (hg2 : Gl X "set") (hm2 : X.mg "set" = none) (ha : PE X a ta) (hc : X.calm = true)
    (na : starEach [a] X.env = (false, eval a X.env) :: starEach [] X.env) : PE X (.Call (.Name "sorted" p) [.Call (.Name "set" p2) [a] [] q] [] pos) (tSortedSetI X.K ta) := by
  refine ⟨fun pins s σ H Q I h => ?_⟩
  refine Call_ (ld_blt I hg hm (show PySem.bootBuiltins "sorted" = some (.builtin "sorted") by decide +kernel) ?_)
  refine PyProof.Rows.callWith_builtin1 (PyProof.Rows.args_cons ?_ rfl) rfl rfl
  refine Call_ (ld_blt I hg2 hm2 PyProof.Rows.boot_set ?_)
  refine PyProof.Rows.callWith_type1 (PyProof.Rows.args_cons (thn (ha.run pins s σ H _ I h) fun v s1 ⟨x, H1, I1, r1, q1⟩ => PyProof.Rows.args_nil ?_) na) na rfl
  obtain ⟨l, ns, rfl, hq, hl, q1⟩ := q1
  cases r1
  obtain ⟨its, r, pl, hz⟩ := I1.list hq
  have hd := I1.ok.hd hc
  refine set_of_list ns hd pl.isList (by simpa using RZ.intsAre_vals r) (by unfold scanBound; omega) fun h' tk ⟨c, R, hcn, k⟩ => ?_
  refine PyProof.Rows.args_nil ?_
  have I2 : Inv X pins σ H1 { s1 with heap := h', toks := tk } := I1.kept k
  exact sorted_step I2 hc R (by omega) fun ms p hs hmm hn => q1 ms p hs (fun k => (hmm k).trans (by rw [decide_eq_true_eq])) hn
def aSortedSet (ae : AE) : AE := fun A Q => ae A fun d A1 => ∃ ns : List Int, d = .list (ns.map .int) ∧ ns.length < 64 ∧ ∀ ms : List Int, ms.Pairwise (· < ·) → (∀ k : Int, k ∈ ms ↔ k ∈ ns) → Q (.list (ms.map .int)) A1
def aLenSet (ae : AE) : AE := fun A Q => ae A fun d A1 => ∃ ns : List Int, d = .list (ns.map .int) ∧ ns.Nodup ∧ ns.length ≤ 4000 ∧ Q (.int ns.length) A1
section
variable {X : Cx} {e : Expr} {te : TE} {ae : AE} {pos p p2 q : Pos}
theorem se_lenSet {K : PySem.W.Frag} (hm : X.mg "len" = none) (hm2 : X.mg "set" = none) (hc : X.calm = true) (ha : SE X e te ae) (hg : Gl X "len" := by rfl) (hg2 : Gl X "set" := by rfl) (h1 : starEach [e] X.env = (false, eval e X.env) :: starEach [] X.env := by rfl) (hK : X.K = K := by rfl) :
    SE X (.Call (.Name "len" p) [.Call (.Name "set" p2) [e] [] q] [] pos) (RZ.tLenSetI K te) (aLenSet ae) := by
  subst hK
  exact ⟨RZ.pe_lenSetI hg hm hg2 hm2 ha.p hc h1, fun M F0 H0 A σ F H Qd Q rp h k => by
    refine ha.s M F0 H0 A σ F H _ _ rp h fun d v A1 F1 H1 h1 e1 d1 => ?_
    obtain ⟨ns, rfl, hn, hl, h1⟩ := h1
    obtain ⟨a, ws, rfl, sq, hs⟩ := d1.list_v
    have ew := hs.int_of
    subst ew
    exact ⟨a, ns, rfl, SqL.of (e1.rp.sub _ _ sq), hn, hl, k _ _ A1 F1 H1 h1 e1 (.int _)⟩⟩
theorem se_sortedSet {K : PySem.W.Frag} (hm : X.mg "sorted" = none) (hm2 : X.mg "set" = none) (hc : X.calm = true) (ha : SE X e te ae) (hg : Gl X "sorted" := by rfl) (hg2 : Gl X "set" := by rfl) (h1 : starEach [e] X.env = (false, eval e X.env) :: starEach [] X.env := by rfl) (hK : X.K = K := by rfl) :
    SE X (.Call (.Name "sorted" p) [.Call (.Name "set" p2) [e] [] q] [] pos) (tSortedSetI K te) (aSortedSet ae) := by
  subst hK
  exact ⟨pe_sortedSetI hg hm hg2 hm2 ha.p hc h1, fun M F0 H0 A σ F H Qd Q rp h k => by
    refine ha.s M F0 H0 A σ F H _ _ rp h fun d v A1 F1 H1 h1 e1 d1 => ?_
    obtain ⟨ns, rfl, hl, h1⟩ := h1
    obtain ⟨a, ws, rfl, sq, hs⟩ := d1.list_v
    have ew := hs.int_of
    subst ew
    refine ⟨a, ns, rfl, SqL.of (e1.rp.sub _ _ sq), hl, fun ms p1 s1 s2 hp => ?_⟩
    exact k _ _ A1 _ _ (h1 ms s1 s2) (e1.trans (Ev.grow e1.rp (Gr.new e1.rp.sub hp))) (.lst upd_same (DDs.ints ms))⟩
end
end Tk
end
section
set_option Elab.async false
set_option linter.all false
set_option maxRecDepth 100000
set_option maxHeartbeats 4000000
set_option exponentiation.threshold 10000
namespace Tk
open PySem PySem.Spec PyProof.Rows L2
theorem mapD_list {α : Type} (l : List α) (d0 : α) (g : α → PyData) : mapD l.length (fun i => g (l.getD i d0)) = l.map g := by
  unfold mapD
  refine List.ext_getElem (by simp) fun i h1 h2 => ?_
  have h3 : i < l.length := by simpa using h1
  simp [List.getElem?_eq_getElem h3]
theorem turnsL_get {ts : List (Nat × Steps)} {i : Nat} {d : PyData} (h : (turnsL ts)[i]? = some d) : ∃ t, ts[i]? = some t ∧ d = turnD (t.1 : Int) t.2 := by
  unfold turnsL at h
  rw [List.getElem?_map] at h
  cases hx : ts[i]? with
  | none => rw [hx] at h; cases h
  | some e =>
    rw [hx] at h
    exact ⟨e, rfl, (Option.some.inj h).symm⟩
/-- the turns of a run -/
def runTs (s m : Steps) (r : Nat) : List (Nat × Steps) := (if s = [] then [] else [(1, s)]) ++ (if m = [] then [] else [(r, m)])
theorem runTs_L (s m : Steps) (r : Nat) : turnsL (runTs s m r) = runL s m r := by
  unfold runTs runL run1L turnsL
  rw [List.map_append]
  congr 1
  · cases s with
    | nil => rfl
    | cons e r => rfl
  · by_cases h : m = []
    · rw [if_pos h, if_pos h]; rfl
    · rw [if_neg h, if_neg h]; rfl
theorem runTs_len (s m : Steps) (r : Nat) : (runTs s m r).length ≤ 3 := by
  unfold runTs
  by_cases h : s = []
  · by_cases h2 : m = []
    · rw [if_pos h, if_pos h2]; decide
    · rw [if_pos h, if_neg h2]; show 1 ≤ 3; decide
  · by_cases h2 : m = []
    · rw [if_neg h, if_pos h2]; show 1 ≤ 3; decide
    · rw [if_neg h, if_neg h2]; show 2 ≤ 3; decide
theorem runTs_mem {s m : Steps} {r : Nat} {t : Nat × Steps} (h : t ∈ runTs s m r) : t = (1, s) ∨ t = (r, m) := by
  unfold runTs at h
  rcases List.mem_append.mp h with h | h
  · by_cases z : s = []
    · rw [if_pos z] at h; cases h
    · rw [if_neg z] at h; exact .inl (List.mem_singleton.mp h)
  · by_cases z : m = []
    · rw [if_pos z] at h; cases h
    · rw [if_neg z] at h; exact .inr (List.mem_singleton.mp h)
theorem runTs_end {N : Net} {b : Nat → Rat} {s m : Steps} {r : Nat} : endT N b (runTs s m r) = lapV N b s m (r : Rat) := by
  funext p
  unfold runTs lapV
  have h1 : ∀ v : Nat → Rat, ∀ p, endT N v (if m = [] then [] else [(r, m)]) p = v p + (r : Rat) * afters N (fun _ => 0) m p := fun v p => by
    by_cases z : m = []
    · rw [if_pos z]
      subst z
      show v p = v p + (r : Rat) * 0
      rw [Rat.mul_zero, Rat.add_zero]
    · rw [if_neg z]
      rfl
  by_cases z : s = []
  · rw [if_pos z, List.nil_append, h1]
    subst z
    rfl
  · rw [if_neg z]
    show endT N (fun p => b p + ((1 : Nat) : Rat) * afters N (fun _ => 0) s p) (if m = [] then [] else [(r, m)]) p = _
    rw [h1, afters_gain N s b p]
    have e1 : ((1 : Nat) : Rat) = 1 := rfl
    rw [e1, Rat.one_mul]
theorem RunOk.turns {N : Net} {b e : Nat → Rat} {wi : Rat} {s m : Steps} {r : Nat} (k : RunOk N b e wi s m r) : TurnsOk N b (runTs s m r) := by
  obtain ⟨D, B, C, hs, hm, hb, hv⟩ := k.sz
  have e1 : ((1 : Nat) : Rat) = 1 := rfl
  have e2 : (fun p => b p + ((1 : Nat) : Rat) * afters N (fun _ => 0) s p) = lapV N b s m 0 := by
    funext p
    unfold lapV
    rw [e1, Rat.one_mul, ← afters_gain N s b p, Rat.zero_mul, Rat.add_zero]
  have lap : ∀ c : Rat, (fun p => lapV N b s m 0 p + c * afters N (fun _ => 0) m p) = lapV N b s m c := fun c => by
    funext p
    unfold lapV
    rw [Rat.zero_mul, Rat.add_zero]
  have t2 : m ≠ [] → TurnOk N (lapV N b s m 0) (r, m) := fun hne => {
    r1 := k.r1, rz := k.rz, ne := hne, ps := k.pm, c0 := k.cm0
    c1 := by rw [lap]; exact k.cm1
    sz := ⟨D, B, C, hm, hb, fun p hp => by
      obtain ⟨_, _, h0, h1, h2⟩ := hv p hp
      refine ⟨h0, ?_, ?_⟩
      · exact (congrFun (lap ((r : Rat) - 1)) p) ▸ h1
      · exact (congrFun (lap (r : Rat)) p) ▸ h2⟩ }
  have t2' : TurnsOk N (lapV N b s m 0) (if m = [] then [] else [(r, m)]) := by
    by_cases z : m = []
    · rw [if_pos z]; trivial
    · rw [if_neg z]; exact ⟨t2 z, trivial⟩
  unfold runTs
  by_cases z : s = []
  · rw [if_pos z, List.nil_append]
    have e3 : b = lapV N b s m 0 := by
      subst z
      funext p
      unfold lapV
      rw [Rat.zero_mul, Rat.add_zero]
      rfl
    have t3 : ∀ (v : Nat → Rat) (ts : List (Nat × Steps)), b = v → TurnsOk N v ts → TurnsOk N b ts := fun v ts q h => by
      subst q
      exact h
    exact t3 _ _ e3 t2'
  · rw [if_neg z]
    refine ⟨{ r1 := Nat.le_refl _, rz := by show Sz ((1 : Nat) : Int); unfold Sz; decide +kernel, ne := z, ps := k.ps, c0 := k.cs, c1 := ?_, sz := ⟨D, B, C, hs, hb, fun p hp => ?_⟩ }, ?_⟩
    · have e5 : (fun p => b p + (((1 : Nat) : Rat) - 1) * afters N (fun _ => 0) s p) = b := by
        funext p
        rw [e1]
        have : (1 : Rat) - 1 = 0 := Rat.sub_self ..
        rw [this, Rat.zero_mul, Rat.add_zero]
      show CanW N (fun p => b p + (((1 : Nat) : Rat) - 1) * afters N (fun _ => 0) s p) s
      rw [e5]
      exact k.cs
    · obtain ⟨h0, _, h1, _, _⟩ := hv p hp
      refine ⟨h0, ?_, ?_⟩
      · show Ov D B (b p + (((1 : Nat) : Rat) - 1) * afters N (fun _ => 0) s p)
        have : ((1 : Nat) : Rat) - 1 = 0 := Rat.sub_self ..
        rw [this, Rat.zero_mul, Rat.add_zero]
        exact h0
      · exact (congrFun e2 p) ▸ h1
    · show TurnsOk N (fun p => b p + ((1 : Nat) : Rat) * afters N (fun _ => 0) s p) _
      rw [e2]
      exact t2'
section
variable {P : Program} {w : World} {K : PySem.W.Frag} {mg : Str → Option Value} {base : Heap} {f : Addr} {fd : FuncData} {aN aO aT aH : Addr}
def RIsShort : RC := fun ds Q => ∃ ts : List (Nat × Steps), ds = [.list (turnsL ts)] ∧ ts.length ≤ 3 ∧ (∀ t ∈ ts, (t.2.map (·.1)).Nodup ∧ t.2.length ≤ 7) ∧ Q (.bool true)
theorem sc_law_is_short : FnScope ["_law_run", "_law_rounds", "_law_steps", "_law_deed_here", "_law_part"] ["_law_run"] (defScope (top 83)) := ⟨rfl, rfl, rfl, by decide +kernel, rfl, by decide +kernel, by decide +kernel⟩
theorem ok_law_is_short (F : FnT K "_law_is_short" (top 83) f fd) (B : Bt mg) : FnOk P w K mg base CX0 1 f fd ["_law_run"] (spD K RIsShort) := by
  have nd := sc_law_is_short.nd
  refine okD F sc_law_is_short (by decide) (fun ds Q h => ?_) (fun cdv A outer s H hr => ?_)
  · obtain ⟨ts, rfl, _⟩ := h
    rfl
  refine ⟨_, _, (sss_cons (ss_for rfl PassesOwn.never (si_list (sv 0)) (sg_two 1 2 rfl nd (sg_name 1 nd) (sg_name 2 nd))
      (sss_one (ss_if (st_ne (se_lenSet B.len B.set rfl (se_ofN (sn_lc [("_law_deed_here", 3), ("_law_part", 4)] rfl nd (si_list (sv 2)) (by kernel_rfl) (fun _ _ _ _ _ => by exact (sg_two 3 4 rfl nd (sg_name 3 nd) (sg_name 4 nd))) (fun _ _ _ _ _ => by exact sts_nil) (fun _ _ _ _ _ => by exact (sv 3))))) (se_len B.len (sv 2))) (sss_one (ss_ret se_bl)) sss_nil)))
      (sss_one (ss_ret (se_le (se_len B.len (sv 0)) se_int)))), fun ds Q h => ?_⟩
  obtain ⟨ts, rfl, h3, hs, hQ⟩ := h
  refine ⟨_, rfl, _, rfl, ?_⟩
  refine ⟨fun i A => ∃ a b, A = [.fz (.list (turnsL ts)), a, b, .no, .no], ⟨_, _, rfl⟩, ?_, ?_⟩
  · rintro i d A hd ⟨a, b, rfl⟩
    obtain ⟨t, ht, rfl⟩ := turnsL_get hd
    obtain ⟨hn, h7⟩ := hs t (mem_at ht)
    refine ⟨_, rfl, _, _, rfl, _, _, rfl, rfl, ?_⟩
    refine ⟨_, rfl, _, rfl, rfl, by rw [stepsL_len]; omega, fun i => some (.int (((t.2.getD i (0, 0)).1 : Nat) : Int)), fun i d hd => ?_, ?_⟩
    · obtain ⟨e, he, rfl⟩ := stepsL_get hd
      have ge : t.2.getD i (0, 0) = e := by rw [List.getD_eq_getElem?_getD, he]; rfl
      exact ⟨_, rfl, _, _, rfl, _, _, rfl, rfl, rfl, _, rfl, rfl, by dsimp only; rw [ge]⟩
    · rw [stepsL_len, outs_map (g := fun i => .int (((t.2.getD i (0, 0)).1 : Nat) : Int)) fun i _ => rfl]
      refine ⟨t.2.map fun e => ((e.1 : Nat) : Int), ?_, ?_, by rw [List.length_map]; omega, _, rfl, _, .inl rfl, _, rfl, _, rfl, ?_⟩
      · rw [mapD_list t.2 (0, 0) fun e => .int ((e.1 : Nat) : Int), List.map_map]
        rfl
      · have := List.Pairwise.map (fun n : Nat => (n : Int)) (fun a b (h : a ≠ b) => (by omega : (a : Int) ≠ (b : Int))) hn
        rw [List.map_map] at this
        exact this
      · rw [stepsL_len, List.length_map, decide_eq_true rfl]
        refine iteF ?_
        exact ⟨_, _, rfl⟩
  · rintro A ⟨a, b, rfl⟩
    refine ⟨_, rfl, _, .inl rfl, _, _, rfl, rfl, ?_⟩
    show Q (.bool (decide (((turnsL ts).length : Int) ≤ 3)))
    have e : (turnsL ts).length = ts.length := List.length_map ..
    rw [e, decide_eq_true (show ((ts.length : Nat) : Int) ≤ 3 by omega)]
    exact hQ
end
end Tk
end
section
set_option Elab.async false
set_option linter.all false
set_option maxRecDepth 100000
set_option maxHeartbeats 4000000
set_option exponentiation.threshold 10000
namespace Tk
open PySem PySem.Spec PyProof.Rows L2
section
variable {P : Program} {w : World} {K : PySem.W.Frag} {mg : Str → Option Value} {base : Heap} {f : Addr} {fd : FuncData} {aN aO aT aH : Addr}
def RComes : RC := fun ds Q => ∃ N b e wi s m r, ds = [netD N, vD N.many b, vD N.many e, fr wi, .list (runL s m r)] ∧ OkNet N ∧ RunOk N b e wi s m r ∧ Sm wi ∧ Q (.bool true)
theorem sc_law_comes : FnScope ["_law_net_here", "_law_begin", "_law_end", "_law_within", "_law_run", "_law_here", "_law_place", "_law_much"] ["_law_net_here", "_law_begin", "_law_end", "_law_within", "_law_run"] (defScope (top 96)) := ⟨rfl, rfl, rfl, by decide +kernel, rfl, by decide +kernel, by decide +kernel⟩
theorem ok_law_comes (F : FnT K "_law_comes" (top 96) f fd) (B : Bt mg) (g_law_end_of : Fn P w K mg base "_law_end_of" 5 (spD K REndOf)) (g_law_is_short : Fn P w K mg base "_law_is_short" 1 (spD K RIsShort)) (g_law_less : Fn P w K mg base "_law_less" 1 (spD K RIsLess)) (g_law_sum : Fn P w K mg base "_law_sum" 2 (spD K (R2F (· + ·)))) : FnOk P w K mg base CX0 6 f fd ["_law_net_here", "_law_begin", "_law_end", "_law_within", "_law_run"] (spD K RComes) := by
  have nd := sc_law_comes.nd
  refine okD F sc_law_comes (by decide) (fun ds Q h => ?_) (fun cdv A outer s H hr => ?_)
  · obtain ⟨N, b, e, wi, s, m, r, rfl, _⟩ := h
    rfl
  refine ⟨_, _, (sss_cons (ss_set 5 nd (se_call g_law_end_of hr (sa_cons (sv 0) (sa_cons (sv 1) (sa_cons (sv 4) sa_nil)))))
      (sss_cons (ss_if (sw_or (st_isN (sv 5)) (sw_or1 (st_not (st_val (se_call g_law_is_short hr (sa_cons (sv 4) sa_nil)))))).t (sss_one (ss_ret se_bl)) sss_nil)
      (sss_cons (ss_for rfl PassesOwn.never (si_range B.range (sa_cons (se_ixT (sv 0) se_int) sa_nil)) (sg_name 6 nd)
      (sss_cons (ss_set 7 nd (se_call g_law_sum hr (sa_cons (se_ixL (sv 5) (sv 6)) (sa_cons (se_tup (sa_cons (se_sub se_int (se_ixT (se_ixL (sv 2) (sv 6)) se_int)) (sa_cons (se_ixT (se_ixL (sv 2) (sv 6)) se_int) sa_nil))) sa_nil))))
      (sss_one (ss_if (st_val (se_call g_law_less hr (sa_cons (sv 3) (sa_cons (se_tup (sa_cons (se_callB call_abs soc_abs B.abs (sa_cons (se_ixT (sv 7) se_int) sa_nil)) (sa_cons (se_ixT (sv 7) se_int) sa_nil))) sa_nil)))) (sss_one (ss_ret se_bl)) sss_nil))))
      (sss_one (ss_ret se_bl))))), fun ds Q h => ?_⟩
  obtain ⟨N, b, e, wi, s, m, r, rfl, o, k, sw, hQ⟩ := h
  obtain ⟨D, B', C', hs, hm, hb, hv⟩ := k.sz
  have l5 := o.2.1
  have bm : ∀ {z : Nat}, z ≤ 4 * B' + 80 * C' → Bd D z := fun hz => hb.le hb.1 (Nat.le_refl _) hz
  rw [← runTs_L]
  refine ⟨_, rfl, _, rfl, _, rfl, N, b, runTs s m r, rfl, o, k.turns, ?_⟩
  rw [runTs_end]
  refine ⟨_, rfl, rfl, _, rfl, ?_⟩
  refine iteF ?_
  refine ⟨_, rfl, runTs s m r, rfl, runTs_len s m r, fun t ht => ?_, _, rfl, ?_⟩
  · rcases runTs_mem ht with rfl | rfl
    · exact ⟨k.nds, k.ls⟩
    · exact ⟨k.ndm, k.lm⟩
  refine iteF ?_
  refine ⟨_, rfl, _, 0, _, rfl, rfl, rfl, N.many, rfl, by omega, ?_⟩
  refine ⟨fun i A => ∃ x y, A = [.fz (netD N), .fz (vD N.many b), .fz (vD N.many e), .fz (fr wi), .fz (.list (turnsL (runTs s m r))), .fz (vD N.many (lapV N b s m (r : Rat))), x, y], ⟨_, _, rfl⟩, ?_, ?_⟩
  · rintro i d A hd ⟨x, y, rfl⟩
    rw [rgD_map] at hd
    obtain ⟨hi, rfl⟩ := mapD_get hd
    obtain ⟨_, v2, _, _, v5⟩ := hv i hi
    have s2 : Sm (e i) := v2.sm (bm (by omega))
    have s5 : Sm (lapV N b s m (r : Rat) i) := v5.sm (bm (by omega))
    have sd : Sm (lapV N b s m (r : Rat) i + -e i) := (v5.add v2.neg).sm (bm (by omega))
    have near := k.near i hi
    have e1 : lapV N b s m (r : Rat) i + -e i = lapV N b s m (r : Rat) i - e i := (Rat.sub_eq_add_neg _ _).symm
    refine ⟨_, rfl, _, rfl, _, _, _, rfl, rfl, vL_ix hi, _, rfl, _, rfl, _, _, _, rfl, rfl, vL_ix hi, _, 0, _, rfl, rfl, rfl, _, _, rfl, rfl, _, rfl, _, rfl, _, _, _, rfl, rfl, vL_ix hi, _, 1, _, rfl, rfl, rfl, by show (2 : Nat) ≤ 1000; decide, ?_⟩
    refine ⟨_, -e i, congrArg (fun z => [_, z]) (fr_neg _), s5, ⟨by rw [Rat.neg_num]; exact s2.1.neg, s2.2⟩, ?_⟩
    refine ⟨_, rfl, _, rfl, _, 0, _, rfl, rfl, rfl, _, rfl, _, rfl, _, 1, _, rfl, rfl, rfl, by show (2 : Nat) ≤ 1000; decide, ?_⟩
    refine ⟨wi, absR (lapV N b s m (r : Rat) i + -e i), congrArg (fun z => [_, z]) (fr_abs _), sw, sd.abs, _, rfl, ?_⟩
    rw [e1, decide_eq_false (Rat.not_lt.mpr near)]
    refine iteF ?_
    exact ⟨_, _, rfl⟩
  · rintro A ⟨x, y, rfl⟩
    exact hQ
end
end Tk
end
section
set_option Elab.async false
set_option linter.all false
set_option maxRecDepth 100000
set_option maxHeartbeats 4000000
set_option exponentiation.threshold 10000
namespace Tk
open PySem PySem.Spec PyProof.Rows L2
theorem outs_bind {s : Side} {p : Nat → Bool} {out : Nat → Option PyData} (h : ∀ i e, s[i]? = some e → out i = if p e.1 then some (.int (e.1 : Nat)) else none) : outs out s.length = natL ((s.map (·.1)).filter p) := by
  have q := outs_filt (l := s.map (·.1)) (p := p) (out := out) fun i j hj => by
    rw [List.getElem?_map] at hj
    cases he : s[i]? with
    | none => rw [he] at hj; cases hj
    | some e =>
      rw [he] at hj
      have hj := Option.some.inj hj
      subst hj
      exact h i e he
  rw [List.length_map] at q
  exact q
section
variable {P : Program} {w : World} {K : PySem.W.Frag} {mg : Str → Option Value} {base : Heap} {f : Addr} {fd : FuncData} {aN aO aT aH : Addr}
def RWetL : RC := fun ds Q => ∃ N v, ds = [netD N, vD N.many v, natD (List.range N.deeds.length)] ∧ OkNet N ∧ ∀ ws fs, CanBe N v ws fs → Q (pr (natD ws) (natD fs))
theorem sc_law_wet : FnScope ["_law_net_here", "_law_stand", "_law_deeds", "_law_wet_here", "_law_able", "_law_grown", "_law_deed_here", "_law_place", "_law_lacking", "_law_amount_here"] ["_law_net_here", "_law_stand", "_law_deeds"] (defScope (top 88)) := ⟨rfl, rfl, rfl, by decide +kernel, rfl, by decide +kernel, by decide +kernel⟩
theorem ok_law_wet (F : FnT K "_law_wet" (top 88) f fd) (B : Bt mg) : FnOk P w K mg base CX0 1 f fd ["_law_net_here", "_law_stand", "_law_deeds"] (spD K RWetL) := by
  have nd := sc_law_wet.nd
  refine okD F sc_law_wet (by decide) (fun ds Q h => ?_) (fun cdv A outer s H hr => ?_)
  · obtain ⟨N, v, rfl, _⟩ := h
    rfl
  have hu := hr.units
  refine ⟨_, _, (sss_cons (ss_set 3 nd (se_ofN (sn_lc [("_law_place", 7)] rfl nd (si_range B.range (sa_cons (se_ixT (sv 0) se_int) sa_nil)) (by kernel_rfl) (fun _ _ _ _ _ => by exact (sg_name 7 nd)) (fun _ _ _ _ _ => by exact (sts_one (st_gt (se_ixT (se_ixL (sv 1) (sv 7)) se_int) se_int))) (fun _ _ _ _ _ => by exact (sv 7)))))
      (sss_cons (ss_setN 4 nd (sn_lst sa_nil))
      (sss_cons (ss_set 5 nd se_bl)
      (sss_cons (ss_while PassesOwn.never (st_val (sv 5))
      (sss_cons (ss_set 5 nd se_bl)
      (sss_one (ss_for rfl PassesOwn.never (si_list (sv 2)) (sg_name 6 nd)
      (sss_cons (ss_setLcF 8 [("_law_place", 7), ("_law_amount_here", 9)] rfl nd (si_list (se_ixT (se_ixL (se_ixT (sv 0) se_int) (sv 6)) se_int)) (by kernel_rfl) (fun _ _ _ _ _ => by exact (sg_two 7 9 rfl nd (sg_name 7 nd) (sg_name 9 nd))) (fun _ _ _ _ _ => by exact (sts_one (st_notIn (sv 7) (sv 3)))) (fun _ _ _ _ _ => by exact (sv 7)) (sw_true rfl rfl rfl (by decide +kernel)))
      (sss_one (ss_if (sw_and (st_notInM 4 (sv 6)) (sw_and1 (st_eqD hu (sv 8) (se_lst sa_nil)))).t (sss_cons (ss_appd 4 (sv 6))
      (sss_cons (ss_set 3 nd (se_cat (sv 3) (se_ofN (sn_lc [("_law_place", 7), ("_law_amount_here", 9)] rfl nd (si_list (se_ixT (se_ixL (se_ixT (sv 0) se_int) (sv 6)) se_int)) (by kernel_rfl) (fun _ _ _ _ _ => by exact (sg_two 7 9 rfl nd (sg_name 7 nd) (sg_name 9 nd))) (fun _ _ _ _ _ => by exact (sts_one (st_notIn (sv 7) (sv 3)))) (fun _ _ _ _ _ => by exact (sv 7))))))
      (sss_one (ss_set 5 nd se_bl)))) sss_nil)))))))
      (sss_one (ss_ret (se_tup (sa_cons (se_sorted B.sorted (sv 3)) (sa_cons (se_sorted B.sorted (svf 4)) sa_nil))))))))), fun ds Q h => ?_⟩
  obtain ⟨N, v, rfl, o, hQ⟩ := h
  have hm := o.2.1
  have hl := o.2.2.1
  refine ⟨_, rfl, _, 0, _, rfl, rfl, rfl, N.many, rfl, by omega, rfl, by rw [rgD_map, mapD_len]; omega, fun i => if decide (0 < v i) then some (.int (i : Nat)) else none, fun i d hd => ?_, ?_⟩
  · rw [rgD_map] at hd
    obtain ⟨hi, rfl⟩ := mapD_get hd
    refine ⟨_, rfl, _, rfl, _, _, _, rfl, rfl, vL_ix hi, _, 0, _, rfl, rfl, rfl, _, _, rfl, rfl, _, rfl, rfl, ?_⟩
    rw [decide_num_pos]
    refine ite2 (fun h1 => ?_) (fun h1 => ?_)
    · refine ⟨_, rfl, rfl, ?_⟩
      dsimp only
      rw [if_pos h1]
    · dsimp only
      rw [if_neg h1]
  rw [rgD_map, mapD_len, outs_filter fun i _ => rfl]
  refine ⟨by show (0 : Nat) ≤ 1000; decide, ?_⟩
  refine ⟨fun m A => ∃ fs ws b x y, A = [.fz (netD N), .fz (vD N.many v), .fz (natD (List.range N.deeds.length)), .fz (natD ws), .mu true (natL fs), .fz (.bool b), x, .no, y, .no] ∧ Reach N v fs ∧ WetL N v fs ws ∧ (b = true ∨ Closed N v fs) ∧ m = 2 * (N.deeds.length - fs.length) + (if b = true then 1 else 0),
    ⟨_, [], _, true, _, _, rfl, Reach.nil N v, WetL.start N v, .inl rfl, rfl⟩, ?_⟩
  rintro m A ⟨fs, ws, b, x, y, rfl, r, wl, hc, rfl⟩
  refine ⟨_, rfl, b, rfl, ?_⟩
  cases b with
  | false =>
    refine iteF ?_
    have hc := hc.resolve_left Bool.false_ne_true
    have l1 := r.len
    have l2 := wl.len o r
    refine ⟨_, rfl, ws.map fun i : Nat => (i : Int), by rw [natD_ints], by rw [List.length_map]; omega, fun ms p1 s1 => ?_⟩
    refine ⟨_, rfl, fs.map fun i : Nat => (i : Int), by rw [← natL_ints], by rw [List.length_map]; omega, fun ns p2 s2 => ?_⟩
    obtain ⟨ws', rfl, pw, sw⟩ := sorted_nat p1 s1 wl.nd
    obtain ⟨fs', rfl, pf, sf⟩ := sorted_nat p2 s2 r.nd
    refine ⟨by show (2 : Nat) ≤ 1000; decide, ?_⟩
    have q := hQ ws' fs' ⟨sw, sf, fs, r, hc, fun j => pf.mem_iff, fun p => pw.mem_iff.trans (wl.iff p)⟩
    rw [natD_ints, natD_ints] at q
    exact q
  | true =>
    refine iteT ?_
    refine ⟨_, rfl, _, rfl, ?_⟩
    refine ⟨fun i A => ∃ gs us b x y, A = [.fz (netD N), .fz (vD N.many v), .fz (natD (List.range N.deeds.length)), .fz (natD us), .mu true (natL gs), .fz (.bool b), x, .no, y, .no] ∧ Reach N v gs ∧ WetL N v gs us ∧ (b = true → fs.length < gs.length) ∧ (b = false → gs = fs ∧ ∀ k, k < i → k ∉ fs → ∃ p ∈ tk N k, ¬ Wet N v fs p),
      ⟨fs, ws, false, _, _, rfl, r, wl, (fun z => nomatch z), fun _ => ⟨rfl, fun k hk => by omega⟩⟩, ?_, ?_⟩
    · rintro i d A hd ⟨gs, us, b, x, y, rfl, rg, wg, hb1, hb2⟩
      obtain ⟨k, hk, rfl⟩ := natL_get hd
      have hi := lt_of_get hk
      rw [List.length_range] at hi
      rw [List.getElem?_range hi] at hk
      have hk := Option.some.inj hk
      subst hk
      have hdk := deedAt_of hi
      have oo := o.deed hdk
      have l1 := oo.1.len
      have l2 := oo.2.len
      have lg := rg.len
      have lu := wg.len o rg
      refine ⟨_, rfl, _, 1, _, rfl, rfl, rfl, _, rfl, _, _, _, rfl, rfl, deed_ix hdk, _, 0, _, rfl, rfl, rfl, _, rfl, rfl, by rw [sideL_len]; omega, fun t => ((deedAt N i).1[t]?).bind fun e => if !decide (e.1 ∈ us) then some (.int (e.1 : Nat)) else none, fun t d hd2 => ?_, ?_⟩
      · obtain ⟨e, he, rfl⟩ := sideL_get hd2
        refine ⟨_, rfl, _, _, rfl, _, _, rfl, rfl, _, rfl, _, rfl, e.1, us.map fun i : Nat => (i : Int), rfl, natD_ints us, _, rfl, rfl, ?_⟩
        rw [if_pos rfl, dec_ints]
        refine ite2 (fun hy => ?_) (fun hy => ?_)
        · refine ⟨_, rfl, rfl, ?_⟩
          dsimp only
          rw [he]
          show (if (!decide (e.1 ∈ us)) = true then _ else _) = _
          rw [if_pos hy]
        · dsimp only
          rw [he]
          show (if (!decide (e.1 ∈ us)) = true then _ else _) = _
          rw [if_neg hy]
      · rw [sideL_len, outs_bind (s := (deedAt N i).1) (p := fun p => !decide (p ∈ us)) fun t e he => by rw [he]; rfl]
        refine ⟨_, rfl, true, gs.map fun i : Nat => (i : Int), _, by rw [← natL_ints]; rfl, rfl, _, rfl, ?_⟩
        rw [if_pos rfl, dec_ints]
        by_cases hg : i ∈ gs
        · rw [decide_eq_true hg]
          refine iteF ?_
          refine ⟨gs, us, b, _, _, rfl, rg, wg, hb1, fun hb => ⟨(hb2 hb).1, fun k hk hn => ?_⟩⟩
          by_cases hki : k = i
          · subst hki
            exact absurd ((hb2 hb).1 ▸ hg) hn
          · exact (hb2 hb).2 k (by omega) hn
        · rw [decide_eq_false hg]
          refine iteT ?_
          refine ⟨_, rfl, by show (0 : Nat) ≤ 1000; decide, (lay_natD ((tk N i).filter fun p => !decide (p ∈ us))).shaped (by decide), lay_nil.shaped (by decide), _, rfl, ?_⟩
          by_cases hx : (tk N i).filter (fun p => !decide (p ∈ us)) = []
          · have hw : ∀ p ∈ tk N i, Wet N v gs p := fun p hp => by
              have := List.filter_eq_nil_iff.mp hx p hp
              exact (wg.iff p).mp (by simpa using this)
            have ye : PyData.eqv (natD ((tk N i).filter fun p => !decide (p ∈ us))) (.list []) = true := by
              rw [hx]
              show PyData.eqv (.list []) (.list []) = true
              rw [PyData.eqv, PyData.eqvAll]
            rw [show PyData.eqv (PyData.list (natL ((List.map (fun x => x.1) (deedAt N i).1).filter fun p => !decide (p ∈ us)))) (.list []) = true from ye]
            refine iteT ?_
            refine ⟨⟨_, _, rfl⟩, _, rfl, _, _, rfl, by rw [natL_len]; omega, ?_⟩
            refine ⟨_, rfl, _, rfl, _, 1, _, rfl, rfl, rfl, _, rfl, _, _, _, rfl, rfl, deed_ix hdk, _, 1, _, rfl, rfl, rfl, _, rfl, rfl, by rw [sideL_len]; omega, fun t => ((deedAt N i).2[t]?).bind fun e => if !decide (e.1 ∈ us) then some (.int (e.1 : Nat)) else none, fun t d hd2 => ?_, ?_⟩
            · obtain ⟨e, he, rfl⟩ := sideL_get hd2
              refine ⟨_, rfl, _, _, rfl, _, _, rfl, rfl, _, rfl, _, rfl, e.1, us.map fun i : Nat => (i : Int), rfl, natD_ints us, _, rfl, rfl, ?_⟩
              rw [if_pos rfl, dec_ints]
              refine ite2 (fun hy => ?_) (fun hy => ?_)
              · refine ⟨_, rfl, rfl, ?_⟩
                dsimp only
                rw [he]
                show (if (!decide (e.1 ∈ us)) = true then _ else _) = _
                rw [if_pos hy]
              · dsimp only
                rw [he]
                show (if (!decide (e.1 ∈ us)) = true then _ else _) = _
                rw [if_neg hy]
            · rw [sideL_len, outs_bind (s := (deedAt N i).2) (p := fun p => !decide (p ∈ us)) fun t e he => by rw [he]; rfl]
              refine ⟨_, _, rfl, rfl, ?_, ?_⟩
              · rw [natL_len, natL_len]
                have := List.length_filter_le (fun p => !decide (p ∈ us)) (gv N i)
                have e2 : (gv N i).length = (deedAt N i).2.length := List.length_map ..
                exact le_line (show us.length + ((gv N i).filter fun p => !decide (p ∈ us)).length ≤ 1000 by omega)
              · refine ⟨gs ++ [i], us ++ (gv N i).filter fun p => !decide (p ∈ us), true, .fz (.int (i : Nat)), .fz (natD ((tk N i).filter fun p => !decide (p ∈ us))), ?_, rg.snoc hi hg hw, wg.snoc o hi, fun _ => ?_, fun z => nomatch z⟩
                · unfold natD natL
                  rw [List.map_append, List.map_append]
                  rfl
                · rw [List.length_append]
                  cases b with
                  | true => have := hb1 rfl; omega
                  | false => rw [(hb2 rfl).1]; exact Nat.lt_succ_self _
          · have ne : PyData.eqv (natD ((tk N i).filter fun p => !decide (p ∈ us))) (.list []) = false := by
              cases hc2 : (tk N i).filter (fun p => !decide (p ∈ us)) with
              | nil => exact absurd hc2 hx
              | cons e r => exact eqv_cons_nil _ _
            rw [show PyData.eqv (PyData.list (natL ((List.map (fun x => x.1) (deedAt N i).1).filter fun p => !decide (p ∈ us)))) (.list []) = false from ne]
            refine iteF ?_
            refine ⟨gs, us, b, _, _, rfl, rg, wg, hb1, fun hb => ⟨(hb2 hb).1, fun k hk hn => ?_⟩⟩
            by_cases hki : k = i
            · subst hki
              have e := (hb2 hb).1
              subst e
              by_cases hz : ∃ p ∈ tk N k, ¬ Wet N v gs p
              · exact hz
              · refine absurd (List.filter_eq_nil_iff.mpr fun p hp => ?_) hx
                have : p ∈ us := (wg.iff p).mpr (Classical.byContradiction fun z => hz ⟨p, hp, z⟩)
                simp [this]
            · exact (hb2 hb).2 k (by omega) hn
    · rintro A ⟨gs, us, b, x, y, rfl, rg, wg, hb1, hb2⟩
      rw [natL_len, List.length_range] at hb2
      refine ⟨_, ?_, gs, us, b, x, y, rfl, rg, wg, ?_, rfl⟩
      · have := rg.len
        cases b with
        | true =>
          have := hb1 rfl
          show 2 * (N.deeds.length - gs.length) + 1 < 2 * (N.deeds.length - fs.length) + 1
          omega
        | false =>
          rw [(hb2 rfl).1]
          exact Nat.lt_succ_self _
      · cases b with
        | true => exact .inl rfl
        | false =>
          right
          obtain ⟨e, h2⟩ := hb2 rfl
          subst e
          exact fun j hj hn => h2 j hj hn
end
end Tk
end
section
set_option Elab.async false
set_option linter.all false
set_option maxRecDepth 100000
set_option maxHeartbeats 4000000
set_option exponentiation.threshold 10000
namespace Tk
open PySem PySem.Spec PyProof.Rows L2
theorem near_sz {N : Net} {b e x : Nat → Rat} {fs : List Nat} (o : OkNet N) (hb : EOk N b) (hx : NearOk N b e fs x) : ∃ D B C, (∀ p, p < N.many → Ov D B (b p)) ∧ (∀ j, j < N.deeds.length → 0 ≤ x j ∧ Sm (x j) ∧ ∀ t ∈ (deedAt N j).1 ++ (deedAt N j).2, Ov D C (x j * t.2)) ∧ Bd D (B + 80 * C) := by
  obtain ⟨Dx, h0, hD, hs⟩ := hx.sz
  have d0 : 0 < D0 := by decide +kernel
  have d43 : D0 ≤ 2 ^ 43 := by decide +kernel
  have e0 : Dx * DA * 27720 = D0 * Dx := by
    show Dx * DA * 27720 = DA * 27720 * Dx
    rw [Nat.mul_assoc, Nat.mul_comm]
  have n0 : ∀ V : Nat, -(V : Rat) ≤ 0 := fun V => by have := natR0 V; grind
  have b1 : D0 * 2 ^ 60 * Dx ≤ 2 ^ 625 := mul_pw (b := 103) (d := 522) (mul_pw (b := 43) (d := 60) d43 (Nat.le_refl _)) hD
  have c1 : Dx * 2 ^ 522 * BA * 27720 ≤ 2 ^ 1127 := mul_pw (b := 1112) (d := 15) (mul_pw (b := 1044) (d := 68) (mul_pw (b := 522) (d := 522) hD (Nat.le_refl _)) (Nat.le_refl _)) (by decide)
  refine ⟨D0 * Dx, D0 * 2 ^ 60 * Dx, Dx * 2 ^ 522 * BA * 27720, fun p hp => ?_, fun j hj => ⟨hx.nn j hj, ?_, fun t ht => ?_⟩, ?_⟩
  · exact ((hb.dn p hp).ov (V := 2 ^ 60) (by have := hb.nn p hp; have := n0 (2 ^ 60); grind) (hb.up p hp)).up Dx
  · obtain ⟨s1, s2⟩ := hs j hj
    exact sm_of_dn (d := 522) (e := 522) h0 hD (Nat.le_refl _) s1 (hx.nn j hj) s2 (by decide)
  · obtain ⟨s1, s2⟩ := hs j hj
    have oo := o.deed (deedAt_of hj)
    have ot : Ov DA BA t.2 := by
      rcases List.mem_append.mp ht with h | h
      · exact (oo.1.1 t h).2.1
      · exact (oo.2.1 t h).2.1
    have q := ((s1.ov (V := 2 ^ 522) (by have := hx.nn j hj; have := n0 (2 ^ 522); grind) s2).mul ot).up 27720
    rw [e0] at q
    exact q
  · refine ⟨Nat.mul_pos d0 h0, ?_, ?_⟩
    · exact pw_le (mul_pw d43 hD) (by decide)
    · have : D0 * 2 ^ 60 * Dx + 80 * (Dx * 2 ^ 522 * BA * 27720) ≤ 2 ^ 625 + 80 * 2 ^ 1127 := Nat.add_le_add b1 (Nat.mul_le_mul_left _ c1)
      exact Nat.lt_of_le_of_lt this (by decide +kernel)
theorem outs_nil {out : Nat → Option PyData} {n : Nat} (h : ∀ i, i < n → out i = none) : outs out n = [] := by
  induction n with
  | zero => rfl
  | succ n ih => rw [outs_no (h n (by omega)), ih fun i hi => h i (by omega)]
theorem rising_uniq : ∀ {l m : List Nat}, l.Pairwise (· < ·) → m.Pairwise (· < ·) → (∀ k, k ∈ l ↔ k ∈ m) → l = m
  | [], [], _, _, _ => rfl
  | [], b :: m, _, _, h => absurd ((h b).mpr List.mem_cons_self) (by simp)
  | a :: l, [], _, _, h => absurd ((h a).mp List.mem_cons_self) (by simp)
  | a :: l, b :: m, h1, h2, h => by
    obtain ⟨a1, a2⟩ := List.pairwise_cons.mp h1
    obtain ⟨b1, b2⟩ := List.pairwise_cons.mp h2
    have e : a = b := by
      rcases List.mem_cons.mp ((h a).mp List.mem_cons_self) with q | q
      · exact q
      · rcases List.mem_cons.mp ((h b).mpr List.mem_cons_self) with z | z
        · exact z.symm
        · have := b1 a q
          have := a1 b z
          omega
    subst e
    rw [rising_uniq a2 b2 fun k => ⟨fun z => ?_, fun z => ?_⟩]
    · rcases List.mem_cons.mp ((h k).mp (List.mem_cons_of_mem _ z)) with q | q
      · have := a1 k z
        omega
      · exact q
    · rcases List.mem_cons.mp ((h k).mpr (List.mem_cons_of_mem _ z)) with q | q
      · have := b1 k z
        omega
      · exact q
theorem CanBe.uniq {N : Net} {v : Nat → Rat} {ws fs us gs : List Nat} (c : CanBe N v ws fs) (d : CanBe N v us gs) : us = ws ∧ gs = fs := by
  obtain ⟨f1, r1, c1, h1, w1⟩ := c.ex
  obtain ⟨f2, r2, c2, h2, w2⟩ := d.ex
  have e := fun j => reach_same r1 c1 r2 c2 j
  refine ⟨rising_uniq d.sw c.sw fun p => ?_, rising_uniq d.sf c.sf fun j => ?_⟩
  · rw [w1, w2]
    exact ⟨Wet.mono fun j hj => (e j).mpr hj, Wet.mono fun j hj => (e j).mp hj⟩
  · rw [h1, h2]
    exact (e j).symm
section
variable {P : Program} {w : World} {K : PySem.W.Frag} {mg : Str → Option Value} {base : Heap} {f : Addr} {fd : FuncData} {aN aO aT aH : Addr}
def RIsNear : RC := fun ds Q => ∃ N b e x ws fs, ds = [netD N, vD N.many b, vD N.many e, vD N.deeds.length x] ∧ OkNet N ∧ EOk N b ∧ CanBe N b ws fs ∧ NearOk N b e fs x ∧ Q (.bool true)
theorem sc_law_is_near : FnScope ["_law_net_here", "_law_begin", "_law_end", "_law_parts", "_law_able", "_law_one", "_law_deed_here"] ["_law_net_here", "_law_begin", "_law_end", "_law_parts"] (defScope (top 91)) := ⟨rfl, rfl, rfl, by decide +kernel, rfl, by decide +kernel, by decide +kernel⟩
theorem ok_law_is_near (F : FnT K "_law_is_near" (top 91) f fd) (B : Bt mg) (g_law_end_by : Fn P w K mg base "_law_end_by" 4 (spD K REndBy)) (g_law_is_fraction : Fn P w K mg base "_law_is_fraction" 2 (spD K RIsFrac)) (g_law_wet : Fn P w K mg base "_law_wet" 1 (spD K RWetL)) : FnOk P w K mg base CX0 5 f fd ["_law_net_here", "_law_begin", "_law_end", "_law_parts"] (spD K RIsNear) := by
  have nd := sc_law_is_near.nd
  refine okD F sc_law_is_near (by decide) (fun ds Q h => ?_) (fun cdv A outer s H hr => ?_)
  · obtain ⟨N, b, e, x, ws, fs, rfl, _⟩ := h
    rfl
  have hu := hr.units
  refine ⟨_, _, (sss_cons (ss_if (sw_or (st_not (st_val (se_isi (T := "list") B.isinstance B.list_ (sv 3)))) (sw_or1 (st_ne (se_len B.len (sv 3)) (se_len B.len (se_ixT (sv 0) se_int))))).t (sss_one (ss_ret se_bl)) sss_nil)
      (sss_cons (ss_if (st_neD hu (se_ofN (sn_lc [("_law_one", 5)] rfl nd (si_list (sv 3)) (by kernel_rfl) (fun _ _ _ _ _ => by exact (sg_name 5 nd)) (fun _ _ _ _ _ => by exact (sts_one (sw_or (st_not (st_val (se_call g_law_is_fraction hr (sa_cons (sv 5) sa_nil)))) (sw_or1 (st_lt (se_ixT (sv 5) se_int) se_int))).t)) (fun _ _ _ _ _ => by exact (sv 5)))) (se_lst sa_nil)) (sss_one (ss_ret se_bl)) sss_nil)
      (sss_cons (ss_set 4 nd (se_ixT (se_call g_law_wet hr (sa_cons (sv 0) (sa_cons (sv 1) (sa_cons (se_ofN (sn_listR B.list B.range rfl (se_len B.len (se_ixT (sv 0) se_int)))) sa_nil)))) se_int))
      (sss_cons (ss_if (st_neD hu (se_ofN (sn_lc [("_law_deed_here", 6)] rfl nd (si_range B.range (sa_cons (se_len B.len (sv 3)) sa_nil)) (by kernel_rfl) (fun _ _ _ _ _ => by exact (sg_name 6 nd)) (fun _ _ _ _ _ => by exact (sts_one (sw_and (st_gt (se_ixT (se_ixL (sv 3) (sv 6)) se_int) se_int) (sw_and1 (st_notIn (sv 6) (sv 4)))).t)) (fun _ _ _ _ _ => by exact (sv 6)))) (se_lst sa_nil)) (sss_one (ss_ret se_bl)) sss_nil)
      (sss_one (ss_ret (se_eqD hu (se_call g_law_end_by hr (sa_cons (sv 0) (sa_cons (sv 1) (sa_cons (sv 3) sa_nil)))) (sv 2)))))))), fun ds Q h => ?_⟩
  obtain ⟨N, b, e, x, ws, fs, rfl, o, hb, cb, nk, hQ⟩ := h
  have hl := o.2.2.1
  obtain ⟨D, B', C', sb, sx, bd⟩ := near_sz o hb nk
  refine ⟨_, rfl, _, rfl, _, rfl, ?_⟩
  refine iteF ?_
  refine ⟨_, rfl, _, .inl rfl, _, rfl, _, 1, _, rfl, rfl, rfl, _, .inl rfl, _, rfl, _, rfl, ?_⟩
  have el : ((vL N.deeds.length x).length : Int) = ((N.deeds.map deedD).length : Int) := by rw [vL_len, List.length_map]
  rw [decide_eq_true el]
  refine iteF ?_
  refine ⟨_, rfl, _, rfl, rfl, by rw [vL_len]; omega, fun _ => none, fun i d hd => ?_, ?_⟩
  · obtain ⟨hi, rfl⟩ := mapD_get hd
    obtain ⟨q1, q2, _⟩ := sx i hi
    refine ⟨_, rfl, _, rfl, q2, _, rfl, ?_⟩
    refine iteF ?_
    refine ⟨_, rfl, _, 0, _, rfl, rfl, rfl, _, _, rfl, rfl, _, rfl, rfl, ?_⟩
    rw [decide_eq_false (show ¬ (x i).num < 0 from fun z => by have := num_neg.mp z; grind)]
    exact iteF rfl
  rw [outs_nil fun _ _ => rfl]
  refine ⟨by show (0 : Nat) ≤ 1000; decide, lay_nil.shaped (by decide), lay_nil.shaped (by decide), _, rfl, ?_⟩
  rw [show PyData.eqv (.list []) (.list []) = true from lay_nil.self]
  refine iteF ?_
  refine ⟨_, rfl, _, rfl, _, rfl, _, 1, _, rfl, rfl, rfl, _, .inl rfl, N.deeds.length, by rw [List.length_map], by omega, N, b, rfl, o, fun us gs cb' => ?_⟩
  obtain ⟨rfl, rfl⟩ := cb.uniq cb'
  refine ⟨_, 1, _, rfl, rfl, rfl, ?_⟩
  refine ⟨_, rfl, _, .inl rfl, N.deeds.length, by rw [vL_len], by omega, rfl, by rw [rgD_map, mapD_len]; omega, fun _ => none, fun i d hd => ?_, ?_⟩
  · rw [rgD_map] at hd
    obtain ⟨hi, rfl⟩ := mapD_get hd
    refine ⟨_, rfl, _, rfl, _, _, _, rfl, rfl, vL_ix hi, _, 0, _, rfl, rfl, rfl, _, _, rfl, rfl, _, rfl, ?_⟩
    rw [decide_num_pos]
    refine ite2 (fun h1 => ?_) (fun h1 => ⟨rfl, iteF rfl⟩)
    have h1 : 0 < x i := of_decide_eq_true h1
    have hm : i ∈ gs := Classical.byContradiction fun z => by
      have := nk.out i hi z
      grind
    refine ⟨_, rfl, _, rfl, i, gs.map fun i : Nat => (i : Int), rfl, natD_ints gs, _, rfl, rfl, ?_⟩
    rw [if_pos rfl, dec_ints, decide_eq_true hm]
    exact iteF rfl
  rw [outs_nil fun _ _ => rfl]
  refine ⟨by show (0 : Nat) ≤ 1000; decide, lay_nil.shaped (by decide), lay_nil.shaped (by decide), _, rfl, ?_⟩
  rw [show PyData.eqv (.list []) (.list []) = true from lay_nil.self]
  refine iteF ?_
  refine ⟨_, rfl, _, rfl, _, rfl, N, b, x, D, B', C', rfl, o, sb, sx, bd, ?_⟩
  have ee : vD N.many (fun p => b p + cby N x N.deeds.length p) = vD N.many e := congrArg PyData.list (vL_congr fun p hp => nk.eq p hp)
  rw [ee]
  refine ⟨_, rfl, (lay_vD _ _).shaped (by decide), (lay_vD _ _).shaped (by decide), ?_⟩
  rw [(lay_vD _ _).self]
  exact hQ
end
end Tk
end
section
set_option Elab.async false
set_option linter.all false
set_option maxRecDepth 100000
set_option maxHeartbeats 4000000
set_option exponentiation.threshold 10000
namespace Tk
open PySem PySem.Spec PyProof.Rows L2
abbrev dryL (n : Nat) (ws : List Nat) : List Nat := (List.range n).filter fun p => !decide (p ∈ ws)
theorem mem_dry {n : Nat} {ws : List Nat} {p : Nat} : p ∈ dryL n ws ↔ p < n ∧ p ∉ ws := by
  rw [List.mem_filter, List.mem_range]
  simp
theorem dry_up (n : Nat) (ws : List Nat) : (dryL n ws).Pairwise (· < ·) := List.Pairwise.filter _ List.pairwise_lt_range
theorem dry_len (n : Nat) (ws : List Nat) : (dryL n ws).length ≤ n := by
  have q := List.length_filter_le (fun p => !decide (p ∈ ws)) (List.range n)
  rw [List.length_range] at q
  exact q
theorem ints_uniq {l : List Nat} {ms : List Int} (h : l.Pairwise (· < ·)) (hm : ms.Pairwise (· < ·)) (e : ∀ k : Int, k ∈ ms ↔ k ∈ l.map fun i : Nat => (i : Int)) : ms = l.map fun i : Nat => (i : Int) := by
  have e1 : ms = (ms.map Int.toNat).map (fun i : Nat => (i : Int)) := by
    rw [List.map_map]
    conv => lhs; rw [← List.map_id ms]
    refine List.map_congr_left fun x hx => ?_
    obtain ⟨i, _, rfl⟩ := List.mem_map.mp ((e x).mp hx)
    rfl
  have nn : ∀ x ∈ ms, 0 ≤ x := fun x hx => by
    obtain ⟨i, _, rfl⟩ := List.mem_map.mp ((e x).mp hx)
    omega
  have up : (ms.map Int.toNat).Pairwise (· < ·) := by
    rw [List.pairwise_map]
    exact hm.imp_of_mem fun {a b} ha hb hab => by
      have := nn a ha
      omega
  rw [e1, rising_uniq up h fun k => ?_]
  rw [← mem_ints (l := l), ← e]
  constructor
  · intro z
    obtain ⟨x, hx, rfl⟩ := List.mem_map.mp z
    have := nn x hx
    rw [show ((x.toNat : Nat) : Int) = x by omega]
    exact hx
  · intro z
    exact List.mem_map.mpr ⟨_, z, by omega⟩
theorem eqv_natD_nil (l : List Nat) : PyData.eqv (natD l) (.list []) = decide (l = []) := by
  cases l with
  | nil => exact lay_nil.self
  | cons a r => exact eqv_cons_nil _ _
theorem Reach.wet {N : Net} {v : Nat → Rat} {fs : List Nat} {j p : Nat} (r : Reach N v fs) (hj : j ∈ fs) (hp : p ∈ tk N j) : Wet N v fs p := by
  obtain ⟨i, hi⟩ := List.getElem?_of_mem hj
  exact (r.ok i j hi p hp).mono fun k hk => List.mem_of_mem_take hk
/-! ### sizes of what is weighed -/
theorem dot_sm {D E B C n : Nat} {u v : Nat → Rat} (hu : ∀ p, p < n → Ov D B (u p)) (hv : ∀ p, p < n → Ov E C (v p)) (hn : n ≤ 5) (bd : Bd (D * E) (5 * (B * C))) : (∀ p, p < n → Sm (u p * v p)) ∧ ∀ i, i ≤ n → Sm (dotN u v i) := by
  have h1 : ∀ p, p < n → Ov (D * E) (B * C) (u p * v p) := fun p hp => (hu p hp).mul (hv p hp)
  refine ⟨fun p hp => (h1 p hp).sm (bd.le bd.1 (Nat.le_refl _) (by omega)), fun i hi => ?_⟩
  have q : Ov (D * E) (i * (B * C)) (dotN u v i) := sumN_ov fun p hp => h1 p (by omega)
  refine (q.mono ?_).sm bd
  exact Nat.mul_le_mul_right _ (by omega)
theorem far_sz {N : Net} {b e x : Nat → Rat} {fs : List Nat} (o : OkNet N) (hb : EOk N b) (he : EOk N e) (hx : FarOk N b e fs x) : (∀ p, p < N.many → Sm (x p)) ∧ (∀ j, j < N.deeds.length → (∀ p, p < N.many → Sm (chg (deedAt N j) p) ∧ Sm (x p * chg (deedAt N j) p)) ∧ ∀ i, i ≤ N.many → Sm (dotN x (chg (deedAt N j)) i)) ∧
    (∀ p, p < N.many → Sm (b p) ∧ Sm (e p) ∧ Sm (e p + -b p) ∧ Sm (x p * (e p + -b p))) ∧ ∀ i, i ≤ N.many → Sm (dotN x (fun p => e p + -b p) i) := by
  obtain ⟨D, h0, hD, hs⟩ := hx.sz
  have l5 := o.2.1
  have d0 : 0 < D0 := by decide +kernel
  have d43 : D0 ≤ 2 ^ 43 := by decide +kernel
  have n0 : ∀ V : Nat, -(V : Rat) ≤ 0 := fun V => by have := natR0 V; grind
  have ox : ∀ p, p < N.many → Ov D (D * 2 ^ 570) (x p) := fun p hp => (hs p hp).1.ov (hs p hp).2.1 (hs p hp).2.2
  have ob : ∀ p, p < N.many → Ov D0 (D0 * 2 ^ 60) (b p) := fun p hp => (hb.dn p hp).ov (V := 2 ^ 60) (by have := hb.nn p hp; have := n0 (2 ^ 60); grind) (hb.up p hp)
  have oe : ∀ p, p < N.many → Ov D0 (D0 * 2 ^ 60) (e p) := fun p hp => (he.dn p hp).ov (V := 2 ^ 60) (by have := he.nn p hp; have := n0 (2 ^ 60); grind) (he.up p hp)
  have dx : D * 2 ^ 570 ≤ 2 ^ 1092 := mul_pw (b := 522) (d := 570) hD (Nat.le_refl _)
  have bx : Bd D (D * 2 ^ 570) := ⟨h0, pw_le hD (by decide), pw_le dx (by decide)⟩
  have b0 : Bd D0 (D0 * 2 ^ 60 + D0 * 2 ^ 60) := ⟨d0, by decide +kernel, by decide +kernel⟩
  have bc : Bd (D * DA) (5 * (D * 2 ^ 570 * (2 * BA))) := by
    refine ⟨Nat.mul_pos h0 (by decide), pw_le (mul_pw (d := 28) hD (by decide)) (by decide), ?_⟩
    have q : D * 2 ^ 570 * (2 * BA) ≤ 2 ^ 1161 := mul_pw (b := 1092) (d := 69) dx (by decide)
    exact pw_le (mul_pw (a := 5) (b := 3) (by decide) q) (by decide)
  have bg : Bd (D * D0) (5 * (D * 2 ^ 570 * (D0 * 2 ^ 60 + D0 * 2 ^ 60))) := by
    refine ⟨Nat.mul_pos h0 d0, pw_le (mul_pw hD d43) (by decide), ?_⟩
    have q : D * 2 ^ 570 * (D0 * 2 ^ 60 + D0 * 2 ^ 60) ≤ 2 ^ 1196 := mul_pw (b := 1092) (d := 104) dx (by decide +kernel)
    exact pw_le (mul_pw (a := 5) (b := 3) (by decide) q) (by decide)
  have og : ∀ p, p < N.many → Ov D0 (D0 * 2 ^ 60 + D0 * 2 ^ 60) (e p + -b p) := fun p hp => (oe p hp).add (ob p hp).neg
  have b60 : Bd D0 (D0 * 2 ^ 60) := ⟨d0, by decide +kernel, by decide +kernel⟩
  obtain ⟨g1, g2⟩ := dot_sm ox og l5 bg
  refine ⟨fun p hp => (ox p hp).sm bx, fun j hj => ?_, fun p hp => ⟨(ob p hp).sm b60, (oe p hp).sm b60, (og p hp).sm b0, g1 p hp⟩, g2⟩
  obtain ⟨c1, c2⟩ := dot_sm ox (v := chg (deedAt N j)) (fun p _ => chg_ov o hj p) l5 bc
  exact ⟨fun p hp => ⟨(chg_ov o hj p).sm ⟨by decide, by decide +kernel, by decide +kernel⟩, c1 p hp⟩, c2⟩
section
variable {P : Program} {w : World} {K : PySem.W.Frag} {mg : Str → Option Value} {base : Heap} {f : Addr} {fd : FuncData} {aN aO aT aH : Addr}
def RByPlaces : RC := fun ds Q => ∃ N b ws fs, ds = [netD N, natD (List.range N.deeds.length), vD N.many b, natD (dryL N.many ws), .int 0] ∧ OkNet N ∧ (∀ p, p < N.many → 0 ≤ b p) ∧ CanBe N b ws fs ∧ ∀ ks, (∀ k ∈ ks, k ∈ fs) → ks.length ≤ 7 → Q (pr (natD ks) (.bool false))
theorem sc_law_by_places : FnScope ["_law_net_here", "_law_left", "_law_stand", "_law_places", "_law_way", "_law_kept", "_law_deed_here", "_law_takes", "_law_gives", "_law_one", "_law_place", "_law_amount_here"] ["_law_net_here", "_law_left", "_law_stand", "_law_places", "_law_way"] (defScope (top 87)) := ⟨rfl, rfl, rfl, by decide +kernel, rfl, by decide +kernel, by decide +kernel⟩
theorem ok_law_by_places (F : FnT K "_law_by_places" (top 87) f fd) (B : Bt mg) (g_law_whole : Fn P w K mg base "_law_whole" 1 (spD K RWholeL)) : FnOk P w K mg base CX0 2 f fd ["_law_net_here", "_law_left", "_law_stand", "_law_places", "_law_way"] (spD K RByPlaces) := by
  have nd := sc_law_by_places.nd
  refine okD F sc_law_by_places (by decide) (fun ds Q h => ?_) (fun cdv A outer s H hr => ?_)
  · obtain ⟨N, b, ws, fs, rfl, _⟩ := h
    rfl
  have hu := hr.units
  refine ⟨_, _, (sss_cons (ss_if (sw_or (st_not (st_val (se_isi (T := "list") B.isinstance B.list_ (sv 3)))) (sw_or1 (st_neD hu (se_ofN (sn_lc [("_law_one", 9)] rfl nd (si_list (sv 3)) (by kernel_rfl) (fun _ _ _ _ _ => by exact (sg_name 9 nd)) (fun _ _ _ _ _ => by exact (sts_one (st_not (st_val (se_call g_law_whole hr (sa_cons (sv 9) sa_nil)))))) (fun _ _ _ _ _ => by exact (sv 9)))) (se_lst sa_nil)))).t (sss_one (ss_ret se_non)) sss_nil)
      (sss_cons (ss_if (sw_or (st_neD hu (sv 3) (se_sortedSet B.sorted B.set rfl (sv 3))) (sw_or1 (st_neD hu (se_ofN (sn_lc [("_law_one", 9)] rfl nd (si_list (sv 3)) (by kernel_rfl) (fun _ _ _ _ _ => by exact (sg_name 9 nd)) (fun _ _ _ _ _ => by exact (sts_one (st_not (st_between se_int (sv 9) (se_ixT (sv 0) se_int))))) (fun _ _ _ _ _ => by exact (sv 9)))) (se_lst sa_nil)))).t (sss_one (ss_ret se_non)) sss_nil)
      (sss_cons (ss_if (st_neD hu (se_ofN (sn_lc [("_law_one", 9)] rfl nd (si_list (sv 3)) (by kernel_rfl) (fun _ _ _ _ _ => by exact (sg_name 9 nd)) (fun _ _ _ _ _ => by exact (sts_one (st_ne (se_ixT (se_ixL (sv 2) (sv 9)) se_int) se_int))) (fun _ _ _ _ _ => by exact (sv 9)))) (se_lst sa_nil)) (sss_one (ss_ret se_non)) sss_nil)
      (sss_cons (ss_setN 5 nd (sn_lst sa_nil))
      (sss_cons (ss_for rfl PassesOwn.never (si_list (sv 1)) (sg_name 6 nd)
      (sss_cons (ss_setLcF 7 [("_law_place", 10), ("_law_amount_here", 11)] rfl nd (si_list (se_ixT (se_ixL (se_ixT (sv 0) se_int) (sv 6)) (sv 4))) (by kernel_rfl) (fun _ _ _ _ _ => by exact (sg_two 10 11 rfl nd (sg_name 10 nd) (sg_name 11 nd))) (fun _ _ _ _ _ => by exact (sts_one (st_in (sv 10) (sv 3)))) (fun _ _ _ _ _ => by exact (sv 10)) (sw_true rfl rfl rfl (by decide +kernel)))
      (sss_cons (ss_setLcF 8 [("_law_place", 10), ("_law_amount_here", 11)] rfl nd (si_list (se_ixT (se_ixL (se_ixT (sv 0) se_int) (sv 6)) (se_sub se_int (sv 4)))) (by kernel_rfl) (fun _ _ _ _ _ => by exact (sg_two 10 11 rfl nd (sg_name 10 nd) (sg_name 11 nd))) (fun _ _ _ _ _ => by exact (sts_one (st_in (sv 10) (sv 3)))) (fun _ _ _ _ _ => by exact (sv 10)) (sw_true rfl rfl rfl (by decide +kernel)))
      (sss_cons (ss_if (sw_and (st_neD hu (sv 8) (se_lst sa_nil)) (sw_and1 (st_eqD hu (sv 7) (se_lst sa_nil)))).t (sss_one (ss_ret se_non)) sss_nil)
      (sss_one (ss_if (st_eqD hu (sv 7) (se_lst sa_nil)) (sss_one (ss_appd 5 (sv 6))) sss_nil))))))
      (sss_one (ss_ret (se_tup (sa_cons (svf 5) (sa_cons se_bl sa_nil)))))))))), fun ds Q h => ?_⟩
  obtain ⟨N, b, ws, fs, rfl, o, hb, cb, hQ⟩ := h
  have hm := o.2.1
  have hl := o.2.2.1
  have ld := dry_len N.many ws
  have gd : ∀ {i : Nat} {d : PyData}, (natL (dryL N.many ws))[i]? = some d → ∃ p, d = .int (p : Nat) ∧ p < N.many ∧ p ∉ ws := fun h => by
    obtain ⟨p, hp, rfl⟩ := natL_get h
    exact ⟨p, rfl, mem_dry.mp (mem_at hp)⟩
  refine ⟨_, rfl, _, rfl, _, rfl, ?_⟩
  refine iteF ?_
  refine ⟨_, rfl, _, rfl, rfl, by rw [natL_len]; omega, fun _ => none, fun i d hd => ?_, ?_⟩
  · obtain ⟨p, rfl, _⟩ := gd hd
    exact ⟨_, rfl, _, rfl, _, rfl, rfl, iteF rfl⟩
  rw [outs_nil fun _ _ => rfl]
  refine ⟨by show (0 : Nat) ≤ 1000; decide, lay_nil.shaped (by decide), lay_nil.shaped (by decide), _, rfl, ?_⟩
  rw [show PyData.eqv (.list []) (.list []) = true from lay_nil.self]
  refine iteF ?_
  refine ⟨_, rfl, _, rfl, (dryL N.many ws).map fun i : Nat => (i : Int), natD_ints _, by rw [List.length_map]; omega, fun ms s1 s2 => ?_⟩
  have em := ints_uniq (dry_up N.many ws) s1 s2
  subst em
  rw [← natD_ints]
  refine ⟨(lay_natD _).shaped (by decide), (lay_natD _).shaped (by decide), _, rfl, ?_⟩
  rw [(lay_natD _).self]
  refine iteF ?_
  refine ⟨_, rfl, _, rfl, rfl, by rw [natL_len]; omega, fun _ => none, fun i d hd => ?_, ?_⟩
  · obtain ⟨p, rfl, hp, _⟩ := gd hd
    refine ⟨_, rfl, 0, _, rfl, rfl, _, rfl, ?_⟩
    rw [decide_eq_true (show (0 : Int) ≤ (p : Nat) by omega)]
    refine iteT ?_
    refine ⟨_, rfl, _, 0, _, rfl, rfl, rfl, _, _, rfl, rfl, _, rfl, rfl, ?_⟩
    rw [decide_eq_true (show ((p : Nat) : Int) < (N.many : Int) by omega)]
    exact iteF rfl
  rw [outs_nil fun _ _ => rfl]
  refine ⟨by show (0 : Nat) ≤ 1000; decide, lay_nil.shaped (by decide), lay_nil.shaped (by decide), _, rfl, ?_⟩
  rw [show PyData.eqv (.list []) (.list []) = true from lay_nil.self]
  refine iteF ?_
  refine ⟨_, rfl, _, rfl, rfl, by rw [natL_len]; omega, fun _ => none, fun i d hd => ?_, ?_⟩
  · obtain ⟨p, rfl, hp, hw⟩ := gd hd
    have z : b p = 0 := by
      obtain ⟨gs, _, _, _, h2⟩ := cb.ex
      have n1 : ¬ 0 < b p := fun z => hw ((h2 p).mpr (.inl ⟨hp, z⟩))
      have := hb p hp
      grind
    refine ⟨_, rfl, _, rfl, _, _, _, rfl, rfl, vL_ix hp, _, 0, _, rfl, rfl, rfl, _, rfl, _, rfl, rfl, ?_⟩
    rw [dec_num0, decide_eq_true z]
    exact iteF rfl
  rw [outs_nil fun _ _ => rfl]
  refine ⟨by show (0 : Nat) ≤ 1000; decide, lay_nil.shaped (by decide), lay_nil.shaped (by decide), _, rfl, ?_⟩
  rw [show PyData.eqv (.list []) (.list []) = true from lay_nil.self]
  refine iteF ?_
  refine ⟨by show (0 : Nat) ≤ 1000; decide, ?_⟩
  refine ⟨_, rfl, _, rfl, ?_⟩
  refine ⟨fun i A => ∃ ks x6 x7 x8, A = [.fz (netD N), .fz (natD (List.range N.deeds.length)), .fz (vD N.many b), .fz (natD (dryL N.many ws)), .fz (.int 0), .mu true (natL ks), x6, x7, x8, .no, .no, .no] ∧ (∀ k ∈ ks, k ∈ fs) ∧ ks.length ≤ i,
    ⟨[], _, _, _, rfl, (fun k hk => nomatch hk), Nat.le_refl 0⟩, ?_, ?_⟩
  · rintro i d A hd ⟨ks, x6, x7, x8, rfl, hk, hkl⟩
    obtain ⟨k, hik, rfl⟩ := natL_get hd
    have hi := lt_of_get hik
    rw [List.length_range] at hi
    rw [List.getElem?_range hi] at hik
    have hik := Option.some.inj hik
    subst hik
    have hdk := deedAt_of hi
    have oo := o.deed hdk
    have l1 := oo.1.len
    have l2 := oo.2.len
    refine ⟨_, rfl, _, 1, _, rfl, rfl, rfl, _, rfl, _, _, _, rfl, rfl, deed_ix hdk, _, rfl, _, 0, _, rfl, rfl, rfl, _, rfl, rfl, by rw [sideL_len]; omega, fun t => ((deedAt N i).1[t]?).bind fun e => if decide (e.1 ∈ dryL N.many ws) then some (.int (e.1 : Nat)) else none, fun t d hd2 => ?_, ?_⟩
    · obtain ⟨e, he, rfl⟩ := sideL_get hd2
      refine ⟨_, rfl, _, _, rfl, _, _, rfl, rfl, _, rfl, _, rfl, e.1, (dryL N.many ws).map fun i : Nat => (i : Int), rfl, natD_ints _, _, rfl, rfl, ?_⟩
      rw [if_neg Bool.false_ne_true, dec_ints]
      refine ite2 (fun hy => ?_) (fun hy => ?_)
      · refine ⟨_, rfl, rfl, ?_⟩
        dsimp only
        rw [he]
        show (if (decide (e.1 ∈ dryL N.many ws)) = true then _ else _) = _
        rw [if_pos hy]
      · dsimp only
        rw [he]
        show (if (decide (e.1 ∈ dryL N.many ws)) = true then _ else _) = _
        rw [if_neg hy]
    rw [sideL_len, outs_bind (s := (deedAt N i).1) (p := fun p => decide (p ∈ dryL N.many ws)) fun t e he => by rw [he]; rfl]
    refine ⟨_, rfl, _, 1, _, rfl, rfl, rfl, _, rfl, _, _, _, rfl, rfl, deed_ix hdk, _, rfl, 1, 0, rfl, rfl, _, 1, _, rfl, rfl, rfl, _, rfl, rfl, by rw [sideL_len]; omega, fun t => ((deedAt N i).2[t]?).bind fun e => if decide (e.1 ∈ dryL N.many ws) then some (.int (e.1 : Nat)) else none, fun t d hd2 => ?_, ?_⟩
    · obtain ⟨e, he, rfl⟩ := sideL_get hd2
      refine ⟨_, rfl, _, _, rfl, _, _, rfl, rfl, _, rfl, _, rfl, e.1, (dryL N.many ws).map fun i : Nat => (i : Int), rfl, natD_ints _, _, rfl, rfl, ?_⟩
      rw [if_neg Bool.false_ne_true, dec_ints]
      refine ite2 (fun hy => ?_) (fun hy => ?_)
      · refine ⟨_, rfl, rfl, ?_⟩
        dsimp only
        rw [he]
        show (if (decide (e.1 ∈ dryL N.many ws)) = true then _ else _) = _
        rw [if_pos hy]
      · dsimp only
        rw [he]
        show (if (decide (e.1 ∈ dryL N.many ws)) = true then _ else _) = _
        rw [if_neg hy]
    rw [sideL_len, outs_bind (s := (deedAt N i).2) (p := fun p => decide (p ∈ dryL N.many ws)) fun t e he => by rw [he]; rfl]
    refine ⟨_, rfl, by show (0 : Nat) ≤ 1000; decide, (lay_natD ((gv N i).filter fun p => decide (p ∈ dryL N.many ws))).shaped (by decide), lay_nil.shaped (by decide), _, rfl, ?_⟩
    rw [show PyData.eqv (PyData.list (natL ((List.map (fun x => x.1) (deedAt N i).2).filter fun p => decide (p ∈ dryL N.many ws)))) (.list []) = _ from eqv_natD_nil ((gv N i).filter fun p => decide (p ∈ dryL N.many ws))]
    obtain ⟨gs, rc, cl, h1, h2⟩ := cb.ex
    by_cases hf : i ∈ fs
    · have hg := (h1 i).mp hf
      have e1 : (tk N i).filter (fun p => decide (p ∈ dryL N.many ws)) = [] := List.filter_eq_nil_iff.mpr fun p hp => by
        have : p ∈ ws := (h2 p).mpr (rc.wet hg hp)
        intro z
        exact (mem_dry.mp (of_decide_eq_true z)).2 this
      have e2 : (gv N i).filter (fun p => decide (p ∈ dryL N.many ws)) = [] := List.filter_eq_nil_iff.mpr fun p hp => by
        have : p ∈ ws := (h2 p).mpr (.inr ⟨i, hg, hp⟩)
        intro z
        exact (mem_dry.mp (of_decide_eq_true z)).2 this
      rw [decide_eq_true e2]
      refine iteF ?_
      refine ⟨_, rfl, by show (0 : Nat) ≤ 1000; decide, (lay_natD ((tk N i).filter fun p => decide (p ∈ dryL N.many ws))).shaped (by decide), lay_nil.shaped (by decide), _, rfl, ?_⟩
      rw [show PyData.eqv (PyData.list (natL ((List.map (fun x => x.1) (deedAt N i).1).filter fun p => decide (p ∈ dryL N.many ws)))) (.list []) = _ from eqv_natD_nil ((tk N i).filter fun p => decide (p ∈ dryL N.many ws)), decide_eq_true e1]
      refine iteT ?_
      refine ⟨⟨_, _, rfl⟩, _, rfl, _, _, rfl, by rw [natL_len]; omega, ?_⟩
      refine ⟨ks ++ [i], .fz (.int (i : Nat)), .fz (natD ((tk N i).filter fun p => decide (p ∈ dryL N.many ws))), .fz (natD ((gv N i).filter fun p => decide (p ∈ dryL N.many ws))), ?_, fun k hk' => ?_, ?_⟩
      · unfold natD natL
        rw [List.map_append]
        rfl
      · rcases List.mem_append.mp hk' with z | z
        · exact hk k z
        · have : k = i := by simpa using z
          rw [this]
          exact hf
      · rw [List.length_append]
        exact Nat.succ_le_succ hkl
    · have ne : (tk N i).filter (fun p => decide (p ∈ dryL N.many ws)) ≠ [] := by
        obtain ⟨p, hp, hw⟩ := cl i hi fun z => hf ((h1 i).mpr z)
        have hpl : p < N.many := by
          obtain ⟨e, he, rfl⟩ := List.mem_map.mp hp
          exact (oo.1.1 e he).1
        have hm : p ∈ (tk N i).filter (fun p => decide (p ∈ dryL N.many ws)) := List.mem_filter.mpr ⟨hp, decide_eq_true (mem_dry.mpr ⟨hpl, fun z => hw ((h2 p).mp z)⟩)⟩
        exact List.ne_nil_of_mem hm
      have q2 : PyData.eqv (PyData.list (natL ((List.map (fun x => x.1) (deedAt N i).1).filter fun p => decide (p ∈ dryL N.many ws)))) (.list []) = false := (eqv_natD_nil ((tk N i).filter fun p => decide (p ∈ dryL N.many ws))).trans (decide_eq_false ne)
      refine ite2 (fun _ => ?_) (fun _ => ?_)
      · refine ⟨_, rfl, by show (0 : Nat) ≤ 1000; decide, (lay_natD ((tk N i).filter fun p => decide (p ∈ dryL N.many ws))).shaped (by decide), lay_nil.shaped (by decide), _, rfl, ?_⟩
        rw [q2]
        refine iteF ?_
        refine ⟨_, rfl, by show (0 : Nat) ≤ 1000; decide, (lay_natD ((tk N i).filter fun p => decide (p ∈ dryL N.many ws))).shaped (by decide), lay_nil.shaped (by decide), _, rfl, ?_⟩
        rw [q2]
        refine iteF ?_
        exact ⟨ks, _, _, _, rfl, hk, Nat.le_succ_of_le hkl⟩
      · refine iteF ?_
        refine ⟨_, rfl, by show (0 : Nat) ≤ 1000; decide, (lay_natD ((tk N i).filter fun p => decide (p ∈ dryL N.many ws))).shaped (by decide), lay_nil.shaped (by decide), _, rfl, ?_⟩
        rw [q2]
        refine iteF ?_
        exact ⟨ks, _, _, _, rfl, hk, Nat.le_succ_of_le hkl⟩
  · rintro A ⟨ks, x6, x7, x8, rfl, hk, hkl⟩
    rw [natL_len, List.length_range] at hkl
    exact ⟨_, rfl, by show (2 : Nat) ≤ 1000; decide, hQ ks hk (by omega)⟩
def RIsFar : RC := fun ds Q => ∃ N b e x ws fs, ds = [netD N, vD N.many b, vD N.many e, natD (dryL N.many ws), vD N.many x] ∧ OkNet N ∧ EOk N b ∧ EOk N e ∧ CanBe N b ws fs ∧ FarOk N b e fs x ∧ Q (.bool true)
theorem sc_law_is_far : FnScope ["_law_net_here", "_law_begin", "_law_end", "_law_places", "_law_weights", "_law_deeds", "_law_found", "_law_one", "_law_deed_here"] ["_law_net_here", "_law_begin", "_law_end", "_law_places", "_law_weights"] (defScope (top 90)) := ⟨rfl, rfl, rfl, by decide +kernel, rfl, by decide +kernel, by decide +kernel⟩
theorem ok_law_is_far (F : FnT K "_law_is_far" (top 90) f fd) (B : Bt mg) (g_law_by_places : Fn P w K mg base "_law_by_places" 2 (spD K RByPlaces)) (g_law_change : Fn P w K mg base "_law_change" 3 (spD K RChangeOf)) (g_law_gap : Fn P w K mg base "_law_gap" 3 (spD K RGap)) (g_law_is_fraction : Fn P w K mg base "_law_is_fraction" 2 (spD K RIsFrac)) (g_law_weighed : Fn P w K mg base "_law_weighed" 3 (spD K RWeighed)) : FnOk P w K mg base CX0 4 f fd ["_law_net_here", "_law_begin", "_law_end", "_law_places", "_law_weights"] (spD K RIsFar) := by
  have nd := sc_law_is_far.nd
  refine okD F sc_law_is_far (by decide) (fun ds Q h => ?_) (fun cdv A outer s H hr => ?_)
  · obtain ⟨N, b, e, x, ws, fs, rfl, _⟩ := h
    rfl
  have hu := hr.units
  refine ⟨_, _, (sss_cons (ss_set 5 nd (se_ofN (sn_listR B.list B.range rfl (se_len B.len (se_ixT (sv 0) se_int)))))
      (sss_cons (ss_set 6 nd (se_call g_law_by_places hr (sa_cons (sv 0) (sa_cons (sv 5) (sa_cons (sv 1) (sa_cons (sv 3) (sa_cons se_int sa_nil)))))))
      (sss_cons (ss_if (sw_or (st_isN (sv 6)) (sw_or (st_not (st_val (se_isi (T := "list") B.isinstance B.list_ (sv 4)))) (sw_or1 (st_ne (se_len B.len (sv 4)) (se_ixT (sv 0) se_int))))).t (sss_one (ss_ret se_bl)) sss_nil)
      (sss_cons (ss_if (st_neD hu (se_ofN (sn_lc [("_law_one", 7)] rfl nd (si_list (sv 4)) (by kernel_rfl) (fun _ _ _ _ _ => by exact (sg_name 7 nd)) (fun _ _ _ _ _ => by exact (sts_one (st_not (st_val (se_call g_law_is_fraction hr (sa_cons (sv 7) sa_nil)))))) (fun _ _ _ _ _ => by exact (sv 7)))) (se_lst sa_nil)) (sss_one (ss_ret se_bl)) sss_nil)
      (sss_cons (ss_if (st_neD hu (se_ofN (sn_lc [("_law_deed_here", 8)] rfl nd (si_list (se_ixT (sv 6) se_int)) (by kernel_rfl) (fun _ _ _ _ _ => by exact (sg_name 8 nd)) (fun _ _ _ _ _ => by exact (sts_one (st_lt (se_ixT (se_call g_law_weighed hr (sa_cons (sv 4) (sa_cons (se_call g_law_change hr (sa_cons (sv 0) (sa_cons (sv 8) sa_nil))) sa_nil))) se_int) se_int))) (fun _ _ _ _ _ => by exact (sv 8)))) (se_lst sa_nil)) (sss_one (ss_ret se_bl)) sss_nil)
      (sss_one (ss_ret (se_lt (se_ixT (se_call g_law_weighed hr (sa_cons (sv 4) (sa_cons (se_call g_law_gap hr (sa_cons (sv 1) (sa_cons (sv 2) sa_nil))) sa_nil))) se_int) se_int)))))))), fun ds Q h => ?_⟩
  obtain ⟨N, b, e, x, ws, fs, rfl, o, hb, he, cb, fk, hQ⟩ := h
  have hm := o.2.1
  have hl := o.2.2.1
  obtain ⟨z1, z2, z3, z4⟩ := far_sz o hb he fk
  refine ⟨_, rfl, _, 1, _, rfl, rfl, rfl, _, .inl rfl, N.deeds.length, by rw [List.length_map], by omega, ?_⟩
  refine ⟨_, rfl, _, rfl, _, rfl, _, rfl, N, b, ws, fs, rfl, o, hb.nn, cb, fun ks hk hkl => ?_⟩
  refine ⟨_, rfl, rfl, _, rfl, ?_⟩
  refine iteF ?_
  refine ⟨_, rfl, _, rfl, _, rfl, ?_⟩
  refine iteF ?_
  refine ⟨_, rfl, _, .inl rfl, _, rfl, _, 0, _, rfl, rfl, rfl, _, rfl, _, rfl, ?_⟩
  have el : ((vL N.many x).length : Int) = (N.many : Int) := by rw [vL_len]
  rw [decide_eq_true el]
  refine iteF ?_
  refine ⟨_, rfl, _, rfl, rfl, by rw [vL_len]; omega, fun _ => none, fun i d hd => ?_, ?_⟩
  · obtain ⟨hi, rfl⟩ := mapD_get hd
    exact ⟨_, rfl, _, rfl, z1 i hi, _, rfl, rfl, iteF rfl⟩
  rw [outs_nil fun _ _ => rfl]
  refine ⟨by show (0 : Nat) ≤ 1000; decide, lay_nil.shaped (by decide), lay_nil.shaped (by decide), _, rfl, ?_⟩
  rw [show PyData.eqv (.list []) (.list []) = true from lay_nil.self]
  refine iteF ?_
  refine ⟨_, rfl, _, 0, _, rfl, rfl, rfl, _, rfl, rfl, by rw [natL_len]; omega, fun _ => none, fun i d hd => ?_, ?_⟩
  · obtain ⟨k, hik, rfl⟩ := natL_get hd
    have hf := hk k (mem_at hik)
    have hlt := cb.lt k hf
    obtain ⟨y1, y2⟩ := z2 k hlt
    refine ⟨_, rfl, _, rfl, _, rfl, N, k, _, rfl, o, deedAt_of hlt, N.many, x, chg (deedAt N k), rfl, by omega, fun p hp => ⟨z1 p hp, y1 p hp⟩, y2, ?_⟩
    refine ⟨_, 0, _, rfl, rfl, rfl, _, _, rfl, rfl, _, rfl, rfl, ?_⟩
    have q : 0 ≤ dotN x (chg (deedAt N k)) N.many := fk.nn k hf
    rw [decide_eq_false (show ¬ (dotN x (chg (deedAt N k)) N.many).num < 0 from fun z => by have := num_neg.mp z; grind)]
    exact iteF rfl
  rw [outs_nil fun _ _ => rfl]
  refine ⟨by show (0 : Nat) ≤ 1000; decide, lay_nil.shaped (by decide), lay_nil.shaped (by decide), _, rfl, ?_⟩
  rw [show PyData.eqv (.list []) (.list []) = true from lay_nil.self]
  refine iteF ?_
  refine ⟨_, rfl, _, rfl, _, rfl, N.many, b, e, rfl, by omega, fun p hp => ⟨(z3 p hp).1, (z3 p hp).2.1⟩, N.many, x, _, rfl, by omega, fun p hp => ⟨z1 p hp, (z3 p hp).2.2⟩, z4, ?_⟩
  refine ⟨_, 0, _, rfl, rfl, rfl, _, _, rfl, rfl, ?_⟩
  have q : dotN x (fun p => e p + -b p) N.many < 0 := by
    have e1 : dotN x (fun p => e p + -b p) N.many = sumN (fun p => x p * (e p - b p)) N.many := sumN_congr fun p _ => by rw [Rat.sub_eq_add_neg]
    rw [e1]
    exact fk.neg
  have q2 : decide ((dotN x (fun p => e p + -b p) N.many).num < 0) = true := decide_eq_true (num_neg.mpr q)
  show Q (.bool (decide ((dotN x (fun p => e p + -b p) N.many).num < 0)))
  rw [q2]
  exact hQ
end
end Tk
end
section
set_option Elab.async false
set_option linter.all false
set_option maxRecDepth 100000
set_option maxHeartbeats 4000000
set_option exponentiation.threshold 10000
namespace Tk
open PySem PySem.Spec PyProof.Rows L2
section
variable {P : Program} {w : World} {K : PySem.W.Frag} {mg : Str → Option Value} {base : Heap} {f : Addr} {fd : FuncData} {aN aO aT aH : Addr}
theorem Fn.imp {x : Str} {k : Nat} {sp sp' : Sp} (h : Fn P w K mg base x k sp) (i : ∀ vs H Q E, sp' vs H Q E → sp vs H Q E) : Fn P w K mg base x k sp' := by
  obtain ⟨f, fd, ps, F, r⟩ := h
  exact ⟨f, fd, ps, F.imp i, r⟩
theorem DDs.three {F : Hp} {vs : List V} {d e g : PyData} (h : DDs K F vs [d, e, g]) : ∃ v u x, vs = [v, u, x] ∧ DD K F v d ∧ DD K F u e ∧ DD K F x g := by
  cases h with
  | cons h hs =>
    obtain ⟨u, x, rfl, h2, h3⟩ := hs.two
    exact ⟨_, _, _, rfl, h, h2, h3⟩
/-- what already stands may be looked at as frozen, if it is new -/
theorem Gr.also {F H F' H' : Hp} {t : Addr} {o : HO} (g : Gr F H F' H') (ht : H' t = some o) (hn : H t = none) : Gr F H (upd F' t o) H' ∧ Same F' (upd F' t o) := by
  have s : Same F' (upd F' t o) := fun b x z => by
    by_cases hb : b = t
    · subst hb
      have q := g.fh _ _ z
      rw [ht] at q
      cases q
      exact upd_same
    · rw [upd_ne hb]
      exact z
  refine ⟨⟨g.hh, g.ff.trans s, fun b x z => ?_, fun a z n => ?_⟩, s⟩
  · by_cases hb : b = t
    · subst hb
      rw [upd_same] at z
      cases z
      exact ht
    · rw [upd_ne hb] at z
      exact g.fh _ _ z
  · rw [upd_ne (fun q => n (by rw [q]; exact hn))]
    exact g.nw a z n
def RNear : RC := fun ds Q => ∃ N b e, ds = [netD N, vD N.many b, vD N.many e] ∧ OkNet N ∧ EOk N b ∧ EOk N e ∧ (∀ ws fs x, CanBe N b ws fs → NearOk N b e fs x → Q (pr (.str strN) (vD N.deeds.length x))) ∧ (∀ ws fs x, CanBe N b ws fs → FarOk N b e fs x → Q (.tuple [.str strF, natD (dryL N.many ws), vD N.many x]))
theorem near_RNear (h : Fn P w K mg base "near" 7 (spNear K)) : Fn P w K mg base "near" 7 (spD K RNear) := h.imp fun vs H Q E q => by
  obtain ⟨F, ds, Pd, sub, dd, ⟨N, b, e, rfl, o, hb, he, h1, h2⟩, k⟩ := q
  obtain ⟨nv, bv, ev, rfl, dn, db, de⟩ := dd.three
  refine ⟨F, nv, bv, ev, N, b, e, rfl, sub, dn, db, de, o, hb, he, fun ws fs x v F' H' c hx g dv => k _ v F' H' (h1 ws fs x c hx) g dv, fun ws fs x t pl pw F' H' c hx g ht hn hpl hpw hne dpl dpw => ?_⟩
  obtain ⟨g', s⟩ := g.also ht hn
  exact k _ (.ref t) _ H' (h2 ws fs x c hx) g' (.tup (SqT.of upd_same) (.cons (.str _) (.cons (dpl.mono s) (.cons (dpw.mono s) .nil))))
def RNearness : RC := fun ds Q => ∃ N b e, ds = [netD N, vD N.many b, vD N.many e] ∧ OkNet N ∧ EOk N b ∧ EOk N e ∧ (∀ ws fs x, CanBe N b ws fs → NearOk N b e fs x → Q (.str strN)) ∧ (∀ ws fs x, CanBe N b ws fs → FarOk N b e fs x → Q (.str strF))
theorem sc_law_nearness : FnScope ["_law_net_here", "_law_begin", "_law_end", "_law_found"] ["_law_net_here", "_law_begin", "_law_end"] (defScope (top 92)) := ⟨rfl, rfl, rfl, by decide +kernel, rfl, by decide +kernel, by decide +kernel⟩
theorem ok_law_nearness (F : FnT K "_law_nearness" (top 92) f fd) (B : Bt mg) (g_law_is_far : Fn P w K mg base "_law_is_far" 4 (spD K RIsFar)) (g_law_is_near : Fn P w K mg base "_law_is_near" 5 (spD K RIsNear)) (g_near : Fn P w K mg base "near" 7 (spD K RNear)) : FnOk P w K mg base CX0 8 f fd ["_law_net_here", "_law_begin", "_law_end"] (spD K RNearness) := by
  have nd := sc_law_nearness.nd
  refine okD F sc_law_nearness (by decide) (fun ds Q h => ?_) (fun cdv A outer s H hr => ?_)
  · obtain ⟨N, b, e, rfl, _⟩ := h
    rfl
  refine ⟨_, _, (sss_cons (ss_set 3 nd (se_call g_near hr (sa_cons (sv 0) (sa_cons (se_ofN (sn_listOf B.list (sv 1))) (sa_cons (se_ofN (sn_listOf B.list (sv 2))) sa_nil)))))
      (sss_cons (ss_if (sw_or (st_not (st_val (se_isi (T := "tuple") B.isinstance B.tuple_ (sv 3)))) (sw_or1 (st_lt (se_len B.len (sv 3)) se_int))).t (sss_one (ss_ret se_non)) sss_nil)
      (sss_cons (ss_if (sw_and (st_eq (se_ixT (sv 3) se_int) se_str) (sw_and (st_eq (se_len B.len (sv 3)) se_int) (sw_and1 (st_val (se_call g_law_is_near hr (sa_cons (sv 0) (sa_cons (sv 1) (sa_cons (sv 2) (sa_cons (se_ixT (sv 3) se_int) sa_nil))))))))).t (sss_one (ss_ret se_str)) sss_nil)
      (sss_cons (ss_if (sw_and (st_eq (se_ixT (sv 3) se_int) se_str) (sw_and (st_eq (se_len B.len (sv 3)) se_int) (sw_and1 (st_val (se_call g_law_is_far hr (sa_cons (sv 0) (sa_cons (sv 1) (sa_cons (sv 2) (sa_cons (se_ixT (sv 3) se_int) (sa_cons (se_ixT (sv 3) se_int) sa_nil)))))))))).t (sss_one (ss_ret se_str)) sss_nil)
      (sss_one (ss_ret se_non)))))), fun ds Q h => ?_⟩
  obtain ⟨N, b, e, rfl, o, hb, he, hQ1, hQ2⟩ := h
  refine ⟨_, rfl, _, rfl, _, rfl, _, rfl, _, rfl, N, b, e, rfl, o, hb, he, fun ws fs x c hx => ?_, fun ws fs x c hx => ?_⟩
  · refine ⟨_, rfl, _, rfl, _, rfl, ?_⟩
    refine iteF ?_
    refine ⟨_, rfl, _, .inr rfl, _, 2, rfl, rfl, _, rfl, ?_⟩
    refine iteF ?_
    refine ⟨_, rfl, _, 0, _, rfl, rfl, rfl, _, rfl, _, rfl, ?_⟩
    rw [show decide (strN = ("near" : Str)) = true by decide +kernel]
    refine iteT ?_
    refine ⟨_, rfl, _, .inr rfl, _, rfl, _, rfl, ?_⟩
    refine iteT ?_
    refine ⟨_, rfl, _, rfl, _, rfl, _, rfl, _, 1, _, rfl, rfl, rfl, N, b, e, x, ws, fs, rfl, o, hb, c, hx, _, rfl, ?_⟩
    exact iteT (hQ1 ws fs x c hx)
  · refine ⟨_, rfl, _, rfl, _, rfl, ?_⟩
    refine iteF ?_
    refine ⟨_, rfl, _, .inr rfl, _, 2, rfl, rfl, _, rfl, ?_⟩
    refine iteF ?_
    refine ⟨_, rfl, _, 0, _, rfl, rfl, rfl, _, rfl, _, rfl, ?_⟩
    rw [show decide (strF = ("near" : Str)) = false by decide +kernel]
    refine iteF ?_
    refine iteF ?_
    refine ⟨_, rfl, _, 0, _, rfl, rfl, rfl, _, rfl, _, rfl, ?_⟩
    rw [show decide (strF = ("far" : Str)) = true by decide +kernel]
    refine iteT ?_
    refine ⟨_, rfl, _, .inr rfl, _, rfl, _, rfl, ?_⟩
    refine iteT ?_
    refine ⟨_, rfl, _, rfl, _, rfl, _, rfl, _, 1, _, rfl, rfl, rfl, _, rfl, _, 2, _, rfl, rfl, rfl, N, b, e, x, ws, fs, rfl, o, hb, he, c, hx, _, rfl, ?_⟩
    exact iteT (hQ2 ws fs x c hx)
end
end Tk
end
section
set_option Elab.async false
set_option linter.all false
set_option maxRecDepth 100000
set_option maxHeartbeats 4000000
set_option exponentiation.threshold 10000
namespace Tk
open PySem PySem.Spec PyProof.Rows L2
/-! ### a list of two ints that is handed on and changes -/
abbrev roomL (l s : Int) : List PyData := [.int l, .int s]
abbrev roomO (l s : Int) : HO := .lst [.int l, .int s]
def SeedOk (s : Int) : Prop := 0 ≤ s ∧ s < 2147483647
def spR (K : PySem.W.Frag) (R : RC) : Sp := fun vs H Q _ => ∃ (F : Hp) (r : Addr) (l s : Int) (ws : List V) (ds : List PyData) (P : PyData → Prop),
  vs = .ref r :: ws ∧ Same F H ∧ F r = none ∧ H r = some (roomO l s) ∧ SeedOk s ∧ DDs K F ws ds ∧ R ds P ∧
  ∀ d v F' H' l' s', P d → Gr F (upd H r (roomO l' s')) F' H' → SeedOk s' → DD K F' v d → Q v H'
def aCallR (i : Nat) (R : RC) (a : AL) : AE := fun A Q => (∃ o l s, A[i]? = some (.mu o (roomL l s))) ∧ a A fun ds A1 => ∃ o l s, A1[i]? = some (.mu o (roomL l s)) ∧ SeedOk s ∧ R ds fun d => ∀ l' s', SeedOk s' → Q d (A1.set i (.mu o (roomL l' s')))
def aCallRN (R : RC) (an al : AL) : AE := fun A Q => an A fun rs A1 => ∃ l s, rs = roomL l s ∧ SeedOk s ∧ al A1 fun ds A2 => R ds fun d => Q d A2
section
variable {K : PySem.W.Frag} {t : TA} {al an : AL} {R : RC} {i : Nat} {tn : TE}
theorem so_callR (ha : SoA K t al) : SoE K (tCall (spR K R) [] E0 (tCons (tVar i) t)) (aCallR i R al) := fun M F0 H0 A σ F H Qd Q rp h k => by
  obtain ⟨⟨o0, l0, s0, g0⟩, h⟩ := h
  obtain ⟨p, vs0, e1, _⟩ := rp.mu_at g0
  refine ⟨.ref p, e1, ?_⟩
  refine ha M F0 H0 A σ F H _ _ rp h fun ds vs A1 F1 H1 h1 ev d1 => ?_
  obtain ⟨o, l, s, g1, so, hR⟩ := h1
  obtain ⟨p', ws, y1, y2, y3, y4, y5⟩ := ev.rp.mu_at g1
  have ep : p' = p := ref_inj y1 e1
  subst ep
  have ew : ws = [V.int l, .int s] := DDs.int_of (ns := [l, s]) y5
  subst ew
  refine ⟨F1, p', l, s, vs, ds, _, by rw [List.append_nil], ev.rp.sub, y3, y2, so, d1, hR, fun d v F' H' l' s' hd g so' dd => ?_⟩
  have em : Ev K M F0 H0 σ A1 F1 H1 (A1.set i (.mu o (roomL l' s'))) F1 (upd H1 p' (roomO l' s')) := Ev.mut ev.rp g1 y1 (DDs.ints [l', s'])
  exact k d v _ F' H' (hd l' s' so') ((ev.trans em).trans (Ev.grow em.rp g)) dd
theorem Ev.side {M : Addr → Prop} {F0 H0 F H F2 H2 F' H' : Hp} {A A2 : Sto} {σ : L2.St} {p : Addr} {o : HO} (e : Ev K M F0 H0 σ A F H A2 F2 H2) (hp : H p = none) (f2 : F2 p = none) (nm : ¬ MutA A2 σ p) (h0 : H0 p = none) (g : Gr F2 (upd H2 p o) F' H') : Ev K M F0 H0 σ A F H A2 F' H' := by
  have r := e.rp.untracked (o := o) f2 h0 nm
  refine ⟨r.grow g, e.ff.trans g.ff, fun a x h n => ?_, e.mm, fun a z => ?_, fun a h n m => ?_⟩
  · have na : a ≠ p := ne_of_none h hp
    exact g.hh _ _ (by rw [upd_ne na]; exact e.kp a x h n)
  · have z2 := g.hh.free z
    have na : a ≠ p := fun q => by
      rw [q, upd_same] at z2
      cases z2
    rw [upd_ne na] at z2
    exact e.dm a z2
  · have na : a ≠ p := fun q => n (by rw [q]; exact hp)
    refine g.nw a (e.nw a h n m) ?_
    rw [upd_ne na]
    exact fun z => n (e.dm a z)
theorem so_callRN (hn : SoN K tn an) (ha : SoA K t al) : SoE K (tCall (spR K R) [] E0 (tCons tn t)) (aCallRN R an al) := fun M F0 H0 A σ F H Qd Q rp h k => by
  refine hn M F0 H0 A σ F H _ _ rp h fun rs p vs A1 F1 H1 h1 e1 hp fp hp1 d1 => ?_
  obtain ⟨l, s, rfl, so, h1⟩ := h1
  have ew : vs = [V.int l, .int s] := DDs.int_of (ns := [l, s]) d1
  subst ew
  have nm : ¬ MutA A1 σ p := fun m => by
    obtain ⟨j, o, ds, z1, z2⟩ := e1.mm p m
    obtain ⟨p', vs', y1, y2, _⟩ := rp.mu_at z1
    have : p' = p := ref_inj y1 z2
    rw [this, hp] at y2
    cases y2
  refine ha M F0 H0 A1 σ F1 H1 _ _ e1.rp h1 fun ds vs A2 F2 H2 h2 e2 d2 => ?_
  have hp2 : H2 p = some (roomO l s) := e2.kp p _ hp1 nm
  have fp2 : F2 p = none := e2.nw p fp (by rw [hp1]; exact fun z => by cases z) nm
  refine ⟨F2, p, l, s, vs, ds, _, by rw [List.append_nil], e2.rp.sub, fp2, hp2, so, d2, h2, fun d v F' H' l' s' hd g so' dd => ?_⟩
  exact k d v A2 F' H' hd ((e1.trans e2).side hp fp2 (fun m => nm (e2.mm p m)) (rp.dom p hp) g) dd
end
section
variable {X : Cx} {e : Expr} {es : List Expr} {t : TA} {tn : TE} {al an : AL} {pos p py : Pos} {x y : Str} {R : RC}
/-- f(room, ..), room a local -/
theorem se_callR {K : PySem.W.Frag} {j k : Nat} (i : Nat) (G : Fn X.prog X.w X.K X.mg X.base x j (spR K R)) (hr : Room k X.A) (ha : SA X es t al) (hj : j ≤ k := by decide) (hN : X.N[i]? = some y := by rfl) (hv : Vis X.env.scope y := by first | exact Or.inl rfl | exact Or.inr (Or.inl rfl) | exact Or.inr (Or.inr rfl))
    (hd : (y == ("__debug__" : Str)) = false := by decide) (hcd : (y == ("__classdict__" : Str)) = false := by decide) (hg : Gl X x := by rfl) (hdb : (x == ("__debug__" : Str)) = false := by decide)
    (he : starEach (.Name y py :: es) X.env = (false, eval (.Name y py) X.env) :: starEach es X.env := by rfl) (hpl : (backTo pos (starEach es X.env)).any (·.1) = false := by rfl) (hK : X.K = K := by rfl) :
    SE X (.Call (.Name x p) (.Name y py :: es) [] pos) (tCall (spR K R) [] E0 (tCons (tVar i) t)) (aCallR i R al) := by
  subst hK
  exact ⟨by
    obtain ⟨f, fd, ps, F, hm, kp, b⟩ := G
    exact pe_call F (hr.mono hj) hg hm kp b .nil pass0 (pa_cons (pe_var hN hv hd hcd) ha.p he) hdb he hpl, so_callR ha.s⟩
/-- f(a new room, ..) -/
theorem se_callRN {K : PySem.W.Frag} {j k : Nat} (G : Fn X.prog X.w X.K X.mg X.base x j (spR K R)) (hr : Room k X.A) (hn : SN X e tn an) (ha : SA X es t al) (hj : j ≤ k := by decide) (hg : Gl X x := by rfl) (hdb : (x == ("__debug__" : Str)) = false := by decide)
    (he : starEach (e :: es) X.env = (false, eval e X.env) :: starEach es X.env := by rfl) (hpl : (backTo pos (starEach es X.env)).any (·.1) = false := by rfl) (hK : X.K = K := by rfl) :
    SE X (.Call (.Name x p) (e :: es) [] pos) (tCall (spR K R) [] E0 (tCons tn t)) (aCallRN R an al) := by
  subst hK
  exact ⟨by
    obtain ⟨f, fd, ps, F, hm, kp, b⟩ := G
    exact pe_call F (hr.mono hj) hg hm kp b .nil pass0 (pa_cons hn.p ha.p he) hdb he hpl, so_callRN hn.s ha.s⟩
end
/-! ### a def that is handed a room -/
def startR (n : Nat) (l s : Int) (ds : List PyData) : Sto := .mu false (roomL l s) :: startA (n - 1) ds
def RoomIn (A : Sto) : Prop := ∃ l s, A[0]? = some (.mu false (roomL l s)) ∧ SeedOk s
def endsR (P : PyData → Prop) : AEnds := { nx := fun A => RoomIn A ∧ P .none, rt := fun d A => RoomIn A ∧ P d }
section
variable {P : Program} {w : World} {K : PySem.W.Frag} {mg : Str → Option Value} {base : Heap} {f : Addr} {fd : FuncData}
theorem startA_get {n i : Nat} {ds : List PyData} {s : Slot} (h : (startA n ds)[i]? = some s) : (∃ d, s = .fz d) ∨ s = .no := by
  unfold startA at h
  rcases List.mem_append.mp (List.mem_of_getElem? h) with q | q
  · obtain ⟨d, _, e⟩ := List.mem_map.mp q
    exact .inl ⟨d, e.symm⟩
  · rw [List.mem_replicate] at q
    exact .inr q.2
theorem start_room {F H : Hp} {r : Addr} {l s : Int} {vs : List V} {ds : List PyData} {y : Str} {N : List Str} (e : Same F H) (hr : H r = some (roomO l s)) (fr : F r = none) (h : DDs K F vs ds) (hl : ds.length ≤ N.length) :
    Rp K (fun a => a = r) F H (startR (y :: N).length l s ds) (L2.start (y :: N) (.ref r :: vs)) F H := by
  have q := start_rp (N := N) e h hl
  have e1 : L2.start (y :: N) (.ref r :: vs) = some (.ref r) :: L2.start N vs := by
    unfold L2.start
    simp
  rw [e1]
  have nomu : ∀ (i : Nat) (o : Bool) (es : List PyData), (startA N.length ds)[i]? ≠ some (.mu o es) := fun i o es z => by
    rcases startA_get z with ⟨d, q⟩ | q
    · cases q
    · cases q
  refine ⟨fun a o z _ => z, fun a z => z, Same.refl F, e, fun a z _ => z, congrArg Nat.succ q.len, fun i s' es => ?_, fun i j p o u d1 d2 e1 e2 e3 e4 => ?_⟩
  · cases i with
    | zero =>
      have z : Slot.mu false (roomL l s) = s' := Option.some.inj es
      subst z
      exact ⟨r, _, rfl, hr, fr, rfl, DDs.ints [l, s]⟩
    | succ i =>
      have so := q.slot i s' es
      rcases startA_get es with ⟨d, z⟩ | z
      · subst z
        exact so
      · subst z
        trivial
  · cases i with
    | zero =>
      cases j with
      | zero => rfl
      | succ j => exact absurd e2 (nomu j _ _)
    | succ i => exact absurd e1 (nomu i _ _)
theorem okR {x qual : Str} {params : Arguments} {body : List Stmt} {scope : Scope} {dvs : List V} {kws : List (Str × V)} {y : Str} {N ps : List Str} {k : Nat} {R : RC} (F : FunD K x qual params body scope dvs kws f fd) (S : FnScope (y :: N) ps scope) (hps : ps.length ≤ N.length + 1) (len : ∀ ds P, R ds P → ds.length + 1 = ps.length)
    (hb : ∀ (cdv : Value) (A : Around) (outer : List Env) (s : Shared) (H : Hp), Room k (A.deeper (envOfC qual scope s.heap.objs.size f cdv)) →
      ∃ t a, SSs (cxOf CX0 P w K mg base (y :: N) qual scope f cdv A outer s H E0).nox body t a ∧ ∀ (l s : Int) (ds : List PyData) (Pd : PyData → Prop), SeedOk s → R ds Pd → a (endsR Pd) (startR (y :: N).length l s ds)) : FnOk P w K mg base CX0 (k + 1) f fd ps (spR K R) := by
  refine F.ok S (fun vs H Q E h => ?_) (fun cdv A outer s H vs Q E hr h => ?_)
  · obtain ⟨F', r, l, s, ws, ds, Pd, rfl, _, _, _, _, dd, hR, _⟩ := h
    rw [List.length_cons, dd.len]
    exact len ds Pd hR
  · obtain ⟨F', r, l, s', ws, ds, Pd, rfl, sf, fr, hr0, so, dd, hR, q⟩ := h
    obtain ⟨t, ar, hp, har⟩ := hb cdv A outer s H hr
    refine ⟨t, hp.p.nox, ?_⟩
    have hl := len ds Pd hR
    have fin : ∀ (A1 : Sto) (σ1 : L2.St) (F1 H1 : Hp), RoomIn A1 → Rp K (fun a => a = r) F' H A1 σ1 F1 H1 → ∃ l' s', SeedOk s' ∧ Gr F' (upd H r (roomO l' s')) F1 H1 := fun A1 σ1 F1 H1 ⟨l', s2, g, so'⟩ rp => by
      obtain ⟨p, vs, e1, h1, f1, m1, d1⟩ := rp.mu_at g
      rw [if_neg Bool.false_ne_true] at m1
      have m1 : p = r := m1
      subst m1
      have ew : vs = [V.int l', .int s2] := DDs.int_of (ns := [l', s2]) d1
      subst ew
      refine ⟨l', s2, so', fun a o z => ?_, rp.fz, rp.sub, fun a z n => ?_⟩
      · by_cases ha : a = p
        · subst ha
          rw [upd_same] at z
          cases z
          exact h1
        · rw [upd_ne ha] at z
          exact rp.keep a o z ha
      · by_cases ha : a = p
        · rw [ha]
          exact f1
        · rw [upd_ne ha] at n
          exact rp.new a z n
    refine hp.s (fun a => a = r) F' H _ _ F' H (endsR Pd) _ (start_room sf hr0 fr dd (by omega)) (har l s' ds Pd so hR) ⟨fun A1 σ1 F1 H1 h1 r1 s1 => ?_, fun d v A1 σ1 F1 H1 h1 r1 s1 d1 => ?_, fun _ _ _ _ h1 _ _ => h1.elim, fun _ _ _ _ h1 _ _ => h1.elim⟩
    · obtain ⟨l', s2, so', g⟩ := fin A1 σ1 F1 H1 h1.1 r1
      exact q .none .non F1 H1 l' s2 h1.2 g so' .non
    · obtain ⟨l', s2, so', g⟩ := fin A1 σ1 F1 H1 h1.1 r1
      exact q d v F1 H1 l' s2 h1.2 g so' d1
end
end Tk
end
section
set_option Elab.async false
set_option linter.all false
set_option maxRecDepth 100000
set_option maxHeartbeats 4000000
set_option exponentiation.threshold 10000
namespace Tk
open PySem PySem.Spec PyProof.Rows L2
/-! ### the script -/
def aLenSc (i : Nat) : AE := fun A Q => ∃ xs, A[i]? = some (.sc xs) ∧ Q (.int xs.length) A
def aIxSc (i : Nat) (b : AE) : AE := fun A Q => (∃ xs, A[i]? = some (.sc xs)) ∧ b A fun y A1 => ∃ xs k x, A1[i]? = some (.sc xs) ∧ y = .int k ∧ atI xs k = some x ∧ Q (.int x) A1
theorem sqL_keep {K : PySem.W.Frag} {M : Addr → Prop} {F0 H0 F H : Hp} {A : Sto} {σ : L2.St} {a : Addr} {xs : List V} (r : Rp K M F0 H0 A σ F H) (h : SqL K H0 a xs) (m : ¬ M a) : SqL K H a xs := by
  rcases h with (h | ⟨o, h⟩) | h
  · exact .inl (.inl (r.keep a _ h m))
  · exact .inl (.inr ⟨o, r.keep a _ h m⟩)
  · exact .inr h
theorem atI_map {α β : Type} {xs : List α} {g : α → β} {k : Int} {x : α} (h : atI xs k = some x) : atI (xs.map g) k = some (g x) := by
  unfold atI at h ⊢
  rw [List.length_map]
  cases q : ixN xs.length k with
  | none => rw [q] at h; cases h
  | some j =>
    rw [q] at h
    have h : xs[j]? = some x := h
    show (xs.map g)[j]? = some (g x)
    rw [List.getElem?_map, h]
    rfl
section
variable {X : Cx} {e : Expr} {te : TE} {ae : AE} {pos p py : Pos} {y : Str}
theorem se_lenSc {K : PySem.W.Frag} (i : Nat) (hm : X.mg "len" = none) (hN : X.N[i]? = some y := by rfl) (hv : Vis X.env.scope y := by first | exact Or.inl rfl | exact Or.inr (Or.inl rfl) | exact Or.inr (Or.inr rfl)) (hd : (y == ("__debug__" : Str)) = false := by decide) (hcd : (y == ("__classdict__" : Str)) = false := by decide)
    (hg : Gl X "len" := by rfl) (h1 : starEach [.Name y py] X.env = (false, eval (.Name y py) X.env) :: starEach [] X.env := by rfl) (h2 : (backTo pos (starEach [] X.env)).any (·.1) = false := by rfl) (hK : X.K = K := by rfl) :
    SE X (.Call (.Name "len" p) [.Name y py] [] pos) (tCB (fun xs H Q => ∃ p ys, xs = [.ref p] ∧ (SqL K H p ys ∨ SqT K H p ys) ∧ Q (.int ys.length) H) (tCons (tVar i) tNil)) (aLenSc i) := by
  subst hK
  exact ⟨pe_callB call_len_seq hg hm PySem.boot_len (pa_cons (pe_var hN hv hd hcd) pa_nil h1) (by decide) (by decide) h1 h2, fun M F0 H0 A σ F H Qd Q rp h k => by
    obtain ⟨xs, e, q⟩ := h
    obtain ⟨a, e1, sq, m⟩ := rp.slot i _ e
    refine ⟨_, e1, a, xs.map V.int, rfl, .inl (sqL_keep rp sq m), ?_⟩
    rw [List.length_map]
    exact k _ _ A F H q (Ev.refl rp) (.int _)⟩
theorem se_ixSc {K : PySem.W.Frag} (i : Nat) (hb : SE X e te ae) (hs : PlainIx e := by intro _ _; rfl) (hN : X.N[i]? = some y := by rfl) (hv : Vis X.env.scope y := by first | exact Or.inl rfl | exact Or.inr (Or.inl rfl) | exact Or.inr (Or.inr rfl)) (hd : (y == ("__debug__" : Str)) = false := by decide)
    (hcd : (y == ("__classdict__" : Str)) = false := by decide) (hK : X.K = K := by rfl) : SE X (.Subscript (.Name y py) e pos) (tOp (rIxL K) (tVar i) te) (aIxSc i ae) := by
  subst hK
  exact ⟨pe_ix ix_list (pe_var hN hv hd hcd) hb.p hs, fun M F0 H0 A σ F H Qd Q rp h k => by
    obtain ⟨⟨xs0, e0⟩, h⟩ := h
    obtain ⟨a, e1, _, _⟩ := rp.slot i _ e0
    refine ⟨_, e1, ?_⟩
    refine hb.s M F0 H0 A σ F H _ _ rp h fun d v A1 F1 H1 h1 ev d1 => ?_
    obtain ⟨xs, j, x, g1, rfl, g3, g4⟩ := h1
    obtain ⟨a', f1, sq, m⟩ := ev.rp.slot i _ g1
    have ea : a' = a := ref_inj f1 e1
    subst ea
    exact ⟨a', _, j, .int x, rfl, d1.int_v, sqL_keep ev.rp sq m, atI_map g3, k _ _ A1 F1 H1 g4 ev (.int x)⟩⟩
end
/-! ### small numbers -/
theorem Sz.of {n : Int} (h : -(2 ^ 90) < n) (g : n < 2 ^ 90) : Sz n := by
  have q : n.natAbs < 2 ^ 90 := by omega
  exact Nat.lt_of_lt_of_le q (Nat.pow_le_pow_right (by decide) (by decide))
theorem fmod_in (a : Int) {b : Int} (h : 0 < b) : 0 ≤ a.fmod b ∧ a.fmod b < b := by
  rw [Int.fmod_eq_emod_of_nonneg a (Int.le_of_lt h)]
  exact ⟨Int.emod_nonneg a (by omega), Int.emod_lt_of_pos a h⟩
theorem cf_small {j : Int} (h0 : 0 < j) (h : j < 2 ^ 90) (z : Int) : CFdiv z j := Sz.cf (Sz.of (by omega) h) (by omega) z
/-! ### _law_room -/
def spRoom (K : PySem.W.Frag) : Sp := fun vs H Q _ => ∃ (a : Addr) (xs : List Int) (k : Int), vs = [.ref a, .int k] ∧ SqL K H a (xs.map V.int) ∧ 0 ≤ k ∧ k ≤ 1000 ∧ ∀ l s p H', SeedOk s → H p = none → Same H H' → H' p = some (roomO l s) → Q (.ref p) H'
def noHp : Hp := fun _ => none
def startSc (n : Nat) (xs : List Int) (ds : List PyData) : Sto := .sc xs :: startA (n - 1) ds
theorem start_sc {K : PySem.W.Frag} {F H : Hp} {a : Addr} {xs : List Int} {vs : List V} {ds : List PyData} {y : Str} {N : List Str} (e : Same F H) (ha : SqL K H a (xs.map V.int)) (h : DDs K F vs ds) (hl : ds.length ≤ N.length) :
    Rp K (fun _ => False) F H (startSc (y :: N).length xs ds) (L2.start (y :: N) (.ref a :: vs)) F H := by
  have q := start_rp (N := N) e h hl
  have e1 : L2.start (y :: N) (.ref a :: vs) = some (.ref a) :: L2.start N vs := by
    unfold L2.start
    simp
  rw [e1]
  refine ⟨q.keep, q.dom, q.fz, q.sub, q.new, congrArg Nat.succ q.len, fun i s es => ?_, fun i j p o u d1 d2 e1 e2 e3 e4 => ?_⟩
  · cases i with
    | zero =>
      have z : Slot.sc xs = s := Option.some.inj es
      subst z
      exact ⟨a, rfl, ha, id⟩
    | succ i => exact q.slot i s es
  · cases i with
    | zero => cases e1
    | succ i =>
      cases j with
      | zero => cases e2
      | succ j => exact congrArg Nat.succ (q.inj i j p o u d1 d2 e1 e2 e3 e4)
section
variable {P : Program} {w : World} {K : PySem.W.Frag} {mg : Str → Option Value} {base : Heap} {f : Addr} {fd : FuncData} {aN aO aT aH : Addr}
theorem sc_law_room : FnScope ["_law_script", "_law_k", "_law_cell", "_law_left"] ["_law_script", "_law_k"] (defScope (top 63)) := ⟨rfl, rfl, rfl, by decide +kernel, rfl, by decide +kernel, by decide +kernel⟩
theorem ok_law_room (F : FnT K "_law_room" (top 63) f fd) (B : Bt mg) : FnOk P w K mg base CX0 1 f fd ["_law_script", "_law_k"] (spRoom K) := by
  have nd := sc_law_room.nd
  refine F.ok sc_law_room (fun vs H Q E h => ?_) (fun cdv A outer s H vs Q E hr h => ?_)
  · obtain ⟨a, xs, k, rfl, _⟩ := h
    rfl
  obtain ⟨a, xs, k, rfl, sq, k0, k1, hQ⟩ := h
  have bl : SSs (cxOf CX0 P w K mg base ["_law_script", "_law_k", "_law_cell", "_law_left"] "_law_room" (defScope (top 63)) f cdv A outer s H E).nox (defBody (top 63)) _ _ := (sss_cons (ss_set 2 nd se_int)
      (sss_cons (ss_if (st_lt (sv 1) (se_lenSc 0 B.len)) (sss_one (ss_set 2 nd (se_ixSc 0 (sv 1)))) sss_nil)
      (sss_cons (ss_set 3 nd se_int)
      (sss_cons (ss_if (st_ge (sv 2) (se_pow se_int se_int)) (sss_one (ss_set 3 nd (sv 2))) sss_nil)
      (sss_one (ss_ret (se_lst (sa_cons (sv 3) (sa_cons (se_mod (se_mul (se_add (se_add (se_mod (sv 2) se_int) (se_mul (se_mul se_int (sv 1)) (sv 1))) se_int) se_int) se_int) sa_nil)))))))))
  refine ⟨_, bl.p.nox, ?_⟩
  refine bl.s (fun _ => False) noHp H _ _ noHp H (endsD fun d => ∃ l s, SeedOk s ∧ d = .list (roomL l s)) _ (start_sc (ds := [.int k]) (fun _ _ z => by cases z) sq (.cons (.int k) .nil) (by show (1 : Nat) ≤ 3; decide)) ?_ ⟨fun A1 σ1 F1 H1 h1 r1 s1 => ?_, fun d v A1 σ1 F1 H1 h1 r1 s1 d1 => ?_, fun _ _ _ _ h1 _ _ => h1.elim, fun _ _ _ _ h1 _ _ => h1.elim⟩
  · have tail : ∀ (c : Int) (C : AEnds), (∀ l s A, SeedOk s → C.rt (.list (roomL l s)) A) → ∀ z : Slot, ((aSeq (aSet 3 (aC (.int 0))) (aSeq (aIf (aTest (aOp rdGe (aVar 2) (aOp rdPow (aC (.int 10)) (aC (.int 18))))) (aSet 3 (aVar 2)) aNext) (aRet (aOfN (aLst (aCons (aVar 3) (aCons (aOp rdMod (aOp rdMul (aOp rdAdd (aOp rdAdd (aOp rdMod (aVar 2) (aC (.int 2147483629))) (aOp rdMul (aOp rdMul (aC (.int 104729)) (aVar 1)) (aVar 1))) (aC (.int 7))) (aC (.int 48271))) (aC (.int 2147483647))) aNil))))))) C [.sc xs, .fz (.int k), .fz (.int c), z]) := fun c C hC z => by
      have m1 := fmod_in c (b := 2147483629) (by decide)
      have kk : 0 ≤ k * k ∧ k * k ≤ 1000000 := by
        have h1 := Int.mul_nonneg k0 k0
        have h2 : k * k ≤ 1000 * 1000 := Int.mul_le_mul k1 k1 k0 (by decide)
        exact ⟨h1, by omega⟩
      have e1 : 104729 * k * k = 104729 * (k * k) := Int.mul_assoc _ _ _
      have fin : ∀ l : Int, (aRet (aOfN (aLst (aCons (aVar 3) (aCons (aOp rdMod (aOp rdMul (aOp rdAdd (aOp rdAdd (aOp rdMod (aVar 2) (aC (.int 2147483629))) (aOp rdMul (aOp rdMul (aC (.int 104729)) (aVar 1)) (aVar 1))) (aC (.int 7))) (aC (.int 48271))) (aC (.int 2147483647))) aNil))))) C [.sc xs, .fz (.int k), .fz (.int c), .fz (.int l)] := fun l => by
        refine ⟨_, rfl, _, rfl, c, 2147483629, rfl, rfl, (by show (2147483629 : Int) ≠ 0; decide), _, rfl, 104729, k, rfl, rfl, (Sz.of (by decide) (by decide)).mul (Sz.of (by omega) (by omega)), _, rfl, 104729 * k, k, rfl, rfl, (Sz.of (by omega) (by omega)).mul (Sz.of (by omega) (by omega)), _, _, rfl, rfl, _, 7, rfl, rfl, _, 48271, rfl, rfl, (Sz.of (by omega) (by omega)).mul (Sz.of (by decide) (by decide)), _, 2147483647, rfl, rfl, (by show (2147483647 : Int) ≠ 0; decide), by show (2 : Nat) ≤ 1000; decide, ?_⟩
        exact hC _ _ _ (fmod_in _ (by decide))
      refine ⟨_, rfl, 10, 18, rfl, rfl, ⟨by decide, by decide, by decide⟩, _, _, rfl, rfl, _, rfl, ?_⟩
      exact ite2 (fun _ => ⟨_, rfl, fin c⟩) (fun _ => fin 0)
    refine ⟨_, rfl, xs, rfl, _, _, rfl, rfl, _, rfl, ?_⟩
    refine ite2 (fun hk => ?_) (fun hk => tail 0 (endsD fun d => ∃ l s, SeedOk s ∧ d = .list (roomL l s)) (fun l s A so => ⟨l, s, so, rfl⟩) _)
    have hk := of_decide_eq_true hk
    obtain ⟨n, rfl⟩ := Int.eq_ofNat_of_zero_le k0
    have hn : n < xs.length := by omega
    exact ⟨⟨xs, rfl⟩, _, rfl, xs, n, xs[n], rfl, rfl, atI_nat (List.getElem?_eq_getElem hn), tail _ (endsD fun d => ∃ l s, SeedOk s ∧ d = .list (roomL l s)) (fun l s A so => ⟨l, s, so, rfl⟩) _⟩
  · obtain ⟨l, s, _, z⟩ := h1
    cases z
  · obtain ⟨l, s, so, rfl⟩ := h1
    obtain ⟨p, vs, rfl, fp, dd⟩ := d1.list_v
    have ew : vs = [V.int l, .int s] := DDs.int_of (ns := [l, s]) dd
    subst ew
    refine hQ l s p H1 so ?_ (fun a o z => r1.keep a o z id) (r1.sub _ _ fp)
    exact Classical.byContradiction fun z => by
      have := r1.new p rfl z
      rw [fp] at this
      cases this
end
def aRoom (i : Nat) (ae : AE) : AL := fun A Q => (∃ xs, A[i]? = some (.sc xs)) ∧ ae A fun d A1 => (∃ xs, A1[i]? = some (.sc xs)) ∧ ∃ k, d = .int k ∧ 0 ≤ k ∧ k ≤ 1000 ∧ ∀ l s, SeedOk s → Q (roomL l s) A1
theorem sn_room {X : Cx} {e : Expr} {te : TE} {ae : AE} {pos p py : Pos} {y : Str} {K : PySem.W.Frag} {k : Nat} (i : Nat) (G : Fn X.prog X.w X.K X.mg X.base "_law_room" 1 (spRoom K)) (hr : Room k X.A) (he : SE X e te ae) (hj : 1 ≤ k := by decide) (hN : X.N[i]? = some y := by rfl) (hv : Vis X.env.scope y := by first | exact Or.inl rfl | exact Or.inr (Or.inl rfl) | exact Or.inr (Or.inr rfl))
    (hd : (y == ("__debug__" : Str)) = false := by decide) (hcd : (y == ("__classdict__" : Str)) = false := by decide) (hg : Gl X "_law_room" := by rfl)
    (h0 : starEach [.Name y py, e] X.env = (false, eval (.Name y py) X.env) :: starEach [e] X.env := by rfl) (h1 : starEach [e] X.env = (false, eval e X.env) :: starEach [] X.env := by rfl) (hpl : (backTo pos (starEach [e] X.env)).any (·.1) = false := by rfl) (hK : X.K = K := by rfl) :
    SN X (.Call (.Name "_law_room" p) [.Name y py, e] [] pos) (tCall (spRoom K) [] E0 (tCons (tVar i) (tCons te tNil))) (aRoom i ae) := by
  subst hK
  exact ⟨by
    obtain ⟨f, fd, ps, F, hm, kp, b⟩ := G
    exact pe_call F (hr.mono hj) hg hm kp b .nil pass0 (pa_cons (pe_var hN hv hd hcd) (pa_cons he.p pa_nil h1) h0) (by decide) h0 hpl, fun M F0 H0 A σ F H Qd Q rp h k => by
    obtain ⟨⟨xs0, e0⟩, h⟩ := h
    obtain ⟨a, e1, _, _⟩ := rp.slot i _ e0
    refine ⟨_, e1, ?_⟩
    refine he.s M F0 H0 A σ F H _ _ rp h fun d v A1 F1 H1 h1 ev d1 => ?_
    obtain ⟨⟨xs, g1⟩, j, rfl, k0, k1, hQ⟩ := h1
    obtain ⟨a', f1, sq, m⟩ := ev.rp.slot i _ g1
    have ea : a' = a := ref_inj f1 e1
    subst ea
    refine ⟨a', xs, j, by rw [d1.int_v]; rfl, sqL_keep ev.rp sq m, k0, k1, fun l s p H' so hp sm hp' => ?_⟩
    have fp : F1 p = none := ev.rp.sub.free hp
    exact k _ p _ A1 F1 H' (hQ l s so) (ev.trans (Ev.grow ev.rp ⟨sm, Same.refl F1, ev.rp.sub.trans sm, fun a z _ => z⟩)) (ev.hn hp) fp hp' (DDs.ints [l, s])⟩
end Tk
end
section
set_option Elab.async false
set_option linter.all false
set_option maxRecDepth 100000
set_option maxHeartbeats 4000000
set_option exponentiation.threshold 10000
namespace Tk
open PySem PySem.Spec PyProof.Rows L2
/-! ### drawn numbers -/
theorem low_cf {a b : Int} (h : 0 < b) (hb : b < 2 ^ 90) (z g : Int) (g0 : g ≠ 0) (hg : g.natAbs = Int.gcd a b) : CFdiv z g := by
  refine Sz.cf ?_ g0 z
  have q : g.natAbs ≤ b.natAbs := by
    rw [hg]
    exact Nat.le_of_dvd (by omega) (Int.natAbs_dvd_natAbs.mpr (Int.gcd_dvd_right (a := a) (b := b)) |> fun q => by simpa using q)
  exact Sz.of (by omega) (by omega)
structure AmtOk (x : Rat) : Prop where
  dn : Dn DA x
  pos : 0 < x
  up : x ≤ ((10 ^ 12 : Nat) : Rat)
theorem divInt_mul {n d : Int} (h : 0 < d) : Rat.divInt n d * (d : Rat) = (n : Rat) := by
  have hd : (d : Rat) ≠ 0 := fun z => by
    have := Rat.intCast_eq_zero_iff.mp z
    omega
  rw [Rat.divInt_eq_div, Rat.div_mul_cancel hd]
theorem intR {a b : Int} : (a : Rat) ≤ (b : Rat) ↔ a ≤ b := Rat.intCast_le_intCast
theorem intRl {a b : Int} : (a : Rat) < (b : Rat) ↔ a < b := Rat.intCast_lt_intCast
theorem amt_mk {n d q : Int} (h1 : 1 ≤ n) (h2 : n ≤ 10 ^ 12) (hd : 0 < d) (hq : d * q = 231000000) : AmtOk (Rat.divInt n d) := by
  have m := divInt_mul (n := n) hd
  have d1 : (1 : Rat) ≤ (d : Rat) := intR (a := 1).mpr (by omega)
  have n1 : (1 : Rat) ≤ (n : Rat) := intR (a := 1).mpr h1
  have p : 0 < Rat.divInt n d := by
    refine Classical.byContradiction fun z => ?_
    have q := Rat.mul_nonneg (show 0 ≤ -Rat.divInt n d by grind) (show 0 ≤ (d : Rat) by grind)
    rw [Rat.neg_mul, m] at q
    grind
  refine ⟨⟨n * q, ?_⟩, p, ?_⟩
  · have e : ((DA : Nat) : Rat) = (d : Rat) * (q : Rat) := by
      rw [← Rat.intCast_mul, hq]
      rfl
    rw [e, ← Rat.mul_assoc, m, Rat.intCast_mul]
  · have e : ((10 ^ 12 : Nat) : Rat) = ((10 ^ 12 : Int) : Rat) := rfl
    rw [e]
    have q1 := Rat.mul_le_mul_of_nonneg_left d1 (Rat.le_of_lt p)
    have q2 := intR.mpr h2
    rw [m] at q1
    grind
theorem pick4 {a b c d : Int} {r : Int} (h0 : 0 ≤ r) (h1 : r < 4) {Pp : Int → Prop} (ha : Pp a) (hb : Pp b) (hc : Pp c) (hd : Pp d) : ∃ e, atI [PyData.int a, .int b, .int c, .int d] r = some (.int e) ∧ Pp e := by
  rcases (show r = 0 ∨ r = 1 ∨ r = 2 ∨ r = 3 by omega) with rfl | rfl | rfl | rfl
  · exact ⟨a, rfl, ha⟩
  · exact ⟨b, rfl, hb⟩
  · exact ⟨c, rfl, hc⟩
  · exact ⟨d, rfl, hd⟩
theorem seed_mul {s : Int} (h : SeedOk s) {c : Int} (h1 : -(2 ^ 40) < c) (h2 : c < 2 ^ 40) : CMulW s c := (Sz.of (by have := h.1; omega) (by have := h.2; omega)).mul (Sz.of (by omega) (by omega))
section
variable {P : Program} {w : World} {K : PySem.W.Frag} {mg : Str → Option Value} {base : Heap} {f : Addr} {fd : FuncData} {aN aO aT aH : Addr}
def RTake : RC := fun ds Q => ∃ m : Int, ds = [.int m] ∧ 0 < m ∧ m ≤ 10 ^ 12 ∧ ∀ r : Int, 0 ≤ r → r < m → Q (.int r)
theorem sc_law_take : FnScope ["_law_room_here", "_law_many", "_law_found"] ["_law_room_here", "_law_many"] (defScope (top 64)) := ⟨rfl, rfl, rfl, by decide +kernel, rfl, by decide +kernel, by decide +kernel⟩
theorem ok_law_take (F : FnT K "_law_take" (top 64) f fd) : FnOk P w K mg base CX0 1 f fd ["_law_room_here", "_law_many"] (spR K RTake) := by
  have nd := sc_law_take.nd
  refine okR F sc_law_take (by decide) (fun ds Q h => ?_) (fun cdv A outer s H hr => ?_)
  · obtain ⟨m, rfl, _⟩ := h
    rfl
  refine ⟨_, _, (sss_cons (ss_if (st_gt (se_ixM 0 se_int) se_int) (sss_cons (ss_set 2 nd (se_mod (se_ixM 0 se_int) (sv 1)))
      (sss_cons (ss_setIx 0 (se_fdiv (se_ixM 0 se_int) (sv 1)) se_int)
      (sss_one (ss_ret (sv 2))))) sss_nil)
      (sss_cons (ss_setIx 0 (se_mod (se_add (se_mul (se_ixM 0 se_int) se_int) se_int) se_int) se_int)
      (sss_cons (ss_set 2 nd (se_fdiv (se_mod (se_mul (se_ixM 0 se_int) (se_ixM 0 se_int)) se_int) se_int))
      (sss_cons (ss_if (st_gt (sv 1) (se_pow se_int se_int)) (sss_cons (ss_setIx 0 (se_mod (se_add (se_mul (se_ixM 0 se_int) se_int) se_int) se_int) se_int)
      (sss_one (ss_set 2 nd (se_add (se_mul (sv 2) se_int) (se_mod (se_mul (se_ixM 0 se_int) (se_ixM 0 se_int)) se_int))))) sss_nil)
      (sss_one (ss_ret (se_mod (sv 2) (sv 1)))))))), fun l s0 ds Q so h => ?_⟩
  obtain ⟨m, rfl, m0, m1, hQ⟩ := h
  have mz : m ≠ 0 := by omega
  refine ⟨_, _, rfl, _, _, 0, _, rfl, rfl, rfl, _, _, rfl, rfl, _, rfl, ?_⟩
  refine ite2 (fun hp => ?_) (fun hp => ?_)
  · refine ⟨_, _, rfl, _, _, 0, _, rfl, rfl, rfl, _, rfl, l, m, rfl, rfl, mz, ?_⟩
    refine ⟨_, _, rfl, _, _, 0, _, rfl, rfl, rfl, _, rfl, l, m, rfl, rfl, cf_small m0 (by omega) _, ⟨_, _, rfl⟩, _, _, 0, 0, rfl, rfl, rfl, ?_⟩
    obtain ⟨q1, q2⟩ := fmod_in l m0
    exact ⟨_, rfl, ⟨_, _, rfl, so⟩, hQ _ q1 q2⟩
  · refine ⟨_, _, rfl, _, _, 1, _, rfl, rfl, rfl, s0, 48271, rfl, rfl, seed_mul so (by decide) (by decide), _, 39373, rfl, rfl, _, 2147483647, rfl, rfl, (by show (2147483647 : Int) ≠ 0; decide), ⟨_, _, rfl⟩, _, _, 1, 1, rfl, rfl, rfl, ?_⟩
    have so1 : SeedOk ((s0 * 48271 + 39373).fmod 2147483647) := fmod_in _ (by decide)
    refine ⟨_, _, rfl, _, _, 1, _, rfl, rfl, rfl, _, _, rfl, _, _, 1, _, rfl, rfl, rfl, (s0 * 48271 + 39373).fmod 2147483647, (s0 * 48271 + 39373).fmod 2147483647, rfl, rfl, seed_mul so1 (by have := so1.1; omega) (by have := so1.2; omega), _, 2147483629, rfl, rfl, (by show (2147483629 : Int) ≠ 0; decide), _, 16, rfl, rfl, cf_small (by decide) (by decide) _, ?_⟩
    refine ⟨_, rfl, 10, 6, rfl, rfl, ⟨by decide, by decide, by decide⟩, _, _, rfl, rfl, _, rfl, ?_⟩
    refine ite2 (fun hm => ?_) (fun hm => ?_)
    · refine ⟨_, _, rfl, _, _, 1, _, rfl, rfl, rfl, (s0 * 48271 + 39373).fmod 2147483647, 48271, rfl, rfl, seed_mul so1 (by decide) (by decide), _, 39373, rfl, rfl, _, 2147483647, rfl, rfl, (by show (2147483647 : Int) ≠ 0; decide), ⟨_, _, rfl⟩, _, _, 1, 1, rfl, rfl, rfl, ?_⟩
      have so2 : SeedOk (((s0 * 48271 + 39373).fmod 2147483647 * 48271 + 39373).fmod 2147483647) := fmod_in _ (by decide)
      have f1 := fmod_in ((s0 * 48271 + 39373).fmod 2147483647 * (s0 * 48271 + 39373).fmod 2147483647) (b := 2147483629) (by decide)
      have f2 : Sz ((((s0 * 48271 + 39373).fmod 2147483647 * (s0 * 48271 + 39373).fmod 2147483647).fmod 2147483629).fdiv 16) := by
        rw [Int.fdiv_eq_ediv_of_nonneg _ (by decide)]
        exact Sz.of (by omega) (by omega)
      refine ⟨_, rfl, _, 2147483629, rfl, rfl, f2.mul (Sz.of (by decide) (by decide)), _, _, rfl, _, _, 1, _, rfl, rfl, rfl, _, _, rfl, _, _, 1, _, rfl, rfl, rfl, ((s0 * 48271 + 39373).fmod 2147483647 * 48271 + 39373).fmod 2147483647, ((s0 * 48271 + 39373).fmod 2147483647 * 48271 + 39373).fmod 2147483647, rfl, rfl, seed_mul so2 (by have := so2.1; omega) (by have := so2.2; omega), _, 2147483587, rfl, rfl, (by show (2147483587 : Int) ≠ 0; decide), _, _, rfl, rfl, ?_⟩
      refine ⟨_, rfl, _, rfl, _, m, rfl, rfl, mz, ⟨_, _, rfl, so2⟩, ?_⟩
      obtain ⟨q1, q2⟩ := fmod_in (((((s0 * 48271 + 39373).fmod 2147483647 * (s0 * 48271 + 39373).fmod 2147483647).fmod 2147483629).fdiv 16) * 2147483629 + (((s0 * 48271 + 39373).fmod 2147483647 * 48271 + 39373).fmod 2147483647 * ((s0 * 48271 + 39373).fmod 2147483647 * 48271 + 39373).fmod 2147483647).fmod 2147483587) m0
      exact hQ _ q1 q2
    · refine ⟨_, rfl, _, rfl, _, m, rfl, rfl, mz, ⟨_, _, rfl, so1⟩, ?_⟩
      obtain ⟨q1, q2⟩ := fmod_in ((((s0 * 48271 + 39373).fmod 2147483647 * (s0 * 48271 + 39373).fmod 2147483647).fmod 2147483629).fdiv 16) m0
      exact hQ _ q1 q2
def RAmount : RC := fun ds Q => ds = [] ∧ ∀ x, AmtOk x → Q (fr x)
theorem sc_law_amount : FnScope ["_law_room_here"] ["_law_room_here"] (defScope (top 72)) := ⟨rfl, rfl, rfl, by decide +kernel, rfl, by decide +kernel, by decide +kernel⟩
theorem ok_law_amount (F : FnT K "_law_amount" (top 72) f fd) (g_law_lowest : Fn P w K mg base "_law_lowest" 1 (spD K RLowest)) (g_law_take : Fn P w K mg base "_law_take" 1 (spR K RTake)) : FnOk P w K mg base CX0 2 f fd ["_law_room_here"] (spR K RAmount) := by
  have nd := sc_law_amount.nd
  refine okR F sc_law_amount (by decide) (fun ds Q h => ?_) (fun cdv A outer s H hr => ?_)
  · obtain ⟨rfl, _⟩ := h
    rfl
  refine ⟨_, _, (sss_cons (ss_if (st_eq (se_callR 0 g_law_take hr (sa_cons se_int sa_nil)) se_int) (sss_one (ss_ret (se_call g_law_lowest hr (sa_cons (se_add se_int (se_callR 0 g_law_take hr (sa_cons (se_pow se_int se_int) sa_nil))) (sa_cons (se_ixL (se_lst (sa_cons se_int (sa_cons se_int (sa_cons se_int (sa_cons (se_pow se_int se_int) sa_nil))))) (se_callR 0 g_law_take hr (sa_cons se_int sa_nil))) sa_nil))))) sss_nil)
      (sss_one (ss_ret (se_call g_law_lowest hr (sa_cons (se_add se_int (se_callR 0 g_law_take hr (sa_cons se_int sa_nil))) (sa_cons (se_ixL (se_lst (sa_cons se_int (sa_cons se_int (sa_cons se_int (sa_cons se_int sa_nil))))) (se_callR 0 g_law_take hr (sa_cons se_int sa_nil))) sa_nil)))))), fun l s0 ds Q so h => ?_⟩
  obtain ⟨rfl, hQ⟩ := h
  refine ⟨⟨_, _, _, rfl⟩, _, _, _, rfl, so, 8, rfl, by decide, by decide, fun r r0 r1 l1 s1 so1 => ?_⟩
  refine ⟨_, rfl, _, rfl, ?_⟩
  refine ite2 (fun _ => ?_) (fun _ => ?_)
  · refine ⟨⟨_, _, _, rfl⟩, 10, 12, rfl, rfl, ⟨by decide, by decide, by decide⟩, _, _, _, rfl, so1, _, rfl, by decide, by decide, fun n n0 n1 l2 s2 so2 => ?_⟩
    refine ⟨1, n, rfl, rfl, ?_⟩
    refine ⟨10, 6, rfl, rfl, ⟨by decide, by decide, by decide⟩, by show (4 : Nat) ≤ 1000; decide, ?_⟩
    refine ⟨⟨_, _, _, rfl⟩, _, _, _, rfl, so2, 4, rfl, by decide, by decide, fun r r0 r1 l3 s3 so3 => ?_⟩
    have n1 : n < 10 ^ 12 := n1
    obtain ⟨e, he, e0, e1, q, hq⟩ := pick4 (a := 7) (b := 11) (c := 1000) (d := 10 ^ (6 : Int).toNat) r0 r1 (Pp := fun e => 0 < e ∧ e < 2 ^ 90 ∧ ∃ q, e * q = 231000000) ⟨by decide, by decide, 33000000, by decide⟩ ⟨by decide, by decide, 21000000, by decide⟩ ⟨by decide, by decide, 231000, by decide⟩ ⟨by decide, by decide, 231, by decide⟩
    exact ⟨_, r, _, rfl, rfl, he, 1 + n, e, rfl, e0, low_cf e0 e1, ⟨_, _, rfl, so3⟩, hQ _ (amt_mk (by omega) (by omega) e0 hq)⟩
  · refine ⟨⟨_, _, _, rfl⟩, _, _, _, rfl, so1, 9, rfl, by decide, by decide, fun n n0 n1 l2 s2 so2 => ?_⟩
    refine ⟨1, n, rfl, rfl, ?_⟩
    refine ⟨by show (4 : Nat) ≤ 1000; decide, ?_⟩
    refine ⟨⟨_, _, _, rfl⟩, _, _, _, rfl, so2, 4, rfl, by decide, by decide, fun r r0 r1 l3 s3 so3 => ?_⟩
    obtain ⟨e, he, e0, e1, q, hq⟩ := pick4 (a := 1) (b := 1) (c := 2) (d := 3) r0 r1 (Pp := fun e => 0 < e ∧ e < 2 ^ 90 ∧ ∃ q, e * q = 231000000) ⟨by decide, by decide, 231000000, by decide⟩ ⟨by decide, by decide, 231000000, by decide⟩ ⟨by decide, by decide, 115500000, by decide⟩ ⟨by decide, by decide, 77000000, by decide⟩
    exact ⟨_, r, _, rfl, rfl, he, 1 + n, e, rfl, e0, low_cf e0 e1, ⟨_, _, rfl, so3⟩, hQ _ (amt_mk (by omega) (by omega) e0 hq)⟩
end
end Tk
end
section
set_option Elab.async false
set_option linter.all false
set_option maxRecDepth 100000
set_option maxHeartbeats 4000000
set_option exponentiation.threshold 10000
namespace Tk
open PySem PySem.Spec PyProof.Rows L2
/-! ### stands that are drawn -/
structure RichOk (x : Rat) : Prop where
  nn : 0 ≤ x
  up : x ≤ 1000000000000000
  dn : Dn DA x
structure PartDr (x : Rat) : Prop where
  nn : 0 ≤ x
  up : x ≤ 6
  dn : Dn 27720 x
theorem e12 : ((10 ^ 12 : Nat) : Rat) = 1000000000000 := rfl
theorem e60 : ((2 ^ 60 : Nat) : Rat) = 1152921504606846976 := rfl
theorem AmtOk.ov {x : Rat} (h : AmtOk x) : Ov DA BA x := by
  have n0 : -((10 ^ 12 : Nat) : Rat) ≤ 0 := by have := natR0 (10 ^ 12); grind
  exact (h.dn.ov (V := 10 ^ 12) (by have := h.pos; grind) h.up).mono (by decide)
theorem AmtOk.sm {x : Rat} (h : AmtOk x) : Sm x := h.ov.smA
theorem divInt_bd {n d : Int} (h0 : 0 ≤ n) (hd : 1 ≤ d) : 0 ≤ Rat.divInt n d ∧ Rat.divInt n d ≤ (n : Rat) := by
  have m := divInt_mul (n := n) (d := d) (by omega)
  have d1 : (1 : Rat) ≤ (d : Rat) := intR (a := 1).mpr hd
  have n0 : (0 : Rat) ≤ (n : Rat) := intR (a := 0).mpr h0
  have p : 0 ≤ Rat.divInt n d := by
    refine Classical.byContradiction fun z => ?_
    have z : Rat.divInt n d < 0 := Rat.not_le.mp z
    have q := Rat.mul_le_mul_of_nonneg_left d1 (show 0 ≤ -Rat.divInt n d by grind)
    rw [Rat.neg_mul, Rat.neg_mul, m] at q
    grind
  have q := Rat.mul_le_mul_of_nonneg_left d1 p
  rw [m] at q
  exact ⟨p, by grind⟩
theorem num_times (x : Rat) (c : Int) : Rat.divInt (x.num * c) (x.den : Int) = x * (c : Rat) := by
  have e : x = Rat.divInt x.num (x.den : Int) := (Rat.num_divInt_den x).symm
  conv => rhs; rw [e]
  rw [Rat.divInt_eq_div, Rat.divInt_eq_div, Rat.intCast_mul, Rat.div_def, Rat.div_def, Rat.mul_assoc, Rat.mul_assoc, Rat.mul_comm (c : Rat)]
theorem rich_mk {x : Rat} {c : Int} (h : AmtOk x) (c0 : 0 ≤ c) (c1 : c ≤ 1000) : RichOk (Rat.divInt (x.num * c) (x.den : Int)) := by
  rw [num_times]
  have g0 : (0 : Rat) ≤ (c : Rat) := intR (a := 0).mpr c0
  have g1 : (c : Rat) ≤ 1000 := intR (b := 1000).mpr c1
  have u := h.up
  rw [e12] at u
  refine ⟨Rat.mul_nonneg (Rat.le_of_lt h.pos) g0, ?_, ?_⟩
  · have q1 := Rat.mul_le_mul_of_nonneg_left g1 (Rat.le_of_lt h.pos)
    grind
  · have q := h.dn.mul (Dn.int c)
    rw [Nat.mul_one] at q
    exact q
theorem RichOk.dn0 {x : Rat} (h : RichOk x) : Dn D0 x := h.dn.up
theorem part_mk {n d : Int} (n0 : 0 ≤ n) (n1 : n ≤ 6) (d0 : 1 ≤ d) (d1 : d ≤ 12) : PartDr (Rat.divInt n d) := by
  obtain ⟨h0, h1⟩ := divInt_bd n0 d0
  have g1 : (n : Rat) ≤ 6 := intR (b := 6).mpr n1
  have ex : ∃ t : Int, d * t = 27720 := by
    rcases (show d = 1 ∨ d = 2 ∨ d = 3 ∨ d = 4 ∨ d = 5 ∨ d = 6 ∨ d = 7 ∨ d = 8 ∨ d = 9 ∨ d = 10 ∨ d = 11 ∨ d = 12 by omega) with h | h | h | h | h | h | h | h | h | h | h | h <;> subst h
    · exact ⟨27720, by decide⟩
    · exact ⟨13860, by decide⟩
    · exact ⟨9240, by decide⟩
    · exact ⟨6930, by decide⟩
    · exact ⟨5544, by decide⟩
    · exact ⟨4620, by decide⟩
    · exact ⟨3960, by decide⟩
    · exact ⟨3465, by decide⟩
    · exact ⟨3080, by decide⟩
    · exact ⟨2772, by decide⟩
    · exact ⟨2520, by decide⟩
    · exact ⟨2310, by decide⟩
  obtain ⟨t, ht⟩ := ex
  refine ⟨h0, by grind, n * t, ?_⟩
  have e : ((27720 : Nat) : Rat) = (d : Rat) * (t : Rat) := by
    rw [← Rat.intCast_mul, ht]
    rfl
  rw [e, ← Rat.mul_assoc, divInt_mul (by omega), Rat.intCast_mul]
theorem PartDr.sm {x : Rat} (h : PartDr x) : Sm x := sm_of_dn (d := 15) (e := 3) (V := 6) (by decide) (by decide) (by decide) h.dn h.nn (show x ≤ ((6 : Nat) : Rat) from h.up) (by decide)
theorem sum_abs {V : Rat} {f : Nat → Rat} : ∀ {n : Nat}, (∀ i, i < n → -V ≤ f i ∧ f i ≤ V) → -((n : Rat) * V) ≤ sumN f n ∧ sumN f n ≤ (n : Rat) * V
  | 0, _ => by
    have e : ((0 : Nat) : Rat) = 0 := rfl
    show -(((0 : Nat) : Rat) * V) ≤ 0 ∧ (0 : Rat) ≤ ((0 : Nat) : Rat) * V
    rw [e, Rat.zero_mul]
    exact ⟨by grind, by grind⟩
  | n + 1, h => by
    obtain ⟨h1, h2⟩ := sum_abs (f := f) (n := n) fun i hi => h i (by omega)
    obtain ⟨h3, h4⟩ := h n (by omega)
    have e : ((n + 1 : Nat) : Rat) * V = (n : Rat) * V + V := by
      rw [Rat.natCast_add, Rat.add_mul]
      show _ + (1 : Rat) * V = _
      rw [Rat.one_mul]
    rw [e]
    show _ ≤ sumN f n + f n ∧ sumN f n + f n ≤ _
    exact ⟨by grind, by grind⟩
theorem ov_small {x : Rat} (h : Ov DA BA x) : -2199023255552 ≤ x ∧ x ≤ 2199023255552 := by
  obtain ⟨k, e, hk⟩ := h
  have eD : ((DA : Nat) : Rat) = 231000000 := rfl
  have hk : k.natAbs ≤ 295147905179352825856 := hk
  rw [eD] at e
  have k1 : (k : Rat) ≤ 295147905179352825856 := intR (b := 295147905179352825856).mpr (by omega)
  have k2 : -295147905179352825856 ≤ (k : Rat) := intR (a := -295147905179352825856).mpr (by omega)
  exact ⟨by grind, by grind⟩
theorem amt_small {n : Nat} {s : Side} (o : OkSide n s) (p : Nat) : 0 ≤ amt s p ∧ amt s p ≤ 2199023255552 := ⟨amt_nn o p, (ov_small (amt_ovA o p)).2⟩
theorem cby_bd {N : Net} {x : Nat → Rat} (o : OkNet N) (hx : ∀ j, j < N.deeds.length → PartDr (x j)) (p : Nat) : Dn D0 (cby N x N.deeds.length p) ∧ -100000000000000 ≤ cby N x N.deeds.length p ∧ cby N x N.deeds.length p ≤ 100000000000000 := by
  have l7 : ((N.deeds.length : Nat) : Rat) ≤ 7 := natR (b := 7).mpr o.2.2.1
  have l0 := natR0 N.deeds.length
  have b1 : ∀ j, j < N.deeds.length → -13194139533312 ≤ x j * chg (deedAt N j) p ∧ x j * chg (deedAt N j) p ≤ 13194139533312 := fun j hj => by
    obtain ⟨a1, a2⟩ := amt_small (o.deed (deedAt_of hj)).1 p
    obtain ⟨a3, a4⟩ := amt_small (o.deed (deedAt_of hj)).2 p
    have c1 : chg (deedAt N j) p ≤ 2199023255552 := by show amt _ p - amt _ p ≤ _; grind
    have c2 : -2199023255552 ≤ chg (deedAt N j) p := by show _ ≤ amt _ p - amt _ p; grind
    have h := hx j hj
    have q1 := Rat.mul_le_mul_of_nonneg_left c1 h.nn
    have q2 := Rat.mul_le_mul_of_nonneg_left c2 h.nn
    have := h.up
    exact ⟨by grind, by grind⟩
  obtain ⟨s1, s2⟩ := sum_abs b1
  refine ⟨sumN_dn fun j hj => ?_, ?_, ?_⟩
  · have q := (hx j hj).dn.mul (chg_ov o hj p).dn
    rw [show 27720 * DA = D0 from by decide +kernel] at q
    exact q
  · have q := Rat.mul_le_mul_of_nonneg_right l7 (show (0 : Rat) ≤ 13194139533312 by decide)
    show _ ≤ sumN _ _
    grind
  · have q := Rat.mul_le_mul_of_nonneg_right l7 (show (0 : Rat) ≤ 13194139533312 by decide)
    show sumN _ _ ≤ _
    grind
theorem end_sz {N : Net} {b x : Nat → Rat} (o : OkNet N) (hb : ∀ p, p < N.many → 0 ≤ b p ∧ b p ≤ 1152921504606846976 ∧ Dn D0 (b p)) (hx : ∀ j, j < N.deeds.length → PartDr (x j)) : ∃ D B C, (∀ p, p < N.many → Ov D B (b p)) ∧ (∀ j, j < N.deeds.length → 0 ≤ x j ∧ Sm (x j) ∧ ∀ t ∈ (deedAt N j).1 ++ (deedAt N j).2, Ov D C (x j * t.2)) ∧ Bd D (B + 80 * C) := by
  refine ⟨D0, D0 * 2 ^ 60, 27720 * 6 * BA, fun p hp => ?_, fun j hj => ⟨(hx j hj).nn, (hx j hj).sm, fun t ht => ?_⟩, by decide +kernel, by decide +kernel, by decide +kernel⟩
  · obtain ⟨b0, b1, b2⟩ := hb p hp
    exact b2.ov (V := 2 ^ 60) (by rw [e60]; grind) (by rw [e60]; exact b1)
  · have oo := o.deed (deedAt_of hj)
    have ot : Ov DA BA t.2 := by
      rcases List.mem_append.mp ht with h | h
      · exact (oo.1.1 t h).2.1
      · exact (oo.2.1 t h).2.1
    have q := ((hx j hj).dn.ov (V := 6) (by have := (hx j hj).nn; have e : ((6 : Nat) : Rat) = 6 := rfl; rw [e]; grind) (show x j ≤ ((6 : Nat) : Rat) from (hx j hj).up)).mul ot
    rw [show 27720 * DA = D0 from by decide +kernel] at q
    exact q
def posp (x : Rat) : Rat := if x < 0 then -x else 0
theorem posp_eq (x : Rat) : Rat.divInt (if 0 - x.num > 0 then 0 - x.num else 0) (x.den : Int) = posp x := by
  unfold posp
  by_cases h : x < 0
  · rw [if_pos h, if_pos (by have := num_neg.mpr h; omega), Int.zero_sub]
    have q : Rat.divInt (-x).num (x.den : Int) = -x := Rat.num_divInt_den (-x)
    rw [Rat.neg_num] at q
    exact q
  · rw [if_neg h, if_neg (by have : ¬ x.num < 0 := fun z => h (num_neg.mp z); omega), Rat.zero_divInt]
/-- the ends that are drawn are fit -/
theorem ends_ok {N : Net} {b x : Nat → Rat} (o : OkNet N) (hb : ∀ p, p < N.many → RichOk (b p)) (hx : ∀ j, j < N.deeds.length → PartDr (x j)) :
    EOk N (fun p => b p + posp (b p + cby N x N.deeds.length p)) ∧ EOk N (fun p => b p + posp (b p + cby N x N.deeds.length p) + cby N x N.deeds.length p) := by
  have h : ∀ p, p < N.many → (0 ≤ b p + posp (b p + cby N x N.deeds.length p) ∧ b p + posp (b p + cby N x N.deeds.length p) ≤ 1100000000000000 ∧ Dn D0 (b p + posp (b p + cby N x N.deeds.length p))) ∧
      0 ≤ b p + posp (b p + cby N x N.deeds.length p) + cby N x N.deeds.length p ∧ b p + posp (b p + cby N x N.deeds.length p) + cby N x N.deeds.length p ≤ 1100000000000000 := fun p hp => by
    have h1 := (hb p hp).nn
    have h2 := (hb p hp).up
    have h3 := (hb p hp).dn0
    obtain ⟨c1, c2, c3⟩ := cby_bd o hx p
    generalize cby N x N.deeds.length p = c at c1 c2 c3 ⊢
    unfold posp
    by_cases z : b p + c < 0
    · rw [if_pos z]
      exact ⟨⟨by grind, by grind, h3.add (h3.add c1).neg⟩, by grind, by grind⟩
    · rw [if_neg z]
      exact ⟨⟨by grind, by grind, by rw [Rat.add_zero]; exact h3⟩, by grind, by grind⟩
  refine ⟨⟨fun p hp => (h p hp).1.1, fun p hp => ?_, fun p hp => (h p hp).1.2.2⟩, fun p hp => (h p hp).2.1, fun p hp => ?_, fun p hp => (h p hp).1.2.2.add (cby_bd o hx p).1⟩
  · have := (h p hp).1.2.1
    rw [e60]
    grind
  · have := (h p hp).2.2
    rw [e60]
    grind
theorem rich_eok {N : Net} {b : Nat → Rat} (hb : ∀ p, p < N.many → RichOk (b p)) : EOk N b := ⟨fun p hp => (hb p hp).nn, fun p hp => by
  have := (hb p hp).up
  rw [e60]
  grind, fun p hp => (hb p hp).dn0⟩
theorem vL_snoc (n : Nat) (x : Nat → Rat) (a : Rat) : vL (n + 1) (updN x n a) = vL n x ++ [fr a] := by
  unfold vL
  rw [mapD_snoc, updN_same]
  congr 1
  exact mapD_congr fun i hi => by rw [updN_ne (show i ≠ n by omega)]
section
variable {P : Program} {w : World} {K : PySem.W.Frag} {mg : Str → Option Value} {base : Heap} {f : Addr} {fd : FuncData} {aN aO aT aH : Addr}
def RRich : RC := fun ds Q => ∃ n : Nat, ds = [.int (n : Int)] ∧ n ≤ 5 ∧ ∀ v : Nat → Rat, (∀ p, p < n → RichOk (v p)) → Q (vD n v)
theorem sc_law_rich : FnScope ["_law_room_here", "_law_many", "_law_found", "_law_place", "_law_much", "_law_one"] ["_law_room_here", "_law_many"] (defScope (top 77)) := ⟨rfl, rfl, rfl, by decide +kernel, rfl, by decide +kernel, by decide +kernel⟩
theorem ok_law_rich (F : FnT K "_law_rich" (top 77) f fd) (B : Bt mg) (g_law_amount : Fn P w K mg base "_law_amount" 2 (spR K RAmount)) (g_law_lowest : Fn P w K mg base "_law_lowest" 1 (spD K RLowest)) (g_law_take : Fn P w K mg base "_law_take" 1 (spR K RTake)) : FnOk P w K mg base CX0 3 f fd ["_law_room_here", "_law_many"] (spR K RRich) := by
  have nd := sc_law_rich.nd
  refine okR F sc_law_rich (by decide) (fun ds Q h => ?_) (fun cdv A outer s H hr => ?_)
  · obtain ⟨n, rfl, _⟩ := h
    rfl
  refine ⟨_, _, (sss_cons (ss_setN 2 nd (sn_lst sa_nil))
      (sss_cons (ss_for rfl PassesOwn.never (si_range B.range (sa_cons (sv 1) sa_nil)) (sg_name 3 nd)
      (sss_cons (ss_set 4 nd (se_callR 0 g_law_amount hr sa_nil))
      (sss_one (ss_appd 2 (se_tup (sa_cons (se_mul (se_ixT (sv 4) se_int) (se_ixL (se_lst (sa_cons se_int (sa_cons se_int (sa_cons se_int (sa_cons se_int sa_nil))))) (se_callR 0 g_law_take hr (sa_cons se_int sa_nil)))) (sa_cons (se_ixT (sv 4) se_int) sa_nil)))))))
      (sss_one (ss_ret (se_ofN (sn_lc [("_law_one", 5)] rfl nd (si_list (svf 2)) (by kernel_rfl) (fun _ _ _ _ _ => by exact (sg_name 5 nd)) (fun _ _ _ _ _ => by exact sts_nil) (fun _ _ _ _ _ => by exact (se_call g_law_lowest hr (sa_cons (se_ixT (sv 5) se_int) (sa_cons (se_ixT (sv 5) se_int) sa_nil)))))))))), fun l s0 ds Q so h => ?_⟩
  obtain ⟨n, rfl, n5, hQ⟩ := h
  refine ⟨by show (0 : Nat) ≤ 1000; decide, ?_⟩
  refine ⟨_, rfl, n, rfl, by omega, ?_⟩
  refine ⟨fun i A => ∃ l s x c a b, A = [.mu false (roomL l s), .fz (.int (n : Int)), .mu true (mapD i fun p => PyData.tuple [.int ((x p).num * c p), .int ((x p).den : Int)]), a, b, .no] ∧ SeedOk s ∧ ∀ p, p < i → AmtOk (x p) ∧ 0 ≤ c p ∧ c p ≤ 1000,
    ⟨l, s0, fun _ => 0, fun _ => 0, _, _, rfl, so, fun p hp => by omega⟩, ?_, ?_⟩
  · rintro i d A hd ⟨l, s, x, c, a, b, rfl, so, hx⟩
    rw [rgD_map] at hd
    obtain ⟨hi, rfl⟩ := mapD_get hd
    refine ⟨⟨_, _, _, rfl⟩, _, _, _, rfl, so, rfl, fun y hy l1 s1 so1 => ?_⟩
    refine ⟨⟨_, _, rfl⟩, _, rfl, _, 0, _, rfl, rfl, rfl, by show (4 : Nat) ≤ 1000; decide, ⟨_, _, _, rfl⟩, _, _, _, rfl, so1, 4, rfl, by decide, by decide, fun r r0 r1 l2 s2 so2 => ?_⟩
    obtain ⟨e, he, e0, e1⟩ := pick4 (a := 0) (b := 1) (c := 12) (d := 1000) r0 r1 (Pp := fun e => 0 ≤ e ∧ e ≤ 1000) ⟨by decide, by decide⟩ ⟨by decide, by decide⟩ ⟨by decide, by decide⟩ ⟨by decide, by decide⟩
    refine ⟨_, r, _, rfl, rfl, he, _, e, rfl, rfl, hy.sm.1.mul (Sz.of (by omega) (by omega)), _, rfl, _, 1, _, rfl, rfl, rfl, by show (2 : Nat) ≤ 1000; decide, ?_⟩
    refine ⟨_, _, rfl, by rw [mapD_len]; omega, ?_⟩
    refine ⟨l2, s2, updN x i y, fun p => if p = i then e else c p, .fz (.int (i : Int)), .fz (fr y), ?_, so2, fun p hp => ?_⟩
    · rw [mapD_snoc]
      have e1 : mapD i (fun p => PyData.tuple [.int ((updN x i y p).num * if p = i then e else c p), .int ((updN x i y p).den : Int)]) = mapD i fun p => PyData.tuple [.int ((x p).num * c p), .int ((x p).den : Int)] := mapD_congr fun p hp => by
        rw [updN_ne (show p ≠ i by omega), if_neg (show p ≠ i by omega)]
      dsimp only
      rw [e1, updN_same, if_pos rfl]
      rfl
    · by_cases z : p = i
      · subst z
        rw [updN_same]
        dsimp only
        rw [if_pos rfl]
        exact ⟨hy, e0, e1⟩
      · rw [updN_ne z]
        dsimp only
        rw [if_neg z]
        exact hx p (by omega)
  · rintro A ⟨l, s, x, c, a, b, rfl, so, hx⟩
    rw [rgD_len] at hx ⊢
    refine ⟨_, rfl, _, rfl, rfl, by rw [mapD_len]; omega, fun i => some (fr (Rat.divInt ((x i).num * c i) ((x i).den : Int))), fun i d hd => ?_, ?_⟩
    · obtain ⟨hi, rfl⟩ := mapD_get hd
      exact ⟨rfl, _, rfl, _, 0, _, rfl, rfl, rfl, _, rfl, _, 1, _, rfl, rfl, rfl, _, _, rfl, den_pos _, low_cf (den_pos _) (by
        have h := (hx i hi).1
        have q := (h.ov.den (by decide)).1
        have : (x i).den ≤ 231000000 := Nat.le_of_dvd (by decide) q
        omega), rfl, rfl⟩
    · rw [mapD_len, outs_map fun i _ => rfl]
      exact ⟨⟨_, _, rfl, so⟩, hQ _ fun p hp => rich_mk (hx p hp).1 (hx p hp).2.1 (hx p hp).2.2⟩
def RSumP : RC := fun ds Q => ∃ a b c d : Int, ds = [.tuple [.int a, .int b], .tuple [.int c, .int d]] ∧ 0 < b ∧ 0 < d ∧ Sz a ∧ Sz b ∧ Sz c ∧ Sz d ∧ Q (fr (Rat.divInt a b + Rat.divInt c d))
theorem ok_law_sumP (F : FnT K "_law_sum" (top 66) f fd) (g_law_lowest : Fn P w K mg base "_law_lowest" 1 (spD K RLowest)) : FnOk P w K mg base CX0 2 f fd ["_law_one", "_law_other"] (spD K RSumP) := by
  have nd := sc_law_sum.nd
  refine okD F sc_law_sum (by decide) (fun ds Q h => ?_) (fun cdv A outer s H hr => ?_)
  · obtain ⟨a, b, c, d, rfl, _⟩ := h
    rfl
  refine ⟨_, _, (sss_one (ss_ret (se_call g_law_lowest hr (sa_cons (se_add (se_mul (se_ixT (sv 0) se_int) (se_ixT (sv 1) se_int)) (se_mul (se_ixT (sv 1) se_int) (se_ixT (sv 0) se_int))) (sa_cons (se_mul (se_ixT (sv 0) se_int) (se_ixT (sv 1) se_int)) sa_nil))))), fun ds Q h => ?_⟩
  obtain ⟨a, b, c, d, rfl, b0, d0, za, zb, zc, zd, hQ⟩ := h
  obtain ⟨h0, hc⟩ := cf_of (a := a * d + c * b) zb zd (by omega) (by omega)
  refine ⟨_, rfl, _, 0, _, rfl, rfl, rfl, _, rfl, _, 1, _, rfl, rfl, rfl, _, _, rfl, rfl, za.mul zd, ?_⟩
  refine ⟨_, rfl, _, 0, _, rfl, rfl, rfl, _, rfl, _, 1, _, rfl, rfl, rfl, _, _, rfl, rfl, zc.mul zb, _, _, rfl, rfl, ?_⟩
  refine ⟨_, rfl, _, 1, _, rfl, rfl, rfl, _, rfl, _, 1, _, rfl, rfl, rfl, _, _, rfl, rfl, zb.mul zd, ?_⟩
  refine ⟨_, _, rfl, Int.mul_pos b0 d0, hc, ?_⟩
  rw [← Rat.divInt_add_divInt a c (show b ≠ 0 by omega) (show d ≠ 0 by omega)]
  exact hQ
end
end Tk
end
section
set_option Elab.async false
set_option linter.all false
set_option maxRecDepth 100000
set_option maxHeartbeats 4000000
set_option exponentiation.threshold 10000
namespace Tk
open PySem PySem.Spec PyProof.Rows L2
section
variable {P : Program} {w : World} {K : PySem.W.Frag} {mg : Str → Option Value} {base : Heap} {f : Addr} {fd : FuncData} {aN aO aT aH : Addr}
def REnds : RC := fun ds Q => ∃ N, ds = [netD N] ∧ OkNet N ∧ ∀ b e, EOk N b → EOk N e → Q (pr (vD N.many b) (vD N.many e))
theorem sc_law_ends : FnScope ["_law_room_here", "_law_net_here", "_law_begin", "_law_end", "_law_parts", "_law_deed_here", "_law_behind_here", "_law_here", "_law_there"] ["_law_room_here", "_law_net_here"] (defScope (top 94)) := ⟨rfl, rfl, rfl, by decide +kernel, rfl, by decide +kernel, by decide +kernel⟩
theorem ok_law_ends (F : FnT K "_law_ends" (top 94) f fd) (B : Bt mg) (g_law_end_by : Fn P w K mg base "_law_end_by" 4 (spD K REndBy)) (g_law_lowest : Fn P w K mg base "_law_lowest" 1 (spD K RLowest)) (g_law_rich : Fn P w K mg base "_law_rich" 3 (spR K RRich)) (g_law_sum : Fn P w K mg base "_law_sum" 2 (spD K RSumP)) (g_law_take : Fn P w K mg base "_law_take" 1 (spR K RTake)) : FnOk P w K mg base CX0 5 f fd ["_law_room_here", "_law_net_here"] (spR K REnds) := by
  have nd := sc_law_ends.nd
  refine okR F sc_law_ends (by decide) (fun ds Q h => ?_) (fun cdv A outer s H hr => ?_)
  · obtain ⟨N, rfl, _⟩ := h
    rfl
  refine ⟨_, _, (sss_cons (ss_set 2 nd (se_callR 0 g_law_rich hr (sa_cons (se_ixT (sv 1) se_int) sa_nil)))
      (sss_cons (ss_set 3 nd (se_callR 0 g_law_rich hr (sa_cons (se_ixT (sv 1) se_int) sa_nil)))
      (sss_cons (ss_if (st_gt (se_callR 0 g_law_take hr (sa_cons se_int sa_nil)) se_int) (sss_cons (ss_setN 4 nd (sn_lst sa_nil))
      (sss_cons (ss_for rfl PassesOwn.never (si_list (se_ixT (sv 1) se_int)) (sg_name 5 nd)
      (sss_one (ss_appd 4 (se_call g_law_lowest hr (sa_cons (se_mul (se_callR 0 g_law_take hr (sa_cons se_int sa_nil)) (se_add se_int (se_callR 0 g_law_take hr (sa_cons se_int sa_nil)))) (sa_cons (se_add se_int (se_callR 0 g_law_take hr (sa_cons se_int sa_nil))) sa_nil))))))
      (sss_cons (ss_set 6 nd (se_call g_law_end_by hr (sa_cons (sv 1) (sa_cons (sv 2) (sa_cons (svf 4) sa_nil)))))
      (sss_cons (ss_setLcF 2 [("_law_here", 7), ("_law_there", 8)] rfl nd (si_zip B.zip (sa_cons (sv 2) (sa_cons (sv 6) sa_nil))) (by kernel_rfl) (fun _ _ _ _ _ => by exact (sg_two 7 8 rfl nd (sg_name 7 nd) (sg_name 8 nd))) (fun _ _ _ _ _ => by exact sts_nil) (fun _ _ _ _ _ => by exact (se_call g_law_sum hr (sa_cons (sv 7) (sa_cons (se_tup (sa_cons (se_callB (call_max2 rfl) soc_I2 B.max (sa_cons se_int (sa_cons (se_sub se_int (se_ixT (sv 8) se_int)) sa_nil))) (sa_cons (se_ixT (sv 8) se_int) sa_nil))) sa_nil)))) (sw_true rfl rfl rfl (by decide +kernel)))
      (sss_one (ss_set 3 nd (se_call g_law_end_by hr (sa_cons (sv 1) (sa_cons (sv 2) (sa_cons (sv 4) sa_nil)))))))))) sss_nil)
      (sss_one (ss_ret (se_tup (sa_cons (sv 2) (sa_cons (sv 3) sa_nil)))))))), fun l s0 ds Q so h => ?_⟩
  obtain ⟨N, rfl, o, hQ⟩ := h
  have m5 := o.2.1
  have l7 := o.2.2.1
  refine ⟨⟨_, _, _, rfl⟩, _, rfl, _, 0, _, rfl, rfl, rfl, _, _, _, rfl, so, N.many, rfl, m5, fun b hb l1 s1 so1 => ?_⟩
  refine ⟨⟨_, _, _, rfl⟩, _, rfl, _, 0, _, rfl, rfl, rfl, _, _, _, rfl, so1, N.many, rfl, m5, fun e he l2 s2 so2 => ?_⟩
  refine ⟨⟨_, _, _, rfl⟩, _, _, _, rfl, so2, 4, rfl, by decide, by decide, fun r r0 r1 l3 s3 so3 => ?_⟩
  refine ⟨_, _, rfl, rfl, _, rfl, ?_⟩
  refine ite2 (fun _ => ?_) (fun _ => ?_)
  · refine ⟨by show (0 : Nat) ≤ 1000; decide, ?_⟩
    refine ⟨_, rfl, _, 1, _, rfl, rfl, rfl, _, rfl, ?_⟩
    refine ⟨fun i A => ∃ l s x a, A = [.mu false (roomL l s), .fz (netD N), .fz (vD N.many b), .fz (vD N.many e), .mu true (vL i x), a, .no, .no, .no] ∧ SeedOk s ∧ ∀ j, j < i → PartDr (x j),
      ⟨l3, s3, fun _ => 0, _, rfl, so3, fun p hp => by omega⟩, ?_, ?_⟩
    · rintro i d A hd ⟨l, s, x, a, rfl, so, hx⟩
      have hi := lt_of_get hd
      rw [List.length_map] at hi
      refine ⟨⟨_, _, rfl⟩, ⟨_, _, _, rfl⟩, _, _, _, rfl, so, 2, rfl, by decide, by decide, fun t t0 t1 l4 s4 so4 => ?_⟩
      refine ⟨⟨_, _, _, rfl⟩, _, _, _, rfl, so4, 6, rfl, by decide, by decide, fun u u0 u1 l5 s5 so5 => ?_⟩
      refine ⟨1, u, rfl, rfl, t, 1 + u, rfl, rfl, (Sz.of (by omega) (by omega)).mul (Sz.of (by omega) (by omega)), ?_⟩
      refine ⟨⟨_, _, _, rfl⟩, _, _, _, rfl, so5, 12, rfl, by decide, by decide, fun v v0 v1 l6 s6 so6 => ?_⟩
      have n0 : 0 ≤ t * (1 + u) := Int.mul_nonneg t0 (by omega)
      have n1 : t * (1 + u) ≤ 6 := by
        have : t * (1 + u) ≤ 1 * 6 := Int.mul_le_mul (by omega) (by omega) (by omega) (by decide)
        omega
      refine ⟨1, v, rfl, rfl, _, _, rfl, (by show 0 < 1 + v; omega), low_cf (by show 0 < 1 + v; omega) (by show 1 + v < 2 ^ 90; omega), ?_⟩
      refine ⟨_, _, rfl, by rw [vL_len]; omega, ?_⟩
      refine ⟨l6, s6, updN x i (Rat.divInt (t * (1 + u)) (1 + v)), .fz d, ?_, so6, fun j hj => ?_⟩
      · rw [vL_snoc]
        rfl
      · by_cases z : j = i
        · subst z
          rw [updN_same]
          exact part_mk n0 n1 (by omega) (by omega)
        · rw [updN_ne z]
          exact hx j (by omega)
    · rintro A ⟨l, s, x, a, rfl, so, hx⟩
      rw [List.length_map] at hx ⊢
      obtain ⟨h1, h2⟩ := ends_ok o hb hx
      obtain ⟨D, B', C', z1, z2, z3⟩ := end_sz (b := b) o (fun p hp => ⟨(hb p hp).nn, by have := (hb p hp).up; grind, (hb p hp).dn0⟩) hx
      obtain ⟨D2, B2, C2, y1, y2, y3⟩ := end_sz (b := fun p => b p + posp (b p + cby N x N.deeds.length p)) o (fun p hp => ⟨h1.nn p hp, by have := h1.up p hp; rw [e60] at this; exact this, h1.dn p hp⟩) hx
      refine ⟨_, rfl, _, rfl, _, rfl, N, b, x, D, B', C', rfl, o, z1, z2, z3, ?_⟩
      refine ⟨_, rfl, _, rfl, _, _, rfl, ?_⟩
      rw [vL_zip]
      refine ⟨rfl, by rw [mapD_len]; omega, fun p => some (fr (b p + posp (b p + cby N x N.deeds.length p))), fun p d hd => ?_, ?_⟩
      · obtain ⟨hp, rfl⟩ := mapD_get hd
        have sb : Sm (b p) := (hb p hp).dn0.sm (V := 2 ^ 60) (by decide +kernel) (by have := (hb p hp).nn; rw [e60]; grind) (by have := (hb p hp).up; rw [e60]; grind) (by decide +kernel) (by decide +kernel)
        obtain ⟨c1, c2, c3⟩ := cby_bd o hx p
        have sc : Sm (b p + cby N x N.deeds.length p) := ((hb p hp).dn0.add c1).sm (V := 2 ^ 60) (by decide +kernel) (by have := (hb p hp).nn; rw [e60]; grind) (by have := (hb p hp).up; rw [e60]; grind) (by decide +kernel) (by decide +kernel)
        refine ⟨_, rfl, _, _, rfl, _, _, rfl, rfl, rfl, _, rfl, _, rfl, _, 0, _, rfl, rfl, rfl, 0, _, rfl, rfl, _, _, rfl, _, rfl, _, 1, _, rfl, rfl, rfl, by show (2 : Nat) ≤ 1000; decide, ?_⟩
        refine ⟨_, _, _, _, rfl, den_pos _, den_pos _, sb.1, sb.2, ?_, sc.2, rfl, ?_⟩
        · show Sz (if 0 - (b p + cby N x N.deeds.length p).num > 0 then 0 - (b p + cby N x N.deeds.length p).num else 0)
          split
          · rw [Int.zero_sub]
            exact sc.1.neg
          · exact Sz.of (by decide) (by decide)
        · show some (fr (b p + posp (b p + cby N x N.deeds.length p))) = some (fr (Rat.divInt (b p).num ((b p).den : Int) + Rat.divInt (if 0 - (b p + cby N x N.deeds.length p).num > 0 then 0 - (b p + cby N x N.deeds.length p).num else 0) ((b p + cby N x N.deeds.length p).den : Int)))
          rw [posp_eq, fr_self]
      · rw [mapD_len, outs_map fun i _ => rfl]
        refine ⟨_, rfl, _, rfl, _, rfl, N, _, x, D2, B2, C2, rfl, o, y1, y2, y3, ?_⟩
        exact ⟨_, rfl, _, rfl, by show (2 : Nat) ≤ 1000; decide, ⟨_, _, rfl, so⟩, hQ _ _ h1 h2⟩
  · exact ⟨_, rfl, _, rfl, by show (2 : Nat) ≤ 1000; decide, ⟨_, _, rfl, so3⟩, hQ _ _ (rich_eok hb) (rich_eok he)⟩
end
end Tk
end
section
set_option Elab.async false
set_option linter.all false
set_option maxRecDepth 100000
set_option maxHeartbeats 4000000
set_option exponentiation.threshold 10000
namespace Tk
open PySem PySem.Spec PyProof.Rows L2
/-! ### the layer, used inside a walk, where a room stands in slot 0 -/
section
variable {K : PySem.W.Frag} {F H F' H' : Hp} {B : Sto} {σ : L2.St} {r : Addr} {l s l' s' : Int}
theorem room_at {A : Sto} (rp : Rp K (fun q => q = r) F H A σ F H) (e : A[0]? = some (.mu false (roomL l s))) : σ[0]? = some (some (.ref r)) ∧ H r = some (roomO l s) ∧ F r = none := by
  obtain ⟨p, vs, e1, h1, f1, m1, d1⟩ := rp.mu_at e
  rw [if_neg Bool.false_ne_true] at m1
  have m1 : p = r := m1
  subst m1
  have ew : vs = [V.int l, .int s] := DDs.int_of (ns := [l, s]) d1
  subst ew
  exact ⟨e1, h1, f1⟩
theorem rp_re {M : Addr → Prop} {F0 H0 F1 H1 : Hp} (rp : Rp K M F0 H0 (.mu false (roomL l s) :: B) σ F1 H1) (pl : plainA B) (e0 : σ[0]? = some (some (.ref r))) (t : Same F1 F') (u : Same F' H') (hr : H' r = some (roomO l' s')) (fr : F' r = none) : Rp K (fun q => q = r) F' H' (.mu false (roomL l' s') :: B) σ F' H' := by
  refine ⟨fun _ _ h _ => h, fun _ h => h, Same.refl F', u, fun _ h _ => h, rp.len, fun i sl e => ?_, fun i j p o u ds es e1 e2 e3 e4 => ?_⟩
  · cases i with
    | zero =>
      have z : Slot.mu false (roomL l' s') = sl := Option.some.inj e
      subst z
      exact ⟨r, _, e0, hr, fr, rfl, DDs.ints [l', s']⟩
    | succ i =>
      have q := rp.slot (i + 1) sl e
      have p := pl i sl e
      cases sl with
      | no => trivial
      | fz d =>
        obtain ⟨v, h1, h2⟩ := q
        exact ⟨v, h1, h2.mono t⟩
      | rw v => exact q
      | sc xs => exact (nomatch p)
      | ex C => exact (nomatch p)
      | mu o ds => exact (nomatch p)
      | ob C fs => exact (nomatch p)
  · cases i with
    | zero =>
      cases j with
      | zero => rfl
      | succ j =>
        have := pl j _ e2
        cases this
    | succ i =>
      have := pl i _ e1
      cases this
theorem mut_room (rp : Rp K (fun q => q = r) F H (.mu false (roomL l s) :: B) σ F H) (pl : plainA B) (a : Addr) (h : MutA (.mu false (roomL l s) :: B) σ a) : a = r := by
  obtain ⟨i, o, ds, e, g⟩ := h
  cases i with
  | zero => exact ref_inj g (room_at rp rfl).1
  | succ i =>
    have := pl i _ e
    cases this
theorem after_room {A' : Sto} (rp : Rp K (fun q => q = r) F H (.mu false (roomL l s) :: B) σ F H) (pl : plainA B) (eA : A' = .mu false (roomL l' s') :: B) (ev : Ev K (fun q => q = r) F H σ (.mu false (roomL l s) :: B) F H A' F' H') :
    Gr F (upd H r (roomO l' s')) F' H' ∧ Rp K (fun q => q = r) F' H' (.mu false (roomL l' s') :: B) σ F' H' := by
  subst eA
  obtain ⟨e0, h0, f0⟩ := room_at rp rfl
  obtain ⟨p, vs, e1, h1, f1, m1, d1⟩ := ev.rp.mu_at (i := 0) (o := false) (ds := roomL l' s') rfl
  rw [if_neg Bool.false_ne_true] at m1
  have m1 : p = r := m1
  subst m1
  have ew : vs = [V.int l', .int s'] := DDs.int_of (ns := [l', s']) d1
  subst ew
  refine ⟨⟨fun a o z => ?_, ev.ff, ev.rp.sub, fun a z n => ?_⟩, rp_re ev.rp pl e0 (Same.refl F') ev.rp.sub h1 f1⟩
  · by_cases ha : a = p
    · subst ha
      rw [upd_same] at z
      cases z
      exact h1
    · rw [upd_ne ha] at z
      exact ev.kp a o z fun m => ha (mut_room rp pl a m)
  · by_cases ha : a = p
    · rw [ha]
      exact f1
    · rw [upd_ne ha] at n
      exact ev.nw a z n fun m => ha (mut_room rp pl a m)
theorem seR_now {t : TE} {a : AE} (h : SoE K t a) (rp : Rp K (fun q => q = r) F H (.mu false (roomL l s) :: B) σ F H) (pl : plainA B) {Qd : PyData → Prop} {Q : VK} (hr : a (.mu false (roomL l s) :: B) fun d A' => Qd d ∧ ∃ l' s', SeedOk s' ∧ A' = .mu false (roomL l' s') :: B)
    (k : ∀ d v F' H' l' s', Qd d → SeedOk s' → Gr F (upd H r (roomO l' s')) F' H' → DD K F' v d → Rp K (fun q => q = r) F' H' (.mu false (roomL l' s') :: B) σ F' H' → Q v H') : t σ H Q :=
  h _ F H _ σ F H _ Q rp hr fun d v A1 F1 H1 q ev dd => by
    obtain ⟨qd, l', s', so, eA⟩ := q
    obtain ⟨g, r'⟩ := after_room rp pl eA ev
    exact k d v F1 H1 l' s' qd so g dd r'
theorem saR_now {t : TA} {a : AL} (h : SoA K t a) (rp : Rp K (fun q => q = r) F H (.mu false (roomL l s) :: B) σ F H) (pl : plainA B) {Qd : List PyData → Prop} {Q : List V → Hp → Prop} (hr : a (.mu false (roomL l s) :: B) fun d A' => Qd d ∧ ∃ l' s', SeedOk s' ∧ A' = .mu false (roomL l' s') :: B)
    (k : ∀ ds vs F' H' l' s', Qd ds → SeedOk s' → Gr F (upd H r (roomO l' s')) F' H' → DDs K F' vs ds → Rp K (fun q => q = r) F' H' (.mu false (roomL l' s') :: B) σ F' H' → Q vs H') : t σ H Q :=
  h _ F H _ σ F H _ Q rp hr fun d v A1 F1 H1 q ev dd => by
    obtain ⟨qd, l', s', so, eA⟩ := q
    obtain ⟨g, r'⟩ := after_room rp pl eA ev
    exact k d v F1 H1 l' s' qd so g dd r'
end
/-! ### what the dict holds -/
def KOk (K : PySem.W.Frag) (F : Hp) (n : Nat) (kvs : List (Key × V)) (i : Nat) : Prop := (∀ kv ∈ kvs, ∃ (p : Nat) (x : Rat), p < n ∧ kv.1 = .inl (p : Int) ∧ AmtOk x ∧ DD K F kv.2 (fr x)) ∧ (kvs.map (·.1)).Nodup ∧ kvs.length ≤ i
theorem KOk.mono {K : PySem.W.Frag} {F F' : Hp} {n i : Nat} {kvs : List (Key × V)} (h : KOk K F n kvs i) (s : Same F F') : KOk K F' n kvs i := ⟨fun kv hk => let ⟨p, x, a, b, c, d⟩ := h.1 kv hk; ⟨p, x, a, b, c, d.mono s⟩, h.2⟩
theorem put_len (c : List (Key × V)) (k : Key) (x : V) : (putK c k x).length ≤ c.length + 1 := by
  unfold putK
  by_cases e : (c.any fun kv => decide (kv.1 = k)) = true
  · rw [if_pos e, List.length_map]
    omega
  · rw [if_neg e, List.length_append]
    simp
theorem KOk.put {K : PySem.W.Frag} {F : Hp} {n i p : Nat} {x : Rat} {v : V} {kvs : List (Key × V)} (h : KOk K F n kvs i) (hp : p < n) (hx : AmtOk x) (hv : DD K F v (fr x)) : KOk K F n (putK kvs (.inl (p : Int)) v) (i + 1) := by
  refine ⟨fun kv hk => ?_, ?_, Nat.le_trans (put_len _ _ _) (Nat.succ_le_succ h.2.2)⟩
  · unfold putK at hk
    by_cases e : (kvs.any fun kv => decide (kv.1 = (.inl (p : Int) : Key))) = true
    · rw [if_pos e] at hk
      obtain ⟨kw, hw, rfl⟩ := List.mem_map.mp hk
      by_cases q : kw.1 = .inl (p : Int)
      · rw [if_pos q]
        exact ⟨p, x, hp, q, hx, hv⟩
      · rw [if_neg q]
        exact h.1 kw hw
    · rw [if_neg e] at hk
      rcases List.mem_append.mp hk with q | q
      · exact h.1 kv q
      · have : kv = (.inl (p : Int), v) := by simpa using q
        subst this
        exact ⟨p, x, hp, rfl, hx, hv⟩
  · by_cases e : (kvs.any fun kv => decide (kv.1 = (.inl (p : Int) : Key))) = true
    · unfold putK
      rw [if_pos e, List.map_map]
      have e2 : ((fun x : Key × V => x.1) ∘ fun kv : Key × V => if kv.1 = .inl (p : Int) then (kv.1, v) else kv) = fun x => x.1 := by
        funext kv
        show (if kv.1 = .inl (p : Int) then (kv.1, v) else kv).1 = kv.1
        split <;> rfl
      rw [e2]
      exact h.2.1
    · refine nd_putK v h.2.1 ?_
      have q := valV_any (Sum.inl (p : Int) : Key) kvs
      cases z : valV kvs (Sum.inl (p : Int) : Key) with
      | none => rfl
      | some y =>
        rw [z] at q
        exact absurd q e
def keyN : Key → Nat
  | .inl i => i.toNat
  | _ => 0
theorem KOk.keys {K : PySem.W.Frag} {F : Hp} {n i : Nat} {kvs : List (Key × V)} (h : KOk K F n kvs i) : (kvs.map fun kv => kV kv.1) = ((kvs.map fun kv => keyN kv.1).map fun p : Nat => (p : Int)).map V.int := by
  rw [List.map_map, List.map_map]
  refine List.map_congr_left fun kv hk => ?_
  obtain ⟨p, x, _, e, _⟩ := h.1 kv hk
  show kV kv.1 = V.int ((keyN kv.1 : Nat) : Int)
  rw [e]
  rfl
theorem KOk.nd {K : PySem.W.Frag} {F : Hp} {n i : Nat} {kvs : List (Key × V)} (h : KOk K F n kvs i) : (kvs.map fun kv => keyN kv.1).Nodup := by
  have e : (kvs.map (·.1)) = (kvs.map fun kv => keyN kv.1).map fun p : Nat => (Sum.inl (p : Int) : Key) := by
    rw [List.map_map]
    refine List.map_congr_left fun kv hk => ?_
    obtain ⟨p, x, _, e, _⟩ := h.1 kv hk
    show kv.1 = Sum.inl ((keyN kv.1 : Nat) : Int)
    rw [e]
    rfl
  have q := h.2.1
  rw [e] at q
  exact List.Pairwise.of_map _ (fun a b h z => h (by rw [z])) q
theorem KOk.get {K : PySem.W.Frag} {F : Hp} {n i p : Nat} {kvs : List (Key × V)} (h : KOk K F n kvs i) (hp : p ∈ kvs.map fun kv => keyN kv.1) : p < n ∧ ∃ x v, AmtOk x ∧ valV kvs (.inl (p : Int)) = some v ∧ DD K F v (fr x) := by
  obtain ⟨kv, hk, rfl⟩ := List.mem_map.mp hp
  obtain ⟨p, x, hp, e, hx, hv⟩ := h.1 kv hk
  have ek : keyN kv.1 = p := by rw [e]; rfl
  rw [ek]
  refine ⟨hp, ?_⟩
  have an : (kvs.any fun kv => decide (kv.1 = (.inl (p : Int) : Key))) = true := List.any_eq_true.mpr ⟨kv, hk, decide_eq_true e⟩
  rw [valV_any] at an
  cases z : valV kvs (Sum.inl (p : Int) : Key) with
  | none => rw [z] at an; cases an
  | some v =>
    unfold valV at z
    cases z2 : kvs.find? fun kv => decide (kv.1 = (.inl (p : Int) : Key)) with
    | none => rw [z2] at z; cases z
    | some kw =>
      rw [z2] at z
      have z : kw.2 = v := Option.some.inj z
      have hw := List.mem_of_find?_eq_some z2
      obtain ⟨p2, x2, _, e2, hx2, hv2⟩ := h.1 kw hw
      subst z
      exact ⟨x2, _, hx2, rfl, hv2⟩
theorem KOk.side {K : PySem.W.Frag} {F : Hp} {n i : Nat} {kvs : List (Key × V)} {ms : List Int} (h : KOk K F n kvs i) (hp : ms.Perm ((kvs.map fun kv => keyN kv.1).map fun p : Nat => (p : Int))) (hs : ms.Pairwise (· ≤ ·)) :
    ∃ es : Side, ms = es.map (fun e => (e.1 : Int)) ∧ OkSide n es ∧ es.length ≤ i ∧ ∀ e ∈ es, ∃ v, valV kvs (.inl (e.1 : Int)) = some v ∧ DD K F v (fr e.2) := by
  obtain ⟨l, rfl, pl, sl⟩ := sorted_nat hp hs h.nd
  have ex : ∀ p, ∃ x : Rat, p ∈ l → p < n ∧ AmtOk x ∧ ∃ v, valV kvs (.inl (p : Int)) = some v ∧ DD K F v (fr x) := fun p => by
    by_cases hm : p ∈ l
    · obtain ⟨h1, x, v, h2, h3, h4⟩ := h.get (pl.mem_iff.mp hm)
      exact ⟨x, fun _ => ⟨h1, h2, v, h3, h4⟩⟩
    · exact ⟨0, fun z => absurd z hm⟩
  refine ⟨l.map fun p => (p, Classical.choose (ex p)), ?_, ⟨fun e he => ?_, ?_⟩, ?_, fun e he => ?_⟩
  · rw [List.map_map]
    rfl
  · obtain ⟨p, hp, rfl⟩ := List.mem_map.mp he
    obtain ⟨h1, h2, _⟩ := Classical.choose_spec (ex p) hp
    exact ⟨h1, h2.ov, h2.pos⟩
  · rw [List.map_map]
    have e : ((fun x : Nat × Rat => x.1) ∘ fun p => (p, Classical.choose (ex p))) = id := rfl
    rw [e, List.map_id]
    exact sl
  · rw [List.length_map, pl.length_eq, List.length_map]
    exact h.2.2
  · obtain ⟨p, hp, rfl⟩ := List.mem_map.mp he
    exact (Classical.choose_spec (ex p) hp).2.2
end Tk
end
section
set_option Elab.async false
set_option linter.all false
set_option maxRecDepth 100000
set_option maxHeartbeats 4000000
set_option exponentiation.threshold 10000
namespace Tk
open PySem PySem.Spec PyProof.Rows L2
def forIt : Stmt → Expr
  | .For _ it _ _ _ => it
  | _ => .Constant .none 0 ⟨0, 0, 0, 0⟩
theorem go_rng {ta : TA} {g : TG} {tb : TS} {D : Ends} {σ : L2.St} {H : Hp} (h : ta σ H fun vs H1 => ∃ j : Int, vs = [.int j] ∧ -(2 ^ 62) ≤ j ∧ j < 2 ^ 62 ∧ ∃ W : Nat → Nat → L2.St → Hp → Prop, (∃ m, W 0 m σ H1) ∧ ∀ i m σ H, W i m σ H →
  ((Itr 0 j.toNat).stop i H ∧ D.nx σ H) ∨ ((Itr 0 j.toNat).go i H ∧ ∃ N : L2.St → Hp → Prop, (∀ σ' H', N σ' H' → ∃ m', m' < m ∧ W (i + 1) m' σ' H') ∧ ∀ x H', (Itr 0 j.toNat).yld i H x H' → g x σ H' fun σ2 H2 => tb { D with nx := N, ct := N, bk := D.nx } σ2 H2)) : tFor (iRng1 ta) g tb D σ H := h
theorem Gr.room {F H F1 H1 F2 H2 : Hp} {r : Addr} {a b : HO} (g1 : Gr F (upd H r a) F1 H1) (g2 : Gr F1 (upd H1 r b) F2 H2) : Gr F (upd H r b) F2 H2 := by
  refine ⟨fun c o z => ?_, g1.ff.trans g2.ff, g2.fh, fun c z n => ?_⟩
  · by_cases hc : c = r
    · subst hc
      rw [upd_same] at z
      cases z
      exact g2.hh _ _ upd_same
    · rw [upd_ne hc] at z
      exact g2.hh _ _ (by rw [upd_ne hc]; exact g1.hh _ _ (by rw [upd_ne hc]; exact z))
  · by_cases hc : c = r
    · subst hc
      exact g2.nw _ (g1.nw _ z (by rw [upd_same]; exact fun z => by cases z)) (by rw [upd_same]; exact fun z => by cases z)
    · rw [upd_ne hc] at n
      refine g2.nw _ (g1.nw _ z (by rw [upd_ne hc]; exact n)) ?_
      rw [upd_ne hc]
      intro q
      have := g1.hh.free q
      rw [upd_ne hc] at this
      exact n this
theorem Gr.beside {F H F1 H1 : Hp} {D : Addr} {o : HO} (g : Gr F H F1 H1) (hD : H D = none) (fD : F1 D = none) : Gr F H F1 (upd H1 D o) :=
  ⟨fun a x z => by rw [upd_ne (ne_of_none z hD)]; exact g.hh _ _ z, g.ff, fun a x z => by rw [upd_ne (ne_of_none z fD)]; exact g.fh _ _ z, g.nw⟩
section
variable {P : Program} {w : World} {K : PySem.W.Frag} {mg : Str → Option Value} {base : Heap} {f : Addr} {fd : FuncData} {aN aO aT aH : Addr}
def RSideL : RC := fun ds Q => ∃ n m : Nat, ds = [.int (n : Int), .int (m : Int)] ∧ 1 ≤ n ∧ n ≤ 5 ∧ m ≤ 3 ∧ ∀ s : Side, OkSide n s → Q (sideD s)
abbrev nSd : List Str := ["_law_room_here", "_law_many", "_law_most", "_law_found", "_law_k", "_law_place"]
abbrev XSd (P : Program) (w : World) (K : PySem.W.Frag) (mg : Str → Option Value) (base : Heap) (f : Addr) (cdv : Value) (A0 : Around) (outer : List Env) (s0 : Shared) (H : Hp) (E : XK) : Cx := (cxOf CX0 P w K mg base nSd "_law_side" (defScope (top 73)) f cdv A0 outer s0 H E).nox
theorem sc_law_side : FnScope nSd ["_law_room_here", "_law_many", "_law_most"] (defScope (top 73)) := ⟨rfl, rfl, rfl, by decide +kernel, rfl, by decide +kernel, by decide +kernel⟩
abbrev σS (r D : Addr) (n m : Nat) (y4 y5 : Option V) : L2.St := [some (.ref r), some (.int (n : Int)), some (.int (m : Int)), some (.ref D), y4, y5]
abbrev bS (D : Addr) (n m : Nat) (b4 b5 : Slot) : Sto := [.fz (.int (n : Int)), .fz (.int (m : Int)), .rw (.ref D), b4, b5]
theorem pl_bS {D : Addr} {n m : Nat} {b4 b5 : Slot} (h4 : plainS b4 = true) (h5 : plainS b5 = true) : plainA (bS D n m b4 b5) := plainA_cons rfl (plainA_cons rfl (plainA_cons rfl (plainA_cons h4 (plainA_cons h5 plainA_nil))))
/-- what stands at the loop's turns -/
def InvS (K : PySem.W.Frag) (F0 H : Hp) (r D : Addr) (n m i : Nat) (σ : L2.St) (H' : Hp) : Prop := ∃ F' l' s' b4 b5 y4 y5 kvs, σ = σS r D n m y4 y5 ∧ Rp K (fun q => q = r) F' H' (.mu false (roomL l' s') :: bS D n m b4 b5) σ F' H' ∧ plainS b4 = true ∧ plainS b5 = true ∧ SeedOk s' ∧
  Gr F0 (upd H r (roomO l' s')) F' H' ∧ F' D = none ∧ H' D = some (.dK kvs) ∧ KOk K F' n kvs i
theorem ok_law_side (F : FnT K "_law_side" (top 73) f fd) (B : Bt mg) (g_law_take : Fn P w K mg base "_law_take" 1 (spR K RTake)) (g_law_amount : Fn P w K mg base "_law_amount" 2 (spR K RAmount)) : FnOk P w K mg base CX0 3 f fd ["_law_room_here", "_law_many", "_law_most"] (spR K RSideL) := by
  have nd := sc_law_side.nd
  refine F.ok sc_law_side (fun vs H Q E h => ?_) (fun cdv A0 outer s0 H vs Q E hr h => ?_)
  · obtain ⟨F', r, l, s, ws, ds, Pd, rfl, _, _, _, _, dd, ⟨n, m, rfl, _⟩, _⟩ := h
    rw [List.length_cons, dd.len]
    rfl
  obtain ⟨F0, r, l, s, ws, ds, Pd, rfl, sub, fr0, hr0, so, dd, ⟨n, m, rfl, n1, n5, m3, hQ⟩, k⟩ := h
  obtain ⟨v1, v2, rfl, d1, d2⟩ := dd.two
  have e1 := d1.int_v
  have e2 := d2.int_v
  subst e1
  subst e2
  have hu := hr.units
  have hu1 := Nat.lt_of_le_of_lt (Nat.add_le_add_left (show 1 ≤ 64 by decide) _) hu
  have t1 : SA (XSd P w K mg base f cdv A0 outer s0 H E) (callArgs (forIt (sAt (defBody (top 73)) 1))) _ _ := sa_cons (se_callR 0 g_law_take hr (sa_cons (se_add (sv 2) se_int) sa_nil)) sa_nil
  have t2 : SE (XSd P w K mg base f cdv A0 outer s0 H E) (asgVal (sAt (forBody (sAt (defBody (top 73)) 1)) 0)) _ _ := se_callR 0 g_law_take hr (sa_cons (sv 1) sa_nil)
  have t3 : SE (XSd P w K mg base f cdv A0 outer s0 H E) (asgVal (sAt (forBody (sAt (defBody (top 73)) 1)) 1)) _ _ := se_callR 0 g_law_amount hr sa_nil
  refine ⟨_, PSs.nox (pss_cons (ps_set (i := 3) nd rfl (.inr rfl) pe_dnewK)
    (pss_cons (ps_for PassesOwn.never rfl (pi_range1 rfl B.range t1.p) (pg_name (i := 4) nd rfl (.inl rfl)) (pss_cons (ps_set (i := 5) nd rfl (.inl rfl) t2.p) (pss_one (ps_dput hu1 (pv 3) (pv 5) t3.p rfl))))
    (pss_one (ps_ret (pe_lc (own := [("_law_place", 5)]) rfl nd (pi_list (pe_callB cr_sorted rfl B.sorted (by decide +kernel) (pa_cons (pe_callTy (call_list_dK rfl) rfl B.list_ PyProof.Rows.boot_list (pa_cons (pv 3) pa_nil)) pa_nil))) (blkOk_by (by kernel_rfl)) (fun _ _ _ _ _ => by exact pg_name (i := 5) nd rfl (.inl rfl)) (fun _ _ _ _ _ => pts_nil)
      (fun _ _ _ _ _ => by exact pe_tup (pa_cons (pv 5) (pa_cons (pe_dget hu1 (pv 3) (pv 5) (fun _ _ => rfl)) pa_nil)))))))), ?_⟩
  refine go_seq (go_asg fun D hD => ?_)
  have nDr : D ≠ r := fun z => by rw [z, hr0] at hD; cases hD
  have fD : F0 D = none := sub.free hD
  have rp0 := start_room (y := "_law_room_here") (N := ["_law_many", "_law_most", "_law_found", "_law_k", "_law_place"]) sub hr0 fr0 dd (by show 2 ≤ 5; decide)
  have eH : upd H r (roomO l s) = H := by
    funext a
    by_cases ha : a = r
    · rw [ha, upd_same, hr0]
    · rw [upd_ne ha]
  have s1 : Same F0 (upd H D (.dK [])) := fun a o z => by rw [upd_ne (ne_of_none z fD)]; exact sub a o z
  have rp1 : Rp K (fun q => q = r) F0 (upd H D (.dK [])) (.mu false (roomL l s) :: bS D n m .no .no) (σS r D n m none none) F0 (upd H D (.dK [])) := rp_re (B := bS D n m .no .no) (rp0.setRw (i := 3) (v := .ref D)) (pl_bS rfl rfl) rfl (Same.refl F0) s1 (by rw [upd_ne (fun z => nDr z.symm)]; exact hr0) fr0
  have g1 : Gr F0 (upd H r (roomO l s)) F0 (upd H D (.dK [])) := by
    rw [eH]
    exact (Gr.refl sub).beside hD fD
  dsimp only
  refine go_seq (go_rng ?_)
  refine saR_now t1.s rp1 (pl_bS rfl rfl) (Qd := fun ds => ∃ c : Int, ds = [.int c] ∧ 0 ≤ c ∧ c ≤ m) ⟨⟨_, _, _, rfl⟩, _, rfl, m, 1, rfl, rfl, _, _, _, rfl, so, _, rfl, by show 0 < (m : Int) + 1; omega, by show (m : Int) + 1 ≤ 10 ^ 12; omega, fun c c0 c1 l' s' so' => ⟨⟨c, rfl, c0, by have c1 : c < (m : Int) + 1 := c1; omega⟩, l', s', so', rfl⟩⟩ fun ds vs F2 H2 l2 s2 hd so2 g2 dd2 rp2 => ?_
  obtain ⟨c, rfl, c0, c1⟩ := hd
  obtain ⟨v, rfl, dv⟩ := dd2.one
  have ev := dv.int_v
  subst ev
  refine ⟨c, rfl, by omega, by omega, ?_⟩
  have gg2 := g1.room g2
  have fD2 : F2 D = none := g2.nw D fD (by rw [upd_ne nDr, upd_same]; exact fun z => by cases z)
  have hD2 : H2 D = some (.dK []) := g2.hh _ _ (by rw [upd_ne nDr]; exact upd_same)
  refine ⟨fun i mm σ H' => mm = c.toNat - i ∧ i ≤ c.toNat ∧ InvS K F0 H r D n m i σ H', ⟨c.toNat, by omega, Nat.zero_le _, F2, l2, s2, .no, .no, _, _, [], rfl, rp2, rfl, rfl, so2, gg2, fD2, hD2, ⟨(fun kv hk => nomatch hk), List.nodup_nil, Nat.le_refl 0⟩⟩, ?_⟩
  rintro i mm σ H' ⟨rfl, hi, F', l', s', b4, b5, y4, y5, kvs, rfl, rp, p4, p5, so', g, fD', hD', ko⟩
  by_cases hlt : i < c.toNat
  · refine .inr ⟨hlt, fun σ H' => InvS K F0 H r D n m (i + 1) σ H', fun σ' H' q => ⟨c.toNat - (i + 1), by omega, rfl, hlt, q⟩, fun x H'' y => ?_⟩
    obtain ⟨rfl, rfl⟩ := y
    show tSeq _ _ _ _ _
    have rp3 : Rp K (fun q => q = r) F' H'' (.mu false (roomL l' s') :: bS D n m (.fz (.int (0 + (i : Nat)))) b5) (σS r D n m (some (.int (0 + (i : Nat)))) y5) F' H'' := rp.set (i := 4) (DD.int (0 + (i : Int)))
    refine go_seq (go_asg ?_)
    refine seR_now t2.s rp3 (pl_bS rfl p5) (Qd := fun d => ∃ p : Nat, d = .int (p : Int) ∧ p < n) ⟨⟨_, _, _, rfl⟩, _, rfl, _, _, _, rfl, so', n, rfl, by omega, by omega, fun p p0 p1 l' s' so' => ⟨⟨p.toNat, by rw [Int.toNat_of_nonneg p0], by omega⟩, l', s', so', rfl⟩⟩ fun d v F4 H4 l4 s4 hd so4 g4 dv4 rp4 => ?_
    obtain ⟨p, rfl, hp⟩ := hd
    have ev := dv4.int_v
    subst ev
    have rp5 : Rp K (fun q => q = r) F4 H4 (.mu false (roomL l4 s4) :: bS D n m (.fz (.int (0 + (i : Nat)))) (.fz (.int (p : Int)))) (σS r D n m (some (.int (0 + (i : Nat)))) (some (.int (p : Int)))) F4 H4 := rp4.set (i := 5) (DD.int (p : Int))
    refine seR_now t3.s rp5 (pl_bS rfl rfl) (Qd := fun d => ∃ x, AmtOk x ∧ d = fr x) ⟨⟨_, _, _, rfl⟩, _, _, _, rfl, so4, rfl, fun x hx l' s' so' => ⟨⟨x, hx, rfl⟩, l', s', so', rfl⟩⟩ fun d v F6 H6 l6 s6 hd so6 g6 dv6 rp6 => ?_
    obtain ⟨x, hx, rfl⟩ := hd
    have nn : ∀ {h : Hp} {o : HO}, h D = some o → h D ≠ none := fun e z => by rw [e] at z; cases z
    have hD4 : H4 D = some (.dK kvs) := g4.hh _ _ (by rw [upd_ne nDr]; exact hD')
    have fD4 : F4 D = none := g4.nw D fD' (by rw [upd_ne nDr]; exact nn hD')
    have hD6 : H6 D = some (.dK kvs) := g6.hh _ _ (by rw [upd_ne nDr]; exact hD4)
    have fD6 : F6 D = none := g6.nw D fD4 (by rw [upd_ne nDr]; exact nn hD4)
    have g46 := (g.room g4).room g6
    have ko6 : KOk K F6 n kvs i := (ko.mono g4.ff).mono g6.ff
    refine ⟨.ref D, rfl, .int (p : Int), rfl, D, upd H6 D (.dK (putK kvs (.inl (p : Int)) v)), rfl, DPut.k (k := .inl (p : Int)) hD6 (Nat.lt_of_le_of_lt ko.2.2 (small1000 (by omega))), ?_⟩
    have h0 : upd H r (roomO l6 s6) D = none := by rw [upd_ne nDr]; exact hD
    have hr6 : H6 r = some (roomO l6 s6) := g6.hh _ _ upd_same
    have fr6 : F6 r = none := (room_at rp6 rfl).2.2
    have s6' : Same F6 (upd H6 D (.dK (putK kvs (.inl (p : Int)) v))) := fun a o z => by rw [upd_ne (ne_of_none z fD6)]; exact g6.fh a o z
    exact ⟨F6, l6, s6, _, _, _, _, _, rfl, rp_re rp6 (pl_bS rfl rfl) rfl (Same.refl F6) s6' (by rw [upd_ne (fun z => nDr z.symm)]; exact hr6) fr6, rfl, rfl, so6, g46.beside h0 fD6, fD6, upd_same, ko6.put hp hx dv6⟩
  · have ei : i = c.toNat := by omega
    subst ei
    refine .inl ⟨Nat.le_refl _, ?_⟩
    dsimp only
    refine go_ret ?_
    refine ⟨.ref D, rfl, D, kvs, rfl, hD', fun q hq => ⟨q, _, rfl, SqL.of (upd_same.trans (by rw [ko.keys])), by rw [List.length_map, List.length_map]; have := ko.2.2; omega, fun ms p hperm hsort hp => ⟨p, rfl, ⟨_, SqL.of upd_same⟩, fun D2 hD2 => ?_⟩⟩⟩
    obtain ⟨es, rfl, oes, les, get⟩ := ko.side hperm hsort
    have pq : p ≠ q := fun z => by rw [z, upd_same] at hp; cases hp
    have hp' : H' p = none := by
      rw [upd_ne pq] at hp
      exact hp
    have up3 : ∀ a o, H' a = some o → upd (upd H' q (.lst (kvs.map fun kv => kV kv.1))) p (.lst ((es.map fun e => (e.1 : Int)).map V.int)) a = some o := fun a o z => by
      rw [upd_ne (ne_of_none z hp'), upd_ne (ne_of_none z hq)]
      exact z
    have hD2' : H' D2 = none := by
      cases z : H' D2 with
      | none => rfl
      | some o =>
        have := up3 _ _ z
        rw [hD2] at this
        cases this
    have hDD2 : D ≠ D2 := ne_of_none hD' hD2'
    have np2 : p ≠ D2 := fun z => by rw [← z, upd_same] at hD2; cases hD2
    refine lc_list (xs := (es.map fun e => (e.1 : Int)).map V.int) (fun i Hh => ∃ Fh acc, DDs K Fh acc (sideL (es.take i)) ∧ Hh D2 = some (.lst acc) ∧ Same F' Fh ∧ Same Fh Hh ∧ Fh D2 = none ∧ (∀ a o, upd (upd H' q (.lst (kvs.map fun kv => kV kv.1))) p (.lst ((es.map fun e => (e.1 : Int)).map V.int)) a = some o → Hh a = some o) ∧ (∀ a, F' a = none → upd (upd H' q (.lst (kvs.map fun kv => kV kv.1))) p (.lst ((es.map fun e => (e.1 : Int)).map V.int)) a ≠ none → Fh a = none))
      ⟨F', [], .nil, upd_same, Same.refl F', fun a o z => ?_, g.fh.free hD2', fun a o z => by rw [upd_ne (ne_of_none z hD2)]; exact z, fun a z _ => z⟩ (fun i Hh hi ⟨Fh, acc, _, _, _, _, _, up, _⟩ => SqL.of (up _ _ upd_same)) (fun i x Hh hx ⟨Fh, acc, da, ha, ff, fh, f2, up, nw⟩ => ?_) (fun Hh ⟨Fh, acc, da, ha, ff, fh, f2, up, nw⟩ => ?_)
    · have z1 := g.fh a o z
      rw [upd_ne (ne_of_none z1 hD2')]
      exact up3 a o z1
    · rw [List.getElem?_map, List.getElem?_map] at hx
      cases he : es[i]? with
      | none => rw [he] at hx; cases hx
      | some e =>
        rw [he] at hx
        have hx : V.int (e.1 : Int) = x := Option.some.inj hx
        subst hx
        obtain ⟨v, hv, dv⟩ := get e (mem_at he)
        have hDh : Hh D = some (.dK kvs) := up _ _ (up3 _ _ hD')
        refine ⟨rfl, ?_⟩
        unfold tYes
        dsimp only
        rw [if_pos rfl]
        refine ⟨_, rfl, _, rfl, _, rfl, D, v, rfl, ?_, by show (2 : Nat) ≤ sizeLine; decide, fun t ht => ⟨acc, ?_, ?_, ?_⟩⟩
        · have q := DGet.k (k := .inl (e.1 : Int)) hDh
          rw [hv] at q
          exact q
        · rw [upd_ne (ne_of_none ha ht)]
          exact ha
        · have l1 := da.len
          rw [sideL_len, List.length_take] at l1
          exact Nat.lt_of_le_of_lt (show acc.length ≤ 1000 by omega) (small1000 (Nat.le_refl _))
        · have ft : Fh t = none := fh.free ht
          have tD : t ≠ D2 := fun z => by rw [z, ha] at ht; cases ht
          refine ⟨upd Fh t (.tup [.int (e.1 : Int), v]), acc ++ [.ref t], ?_, upd_same, ff.trans (same_new ft), fun a o z => ?_, ?_, fun a o z => ?_, fun a z n => ?_⟩
          · rw [take_next he]
            unfold sideL
            rw [List.map_append]
            exact (da.mono (same_new ft)).app (.cons (.tup (SqT.of upd_same) (.cons (.int _) (.cons (((dv.mono ff).mono (same_new ft))) .nil))) .nil)
          · by_cases hat : a = t
            · subst hat
              rw [upd_same] at z
              cases z
              rw [upd_ne tD, upd_same]
            · rw [upd_ne hat] at z
              rw [upd_ne (ne_of_none z f2), upd_ne hat]
              exact fh a o z
          · rw [upd_ne (fun z => tD z.symm)]
            exact f2
          · have h1 := up a o z
            rw [upd_ne (ne_of_none z hD2), upd_ne (ne_of_none h1 ht)]
            exact h1
          · have nat : a ≠ t := fun q => by
              cases z3 : upd (upd H' _ (.lst (kvs.map fun kv => kV kv.1))) p (.lst ((es.map fun e => (e.1 : Int)).map V.int)) a with
              | none => exact n z3
              | some o =>
                have := up a o z3
                rw [q, ht] at this
                cases this
            rw [upd_ne nat]
            exact nw a z n
    · rw [List.length_map, List.length_map, List.take_length] at da
      have s2 : Same Fh (upd Fh D2 (.lst acc)) := same_new f2
      refine k (sideD es) _ (upd Fh D2 (.lst acc)) Hh l' s' (hQ es oes) ⟨fun a o z => up _ _ (up3 _ _ (g.hh a o z)), (g.ff.trans ff).trans s2, fun a o z => ?_, fun a z n => ?_⟩ so' (.lst upd_same (da.mono s2))
      · by_cases ha2 : a = D2
        · subst ha2
          rw [upd_same] at z
          cases z
          exact ha
        · rw [upd_ne ha2] at z
          exact fh a o z
      · have f1 := g.nw a z n
        have n3 : upd (upd H' q (.lst (kvs.map fun kv => kV kv.1))) p (.lst ((es.map fun e => (e.1 : Int)).map V.int)) a ≠ none := fun q2 => by
          cases z4 : upd H r (roomO l' s') a with
          | none => exact n z4
          | some o =>
            have := up3 _ _ (g.hh a o z4)
            rw [q2] at this
            cases this
        have na : a ≠ D2 := fun q2 => n3 (by rw [q2]; exact hD2)
        rw [upd_ne na]
        exact nw a f1 n3
end
end Tk
end
section
set_option Elab.async false
set_option linter.all false
set_option maxRecDepth 100000
set_option maxHeartbeats 4000000
set_option exponentiation.threshold 10000
namespace Tk
open PySem PySem.Spec PyProof.Rows L2
/-! ### a comprehension whose items are not known, but what is true of them -/
def aLcP (ai : AL) (ag : AG) (at_ : AT) (ae : AE) (vs : List Nat) : AL := fun A Q => ai A fun ds A1 => noMu A1 vs = true ∧ ds.length ≤ 1000 ∧ ∃ Pv : Nat → PyData → Prop,
  (∀ i d, ds[i]? = some d → ag d (wipeA A1 vs) fun A2 => at_ A2 fun b A3 => A3 = A2 ∧ b = true ∧ ae A3 fun y A4 => A4 = A3 ∧ Pv i y) ∧ ∀ ys : List PyData, ys.length = ds.length → (∀ i y, ys[i]? = some y → Pv i y) → Q ys A1
theorem so_lcP {K : PySem.W.Frag} {ti : TI} {tg : TG} {tt : TT} {te : TE} {ai : AL} {ag : AG} {at_ : AT} {ae : AE} {is vs : List Nat} (hi : SoI K ti ai) (hg : SoG K tg ag is) (ht : SoT K tt at_) (he : SoE K te ae) (hv : ∀ i ∈ is, i ∈ vs) : SoN K (tLc ti tg tt te vs) (aLcP ai ag at_ ae vs) := fun M F0 H0 A σ F H Qd Q rp h k => by
  refine hi M F0 H0 A σ F H _ _ rp h fun J ds A1 F1 H1 h1 e1 it => ?_
  obtain ⟨nm0, hl, Pv, turn, q⟩ := h1
  have nm := noMu_ok nm0
  intro D hD
  have h0 : H0 D = none := e1.rp.dom D hD
  have f1 : F1 D = none := e1.rp.sub.free hD
  have nD : ¬ MutA A1 σ D := fun m => by
    obtain ⟨i, o, es, z1, z2⟩ := m
    obtain ⟨p, vs', y1, y2, _⟩ := e1.rp.mu_at z1
    have : p = D := ref_inj y1 z2
    rw [this, hD] at y2
    cases y2
  refine ⟨fun i m H' => m = ds.length - i ∧ i ≤ ds.length ∧ ∃ F' vs' ys, Rp K M F0 H0 A1 σ F' H' ∧ Same F1 F' ∧ H' D = some (.lst vs') ∧ F' D = none ∧ DDs K F' vs' ys ∧ ys.length = i ∧ (∀ j y, ys[j]? = some y → Pv j y) ∧ (∀ a o, H1 a = some o → ¬ MutA A1 σ a → H' a = some o) ∧ (∀ a, H' a = none → H1 a = none) ∧ (∀ a, F1 a = none → H1 a ≠ none → ¬ MutA A1 σ a → F' a = none),
    ⟨ds.length, by omega, Nat.zero_le _, F1, [], [], e1.rp.untracked f1 h0 nD, Same.refl F1, upd_same, f1, .nil, rfl, (fun j y z => by simp at z), fun a o z _ => by rw [upd_ne (ne_of_none z hD)]; exact z, fun a z => ?_, fun a z _ _ => z⟩, ?_⟩
  · by_cases ha : a = D
    · rw [ha]
      exact hD
    · rw [upd_ne ha] at z
      exact z
  rintro i m H' ⟨rfl, hle, F', vs', ys, r', s', d1, d2, d3, yl, yp, kp, dm, nw⟩
  by_cases hlt : i < ds.length
  · refine .inr ⟨it.go i H' (s'.trans r'.sub) hlt, fun H2 => ∃ F' vs' ys, Rp K M F0 H0 A1 σ F' H2 ∧ Same F1 F' ∧ H2 D = some (.lst vs') ∧ F' D = none ∧ DDs K F' vs' ys ∧ ys.length = i + 1 ∧ (∀ j y, ys[j]? = some y → Pv j y) ∧ (∀ a o, H1 a = some o → ¬ MutA A1 σ a → H2 a = some o) ∧ (∀ a, H2 a = none → H1 a = none) ∧ (∀ a, F1 a = none → H1 a ≠ none → ¬ MutA A1 σ a → F' a = none),
      fun H2 q => ⟨ds.length - (i + 1), by omega, rfl, hlt, q⟩, fun x H2 y => ?_⟩
    have hd : ds[i]? = some ds[i] := List.getElem?_eq_getElem hlt
    obtain ⟨F2, g2, dx⟩ := it.yld i F' H' x H2 _ s' r'.sub hd y
    refine hg M F0 H0 (wipeA A1 vs) (wipe σ vs) F2 H2 x _ _ _ ((r'.grow g2).wiped vs) dx (turn i _ hd) fun A3 us h3 l3 r3 fr3 mm3 => ?_
    have hw : ∀ k, k ∉ vs → (setsL (wipe σ vs) is us)[k]? = σ[k]? := fun k hk => by
      rw [setsL_get is us _ k fun z => hk (hv k z), wipe_get σ k vs hk]
    refine ⟨wipe_eq vs (by rw [setsL_length, wipe_length]) hw, ?_⟩
    have mA : ∀ a, MutA A3 (setsL (wipe σ vs) is us) a → MutA A1 σ a := fun a z => (mm3 a z).wiped
    have hA3 : ∀ j, j ∉ vs → A3[j]? = A1[j]? := fun j hj => by rw [fr3 j fun z => hj (hv j z), wipeA_get A1 j vs hj]
    refine ht M F0 H0 A3 _ F2 H2 _ _ r3 h3 fun b A4 F4 H4 h4 e4 => ?_
    obtain ⟨eA, h4⟩ := h4
    subst eA
    have D4 : H4 D = some (.lst vs') := e4.kp D _ (g2.hh _ _ d1) fun z => nD (mA D z)
    have FD4 : F4 D = none := e4.nw D (g2.nw D d2 (by rw [d1]; exact fun z => by cases z)) (by rw [g2.hh _ _ d1]; exact fun z => by cases z) fun z => nD (mA D z)
    have s4 : Same F' F4 := g2.ff.trans e4.ff
    have kp4 : ∀ a o, H1 a = some o → ¬ MutA A1 σ a → H4 a = some o := fun a o z n => e4.kp a o (g2.hh a o (kp a o z n)) fun w => n (mA a w)
    have dm4 : ∀ a, H4 a = none → H1 a = none := fun a z => dm a (g2.hh.free (e4.dm a z))
    have nw4 : ∀ a, F1 a = none → H1 a ≠ none → ¬ MutA A1 σ a → F4 a = none := fun a z n mt => e4.nw a (g2.nw a (nw a z n mt) fun w => n (dm a w)) (fun w => n (dm a (g2.hh.free w))) fun w => mt (mA a w)
    obtain ⟨rfl, h4⟩ := h4
    rw [if_pos rfl]
    refine he M F0 H0 A4 _ F4 H4 _ _ e4.rp h4 fun yy v A5 F5 H5 h5 e5 d5 => ?_
    obtain ⟨eA, h5⟩ := h5
    subst eA
    have D5 : H5 D = some (.lst vs') := e5.kp D _ D4 fun z => nD (mA D z)
    have FD5 : F5 D = none := e5.nw D FD4 (by rw [D4]; exact fun z => by cases z) fun z => nD (mA D z)
    have s5 : Same F' F5 := s4.trans e5.ff
    refine ⟨vs', D5, ?_, F5, vs' ++ [v], ys ++ [yy], (r'.outer e5.rp s5 nm hA3 hw).untracked FD5 h0 nD, s'.trans s5, upd_same, FD5, (d3.mono s5).app (.cons d5 .nil), by rw [List.length_append, yl]; rfl, fun j z hz => ?_, fun a o z n => ?_, fun a z => ?_, fun a z n mt => e5.nw a (nw4 a z n mt) (fun w => n (dm4 a w)) fun w => mt (mA a w)⟩
    · rw [d3.len, yl]
      exact small1000 (by omega)
    · by_cases hj : j < i
      · rw [List.getElem?_append_left (by omega)] at hz
        exact yp j z hz
      · have hj2 := lt_of_get hz
        rw [List.length_append, yl] at hj2
        have hj3 : j = i := by
          have : [yy].length = 1 := rfl
          omega
        subst hj3
        rw [List.getElem?_append_right (by omega), yl, Nat.sub_self] at hz
        have : yy = z := Option.some.inj hz
        rw [← this]
        exact h5
    · have na : a ≠ D := ne_of_none z hD
      rw [upd_ne na]
      exact e5.kp a o (kp4 a o z n) fun w => n (mA a w)
    · by_cases ha : a = D
      · rw [ha]
        exact hD
      · rw [upd_ne ha] at z
        exact dm4 a (e5.dm a z)
  · have e : i = ds.length := by omega
    subst e
    refine .inl ⟨it.stop _ H' (s'.trans r'.sub) (Nat.le_refl _), ?_⟩
    exact k _ D vs' A1 F' H' (q ys yl yp) (e1.trans ⟨r', s', kp, fun _ z => z, dm, nw⟩) (e1.dm D hD) d2 d1 d3
section
variable {X : Cx}
variable {elt tg iter : Expr} {ifs : List Expr} {scope : Scope} {own : List (Str × Nat)} {pos : Pos} {wi : TI} {g : TG} {tt : TT} {te : TE} {ai : AL} {ag : AG} {at_ : AT} {ae : AE} {is : List Nat}
theorem sn_lcP (own : List (Str × Nat)) (hc : X.calm = true) (hN : X.N.Nodup) (hi : SI X tg iter wi ai) (ok : blkC X.N X.env.scope scope own = true)
    (hg : ∀ (s : Shared) (H : Hp) (C : Addr) (cl : List (Str × Addr)) (fp : List Addr), SG (X.blk s H scope (compEnvC scope cl C X.env) fp) tg g ag is)
    (ht : ∀ (s : Shared) (H : Hp) (C : Addr) (cl : List (Str × Addr)) (fp : List Addr), STs (X.blk s H scope (compEnvC scope cl C X.env) fp) ifs tt at_)
    (he : ∀ (s : Shared) (H : Hp) (C : Addr) (cl : List (Str × Addr)) (fp : List Addr), SE (X.blk s H scope (compEnvC scope cl C X.env) fp) elt te ae) (hv : ∀ i ∈ is, i ∈ own.map (·.2) := by decide) (hs : ∀ x, foldedSetIterable iter X.env x = pure x := by intro _; rfl) :
    SN X (.ListComp elt [⟨tg, iter, ifs, 0⟩] scope pos) (tLc wi g tt te (own.map (·.2))) (aLcP ai ag at_ ae (own.map (·.2))) :=
  ⟨pe_lc hc hN hi.p (blkOk_by ok) (fun s H C cl fp => (hg s H C cl fp).p) (fun s H C cl fp => (ht s H C cl fp).p) (fun s H C cl fp => (he s H C cl fp).p) hs,
    so_lcP hi.s (hg X.s_0 X.H_0 0 [] []).s (ht X.s_0 X.H_0 0 [] []).s (he X.s_0 X.H_0 0 [] []).s hv⟩
end
/-! ### a def that is handed the script -/
def spSc (K : PySem.W.Frag) (R : RC) : Sp := fun vs H Q _ => ∃ (F : Hp) (a : Addr) (xs : List Int) (ws : List V) (ds : List PyData) (P : PyData → Prop),
  vs = .ref a :: ws ∧ Same F H ∧ SqL K H a (xs.map V.int) ∧ DDs K F ws ds ∧ R ds P ∧ ∀ d v F' H', P d → Gr F H F' H' → DD K F' v d → Q v H'
def aCallSc (i : Nat) (R : RC) (a : AL) : AE := fun A Q => (∃ xs, A[i]? = some (.sc xs)) ∧ a A fun ds A1 => (∃ xs, A1[i]? = some (.sc xs)) ∧ R ds fun d => Q d A1
theorem se_callSc {X : Cx} {es : List Expr} {t : TA} {al : AL} {pos p py : Pos} {x y : Str} {R : RC} {K : PySem.W.Frag} {j k : Nat} (i : Nat) (G : Fn X.prog X.w X.K X.mg X.base x j (spSc K R)) (hr : Room k X.A) (ha : SA X es t al) (hj : j ≤ k := by decide) (hN : X.N[i]? = some y := by rfl) (hv : Vis X.env.scope y := by first | exact Or.inl rfl | exact Or.inr (Or.inl rfl) | exact Or.inr (Or.inr rfl))
    (hd : (y == ("__debug__" : Str)) = false := by decide) (hcd : (y == ("__classdict__" : Str)) = false := by decide) (hg : Gl X x := by rfl) (hdb : (x == ("__debug__" : Str)) = false := by decide)
    (he : starEach (.Name y py :: es) X.env = (false, eval (.Name y py) X.env) :: starEach es X.env := by rfl) (hpl : (backTo pos (starEach es X.env)).any (·.1) = false := by rfl) (hK : X.K = K := by rfl) :
    SE X (.Call (.Name x p) (.Name y py :: es) [] pos) (tCall (spSc K R) [] E0 (tCons (tVar i) t)) (aCallSc i R al) := by
  subst hK
  exact ⟨by
    obtain ⟨f, fd, ps, F, hm, kp, b⟩ := G
    exact pe_call F (hr.mono hj) hg hm kp b .nil pass0 (pa_cons (pe_var hN hv hd hcd) ha.p he) hdb he hpl, fun M F0 H0 A σ F H Qd Q rp h k => by
    obtain ⟨⟨xs0, e0⟩, h⟩ := h
    obtain ⟨a, e1, _, _⟩ := rp.slot i _ e0
    refine ⟨_, e1, ?_⟩
    refine ha.s M F0 H0 A σ F H _ _ rp h fun ds vs A1 F1 H1 h1 ev d1 => ?_
    obtain ⟨⟨xs, g1⟩, hR⟩ := h1
    obtain ⟨a', f1, sq, m⟩ := ev.rp.slot i _ g1
    have ea : a' = a := ref_inj f1 e1
    subst ea
    exact ⟨F1, a', xs, vs, ds, _, by rw [List.append_nil], ev.rp.sub, sqL_keep ev.rp sq m, d1, hR, fun d v F' H' hd g dd => k d v A1 F' H' hd (ev.trans (Ev.grow ev.rp g)) dd⟩⟩
section
variable {P : Program} {w : World} {K : PySem.W.Frag} {mg : Str → Option Value} {base : Heap} {f : Addr} {fd : FuncData}
theorem okSc {x qual : Str} {params : Arguments} {body : List Stmt} {scope : Scope} {dvs : List V} {kws : List (Str × V)} {y : Str} {N ps : List Str} {k : Nat} {R : RC} (F : FunD K x qual params body scope dvs kws f fd) (S : FnScope (y :: N) ps scope) (hps : ps.length ≤ N.length + 1) (len : ∀ ds P, R ds P → ds.length + 1 = ps.length)
    (hb : ∀ (cdv : Value) (A : Around) (outer : List Env) (s : Shared) (H : Hp), Room k (A.deeper (envOfC qual scope s.heap.objs.size f cdv)) →
      ∃ t a, SSs (cxOf CX0 P w K mg base (y :: N) qual scope f cdv A outer s H E0).nox body t a ∧ ∀ (xs : List Int) (ds : List PyData) (Pd : PyData → Prop), R ds Pd → a (endsD Pd) (startSc (y :: N).length xs ds)) : FnOk P w K mg base CX0 (k + 1) f fd ps (spSc K R) := by
  refine F.ok S (fun vs H Q E h => ?_) (fun cdv A outer s H vs Q E hr h => ?_)
  · obtain ⟨F', a, xs, ws, ds, Pd, rfl, _, _, dd, hR, _⟩ := h
    rw [List.length_cons, dd.len]
    exact len ds Pd hR
  · obtain ⟨F', a, xs, ws, ds, Pd, rfl, sf, ha, dd, hR, q⟩ := h
    obtain ⟨t, ar, hp, har⟩ := hb cdv A outer s H hr
    refine ⟨t, hp.p.nox, ?_⟩
    have hl := len ds Pd hR
    refine hp.s (fun _ => False) F' H _ _ F' H (endsD Pd) _ (start_sc sf ha dd (by omega)) (har xs ds Pd hR) ⟨fun A1 σ1 F1 H1 h1 r1 s1 => ?_, fun d v A1 σ1 F1 H1 h1 r1 s1 d1 => ?_, fun _ _ _ _ h1 _ _ => h1.elim, fun _ _ _ _ h1 _ _ => h1.elim⟩
    · exact q .none .non F1 H1 h1 ⟨fun a o z => r1.keep a o z id, s1, r1.sub, r1.new⟩ .non
    · exact q d v F1 H1 h1 ⟨fun a o z => r1.keep a o z id, s1, r1.sub, r1.new⟩ d1
end
end Tk
end
section
set_option Elab.async false
set_option linter.all false
set_option maxRecDepth 100000
set_option maxHeartbeats 4000000
set_option exponentiation.threshold 10000
namespace Tk
open PySem PySem.Spec PyProof.Rows L2
theorem all_map {α : Type} {g : α → PyData} {Pp : α → Prop} : ∀ {ys : List PyData}, (∀ (i : Nat) (y : PyData), ys[i]? = some y → ∃ d, y = g d ∧ Pp d) → ∃ l : List α, ys = l.map g ∧ ∀ d ∈ l, Pp d
  | [], _ => ⟨[], rfl, fun d h => nomatch h⟩
  | y :: ys, h => by
    obtain ⟨d, rfl, hd⟩ := h 0 y rfl
    obtain ⟨l, rfl, hl⟩ := all_map (ys := ys) fun i z hz => h (i + 1) z hz
    refine ⟨d :: l, rfl, fun e he => ?_⟩
    rcases List.mem_cons.mp he with rfl | he
    · exact hd
    · exact hl e he
section
variable {P : Program} {w : World} {K : PySem.W.Frag} {mg : Str → Option Value} {base : Heap} {f : Addr} {fd : FuncData} {aN aO aT aH : Addr}
def RDeedL : RC := fun ds Q => ∃ n m : Nat, ds = [.int (n : Int), .int (m : Int)] ∧ 1 ≤ n ∧ n ≤ 5 ∧ m ≤ 3 ∧ ∀ d : Side × Side, OkSide n d.1 → OkSide n d.2 → Q (deedD d)
theorem sc_law_deed : FnScope ["_law_room_here", "_law_many", "_law_most"] ["_law_room_here", "_law_many", "_law_most"] (defScope (top 74)) := ⟨rfl, rfl, rfl, by decide +kernel, rfl, by decide +kernel, by decide +kernel⟩
theorem ok_law_deed (F : FnT K "_law_deed" (top 74) f fd) (g_law_side : Fn P w K mg base "_law_side" 3 (spR K RSideL)) : FnOk P w K mg base CX0 4 f fd ["_law_room_here", "_law_many", "_law_most"] (spR K RDeedL) := by
  have nd := sc_law_deed.nd
  refine okR F sc_law_deed (by decide) (fun ds Q h => ?_) (fun cdv A outer s H hr => ?_)
  · obtain ⟨n, m, rfl, _⟩ := h
    rfl
  refine ⟨_, _, (sss_one (ss_ret (se_tup (sa_cons (se_callR 0 g_law_side hr (sa_cons (sv 1) (sa_cons (sv 2) sa_nil))) (sa_cons (se_callR 0 g_law_side hr (sa_cons (sv 1) (sa_cons (sv 2) sa_nil))) sa_nil))))), fun l s0 ds Q so h => ?_⟩
  obtain ⟨n, m, rfl, n1, n5, m3, hQ⟩ := h
  refine ⟨⟨_, _, _, rfl⟩, _, rfl, _, rfl, _, _, _, rfl, so, n, m, rfl, n1, n5, m3, fun s hs l1 s1 so1 => ?_⟩
  refine ⟨⟨_, _, _, rfl⟩, _, rfl, _, rfl, _, _, _, rfl, so1, n, m, rfl, n1, n5, m3, fun s2 hs2 l2 s2 so2 => ?_⟩
  exact ⟨by show (2 : Nat) ≤ 1000; decide, ⟨_, _, rfl, so2⟩, hQ (_, _) hs hs2⟩
def RNet : RC := fun ds Q => ds = [.int 5, .int 7, .int 3] ∧ ∀ N, OkNet N → Q (netD N)
theorem sc_law_net : FnScope ["_law_script", "_law_most_places", "_law_most_deeds", "_law_most", "_law_many", "_law_k"] ["_law_script", "_law_most_places", "_law_most_deeds", "_law_most"] (defScope (top 93)) := ⟨rfl, rfl, rfl, by decide +kernel, rfl, by decide +kernel, by decide +kernel⟩
theorem ok_law_net (F : FnT K "_law_net" (top 93) f fd) (B : Bt mg) (g_law_deed : Fn P w K mg base "_law_deed" 4 (spR K RDeedL)) (g_law_room : Fn P w K mg base "_law_room" 1 (spRoom K)) (g_law_take : Fn P w K mg base "_law_take" 1 (spR K RTake)) : FnOk P w K mg base CX0 5 f fd ["_law_script", "_law_most_places", "_law_most_deeds", "_law_most"] (spSc K RNet) := by
  have nd := sc_law_net.nd
  refine okSc F sc_law_net (by decide) (fun ds Q h => ?_) (fun cdv A outer s H hr => ?_)
  · obtain ⟨rfl, _⟩ := h
    rfl
  refine ⟨_, _, (sss_cons (ss_set 4 nd (se_add se_int (se_callRN g_law_take hr (sn_room 0 g_law_room hr se_int) (sa_cons (sv 1) sa_nil))))
      (sss_one (ss_ret (se_tup (sa_cons (sv 4) (sa_cons (se_ofN (sn_lcP [("_law_k", 5)] rfl nd (si_range2 B.range (sa_cons se_int (sa_cons (se_callB (call_min2 rfl) soc_I2 B.min (sa_cons (se_lenSc 0 B.len) (sa_cons (se_add se_int (sv 2)) sa_nil))) sa_nil))) (by kernel_rfl) (fun _ _ _ _ _ => by exact (sg_name 5 nd)) (fun _ _ _ _ _ => by exact sts_nil) (fun _ _ _ _ _ => by exact (se_callRN g_law_deed hr (sn_room 0 g_law_room hr (sv 5)) (sa_cons (sv 4) (sa_cons (sv 3) sa_nil)))))) sa_nil)))))), fun xs ds Q h => ?_⟩
  obtain ⟨rfl, hQ⟩ := h
  refine ⟨⟨_, rfl⟩, ⟨_, rfl⟩, 0, rfl, by decide, by decide, fun l s so => ?_⟩
  refine ⟨l, s, rfl, so, _, rfl, 5, rfl, by decide, by decide, fun r r0 r1 => ?_⟩
  obtain ⟨n, rfl⟩ := Int.eq_ofNat_of_zero_le r0
  have r1 : (n : Int) < 5 := r1
  refine ⟨1, n, rfl, rfl, ?_⟩
  have en : (1 : Int) + (n : Int) = ((1 + n : Nat) : Int) := by omega
  dsimp only
  rw [en]
  refine ⟨_, rfl, xs, rfl, _, rfl, 1, 7, rfl, rfl, _, _, rfl, 1, _, rfl, by decide, by decide, ?_, ?_, ?_⟩
  · show (0 : Int) ≤ if (8 : Int) < (xs.length : Int) then 8 else (xs.length : Int)
    split <;> omega
  · show (if (8 : Int) < (xs.length : Int) then 8 else (xs.length : Int)) ≤ 1000
    split <;> omega
  have l7 : ((if (8 : Int) < (xs.length : Int) then 8 else (xs.length : Int)) - 1).toNat ≤ 7 := by
    split <;> omega
  refine ⟨rfl, by rw [rgD_len]; exact Nat.le_trans l7 (by decide), fun i y => ∃ d : Side × Side, y = deedD d ∧ OkSide (1 + n) d.1 ∧ OkSide (1 + n) d.2, fun i d hd => ?_, fun ys ly hy => ?_⟩
  · obtain ⟨hi, rfl⟩ := rgD_get hd
    have hi : i < 7 := Nat.lt_of_lt_of_le hi l7
    refine ⟨rfl, rfl, ⟨_, rfl⟩, _, rfl, ⟨_, rfl⟩, 1 + (i : Int), rfl, by omega, by omega, fun l s so => ?_⟩
    exact ⟨l, s, rfl, so, _, rfl, _, rfl, 1 + n, 3, rfl, by omega, by omega, by decide, fun d h1 h2 => ⟨rfl, d, rfl, h1, h2⟩⟩
  · obtain ⟨ds, rfl, hds⟩ := all_map hy
    rw [List.length_map, rgD_len] at ly
    exact ⟨by show (2 : Nat) ≤ 1000; decide, hQ ⟨1 + n, ds⟩ ⟨by show 1 ≤ 1 + n; omega, by show 1 + n ≤ 5; omega, by show ds.length ≤ 7; rw [ly]; exact l7, hds⟩⟩
end
end Tk
end
section
set_option Elab.async false
set_option linter.all false
set_option maxRecDepth 100000
set_option maxHeartbeats 4000000
set_option exponentiation.threshold 10000
namespace Tk
open PySem PySem.Spec PyProof.Rows L2
/-! ### an exception that is held by a name, behind the try that caught it -/
section
variable {X : Cx} {pins : List (Addr × Obj)} {σ : L2.St} {H : Hp} {s : Shared} {a C d : Addr} {fs : List (Str × V)}
theorem excO_ok {P : Program} {w : World} {h : Heap} {oe : Obj} {vs : Array Value} (e : h.get? a = some oe) (z : Zc (.ref C) (some d) oe) (f : oe.data = .fields vs) : ObjOk P w H h a (ExcO a C d) :=
  ⟨⟨oe, vs, e, z.1, z.2, f⟩, ⟨oe, e⟩, fun _ _ ⟨o, v, q, r⟩ k => ⟨o, v, k o q, r⟩⟩
theorem held_inst (I : Inv X pins σ H s) (ha : H a = some (ExcO a C d)) (hd : H d = some (.xd fs)) : ∃ oe od, PySem.W.InstAt s.heap a oe C (some od) ∧ ∃ mA : Str → Option Value, (∀ n, PySem.W.lookIn n od = some (mA n)) ∧ ∀ n, RelO (fs.lookup n) (mA n) := by
  obtain ⟨⟨oe, vs, e, z1, z2, f⟩, _⟩ : ObjOk X.prog X.w H s.heap a (.ext fun h => ∃ (oe : Obj) (vs : Array Value), h.get? a = some oe ∧ oe.cls = .ref C ∧ oe.dict = some d ∧ oe.data = .fields vs) := I.hok a _ ha
  obtain ⟨mA, ns, hr⟩ : ObjOk X.prog X.w H s.heap d (.xd fs) := I.hok d _ hd
  obtain ⟨od, ho, hl⟩ := lookIn_ns ns
  exact ⟨oe, od, ⟨e, z1, by unfold PySem.W.notCls; rw [f] <;> rfl, by rw [z2]; exact ho⟩, mA, hl, hr⟩
/-- what exists but was not tracked is tracked from now on -/
theorem track {o : HO} (I : Inv X pins σ H s) (hx : X.ex = []) (h0 : X.s_0.heap.get? a = none) (na : H a = none) (nL : a ≠ X.env.locals) (nC : ∀ x c, X.env.cells.lookup x = some c → c ≠ a) (nP : ∀ p ∈ X.pn ++ pins, p.1 ≠ a) (new : ObjOk X.prog X.w (upd H a o) s.heap a o) : Inv X pins σ (upd H a o) s := by
  obtain ⟨ok, os, bare, base, loc, cell, free, freeC, pin, hok, len⟩ := I
  have n0 : ∀ {b : Addr} {u : Obj}, X.s_0.heap.get? b = some u → b ≠ a := fun e z => by rw [z, h0] at e; cases e
  refine ⟨ok, os, bare, ⟨base.keep, base.slot, fun b u e n x => ?_, base.there, fun b xs e => ?_, fun b u v e => ?_, fun b ps e => ?_⟩, loc, cell, ?_, fun x c e => ?_, fun p hp => ?_, hok.laidN (fun _ _ q => q) na new, len⟩
  · rw [upd_ne (n0 e)]
    exact base.free b u e n x
  · have q := base.tups b xs e
    rw [upd_ne (ne_of_none q na)]
    exact q
  · have q := base.frzs b u v e
    rw [upd_ne (ne_of_none q na)]
    exact q
  · obtain ⟨m, q⟩ := base.tbls b ps e
    exact ⟨m, by rw [upd_ne (ne_of_none q na)]; exact q⟩
  · rw [upd_ne (fun z => nL z.symm)]
    exact free
  · rw [upd_ne (nC x c e)]
    exact freeC x c e
  · obtain ⟨q1, q2, q3⟩ := pin p hp
    exact ⟨q1, by rw [upd_ne (nP p hp)]; exact q2, q3⟩
end
/-- isinstance(e, c), e held -/
def rIsX (K : PySem.W.Frag) : List V → Hp → VK → Prop := fun xs H Q => ∃ (a C d : Addr) (fs : List (Str × V)) (c : V) (cv : Value) (b : Bool), xs = [.ref a, c] ∧ ExcC K C ∧ H a = some (ExcO a C d) ∧ H d = some (.xd fs) ∧ (∀ u, RelV c u → u = cv) ∧ PySem.W.kitOne K (.ref C) cv = some b ∧ Q (.bl b) H
theorem call_isX {X : Cx} : CallR X (.builtin "isinstance") (rIsX X.K) := by
  intro pins s σ H xs us Q I r h
  obtain ⟨a, C, d, fs, c, cv, b, rfl, T, ha, hd, hcv, e, q⟩ := h
  obtain ⟨u1, u2, rfl, r1, r2⟩ := vals2 r
  obtain rfl : u1 = Value.ref a := r1
  have ec := hcv _ r2
  subst ec
  obtain ⟨oe, od, J, _⟩ := held_inst I ha hd
  have hcl : (PySem.W.clsIn X.K C).isSome = true := by
    obtain ⟨cd, hc, _⟩ := PySem.W.any_some T.hd
    rw [hc]
    rfl
  exact PySem.W.kia_one (PySem.W.kitx_exc hcl T.hg T.hk T.hs T.ha T.hn T.ht T.hm) I.kIn J e (fun z => nomatch z) fun tk => ⟨.bl b, H, I.kept (t' := tk) fun _ _ z => z, rfl, q⟩
/-- e.f, e held -/
def tHeld (K : PySem.W.Frag) (f : Str) (te : TE) : TE := fun σ H Q => te σ H fun x H1 => ∃ (a C d : Addr) (fs : List (Str × V)) (v : V), x = .ref a ∧ XfC K C ∧ PySem.W.findIn K (.ref C) f = some none ∧ H1 a = some (ExcO a C d) ∧ H1 d = some (.xd fs) ∧ fs.lookup f = some v ∧ Q v H1
theorem pe_held {X : Cx} {e : Expr} {te : TE} {pos : Pos} {n : Str} (he : PE X e te) (hb : attributeBase e n X.env (eval e X.env) = eval e X.env := by rfl) : PE X (.Attribute e n pos) (tHeld X.K n te) := by
  refine ⟨fun pins s σ H Q I h => ?_⟩
  refine attr_of hb (thn (he.run pins s σ H _ I h) fun u s1 hh => ?_)
  obtain ⟨x, H1, I1, rx, a, C, d, fs, v, rfl, T, hno, ha, hd, l, q⟩ := hh
  obtain rfl : u = Value.ref a := rx
  obtain ⟨oe, od, J, mA, hl, hr⟩ := held_inst I1 ha hd
  obtain ⟨w, hw, rw'⟩ := RelO.some_of (v := v) (o := mA n) (by rw [← l]; exact hr n)
  exact HandSPX.exc_get I1.kIn J T.ga T.gg T.exC (PySem.W.findObj_own T.hdC hno rfl (by rw [hl, hw])) (handed_of rw') ⟨v, H1, I1.tok _, rw', q⟩
/-! ### try: body, except x as n: suite, where the exception is kept in sight -/
abbrev backN (i : Nat) (D : Ends) : Ends := { nx := fun σ H => D.nx (σ.set i none) H, rt := D.rt, bk := fun σ H => D.bk (σ.set i none) H, ct := fun σ H => D.ct (σ.set i none) H }
def wHeld (K : PySem.W.Frag) (c : Value) (i : Nat) (ts : TS) (D : Ends) : WX := fun cls d σ H => PySem.W.exmOne K cls c = some true ∧ ∃ (C dd : Addr), cls = .ref C ∧ d = some dd ∧ ∀ a, H a = none → ts (backN i D) (σ.set i (some (.ref a))) (upd H a (ExcO a C dd))
abbrev inSuite (X : Cx) (a : Addr) (pn : List (Addr × Obj)) : Cx := X.suite a pn
theorem inv_suite {X : Cx} {pins : List (Addr × Obj)} {σ : L2.St} {H : Hp} {s : Shared} (I : Inv X pins σ H s) (a : Addr) : Inv (X.suite a (X.pn ++ pins)) [] σ H s :=
  ⟨I.ok.suite _ _, I.os, I.bare, I.base, I.loc, I.cell, I.free, I.freeC, fun p hp => I.pin p (by rw [List.append_nil] at hp; exact hp), I.hok, I.len⟩
theorem inv_unsuite {X : Cx} {pins q : List (Addr × Obj)} {σ : L2.St} {H : Hp} {s : Shared} {a : Addr} (I : Inv (X.suite a (X.pn ++ pins)) q σ H s) (ok : X.Ok) : Inv X pins σ H s :=
  ⟨ok, I.os, I.bare, I.base, I.loc, I.cell, I.free, I.freeC, fun p hp => I.pin p (List.mem_append_left _ hp), I.hok, I.len⟩
section
variable {X : Cx} {x n : Str} {c : Value} {i : Nat} {body : List Stmt} {st : Stmt} {np pos pos' : Pos} {tb : WX → TS} {ts : TS}
/-- what follows the landing of the exception -/
theorem caught {pins : List (Addr × Obj)} {D : Ends} {u : Value} {s : Shared} (ok : X.Ok) (hst : X.stack = X.env :: X.outer) (hfr : X.env.frame = some X.env.locals) (hN : X.N.Nodup) (hi : X.N[i]? = some n) (hln : X.env.kindOf n = some .local) (hc : Names X x c) (hx0 : X.ex = [])
    (hsu : ∀ (a : Addr) (pn : List (Addr × Obj)), PSs (X.suite a pn) [st] ts) {xe : Value → Shared → Prop} (y : XE (X.tr (X.pn ++ pins) xe) (wHeld X.K c i ts D) u s) :
    wpAny (model X.prog X.w) X.A (noteFrame u X.env) (fun _ s₂ => wpAny (model X.prog X.w) X.A (setFlight u none) (fun _ s₃ => wpAny (model X.prog X.w) X.A (handleBy u X.env [.ExceptHandler (some (.Name x np)) (some n) [st] pos']) (SP X pins D) X.xe s₃) X.xe s₂) X.xe s := by
  obtain ⟨a, G, sI, pins', σ, H, cls, d, rfl, J0, nb, up, sky, na, os, ag, hm, C, dd, rfl, rfl, go⟩ := y
  have J : Inv X pins σ H sI := J0.ofTry ok
  have sky2 : Sky G (X.env :: X.outer) a (Zc (.ref C) (some dd)) X.env.locals s.heap := by rw [← hst]; exact sky
  refine Sky.land Zc.steady (by rw [ok.frames, hst]) hfr sky2 fun h1 fl1 up1 => ?_
  have J1 : Inv X pins σ H { s with heap := h1 } := J.landed nb fl1.1 (up.trans up1) os ag
  obtain ⟨oe, vs, he, hz, hd⟩ := fl1.there
  have noFrame : a ∉ L2.frs (X.env :: X.outer) := fun hin => by
    obtain ⟨_, o', e', hno⟩ := fl1.2.2.1.mem hin
    rw [he] at e'
    cases e'
    exact hno _ hd
  have nL : a ≠ X.env.locals := fun z => noFrame (List.mem_filterMap.mpr ⟨X.env, List.mem_cons_self, by rw [hfr, z]⟩)
  have nI : sI.heap.get? a = none := by
    cases z : sI.heap.get? a with
    | none => rfl
    | some o =>
      have q := nb a o z (by show a ∉ L2.frs X.stack; rw [hst]; exact noFrame)
      rw [fl1.2.1] at q
      cases q
  have n0 : X.s_0.heap.get? a = none := by
    cases z : X.s_0.heap.get? a with
    | none => rfl
    | some o =>
      obtain ⟨o', q⟩ := J.base.there a o z (by rw [hx0]; exact List.not_mem_nil)
      rw [nI] at q
      cases q
  have nC : ∀ y cc, X.env.cells.lookup y = some cc → cc ≠ a := fun y cc e z => by
    obtain ⟨v, o, ho, _⟩ := J.cell y cc e
    rw [z, nI] at ho
    cases ho
  have nP : ∀ p ∈ X.pn ++ pins, p.1 ≠ a := fun p hp z => by
    have q := (J.pin p hp).1
    rw [z, nI] at q
    cases q
  have S1 := inv_suite J1 a
  refine wpAny_handleBy_cons (codeAny_handlers_test ?_) (by intro q; cases q)
  have looks : PySem.W.Looks (model X.prog X.w) h1 (typeOf (.ref a)) (.ref C) := fun A Q E s k q => wpAny_typeOf_ref (k _ _ he) (by rw [hz.1]; exact q)
  have matching := PySem.W.exm_one (M := model X.prog X.w) J1.kIn looks hm
  have named : ∀ {Q : Value → Shared → Prop} {E : Value → Shared → Prop}, Q c { s with heap := h1 } → wpAny (model X.prog X.w) (X.A.mark (some (.ref a))) (eval (.Name x np) X.env) Q E { s with heap := h1 } := fun {Q E} q => by
    obtain ⟨hg, hdb, hm | ⟨hm, hv, hn⟩⟩ := hc
    · exact ld_glob (X := X.suite a (X.pn ++ pins)) S1 hg hm q hdb
    · exact ld_blt (X := X.suite a (X.pn ++ pins)) S1 hg hm hv q hn hdb
  refine named (matching.here ?_)
  refine codeAny_handlers_suite_as ?_
  refine HandSPX.lands_againZ fl1 fun h2 fl2 up2 => ?_
  have J2 : Inv X pins σ H { s with heap := h2 } := J.landed nb fl2.1 ((up.trans up1).trans up2) os ag
  obtain ⟨oe2, vs2, he2, hz2, hd2⟩ := fl2.there
  have J3 : Inv X pins σ (upd H a (ExcO a C dd)) { s with heap := h2 } := track J2 hx0 n0 na nL nC nP (excO_ok he2 hz2 hd2)
  refine store_ok (X := X.suite a (X.pn ++ pins)) (v := .ref a) (inv_suite J3 a) hN hi (.inl hln) rfl (fun s3 S3 => ?_) (.inr hln)
  refine wpAny_mono ((hsu a (X.pn ++ pins)).run [] s3 _ _ _ S3 (go a na)) (fun fl s4 q4 => ?_) (fun _ _ z => z.elim)
  have leave : ∀ {σ' : L2.St} {H' : Hp} {R : Shared → Prop}, Inv (X.suite a (X.pn ++ pins)) [] σ' H' s4 → (∀ s5, Inv X pins (σ'.set i none) H' s5 → R s5) →
      wpAny (model X.prog X.w) X.A (do bindName X.env n .none; unbindBehindTheSuite X.env n pos') (fun _ s5 => R s5) X.xe s4 := fun {σ' H' R} S k => gone_ok (inv_unsuite S ok) hN hi hln k
  cases fl with
  | next =>
    obtain ⟨σ4, H4, S4, r4⟩ := q4
    exact leave S4 fun s5 J5 => ⟨_, _, J5, r4⟩
  | brk =>
    obtain ⟨σ4, H4, S4, r4⟩ := q4
    exact leave S4 fun s5 J5 => ⟨_, _, J5, r4⟩
  | cont =>
    obtain ⟨σ4, H4, S4, r4⟩ := q4
    exact leave S4 fun s5 J5 => ⟨_, _, J5, r4⟩
  | ret v =>
    obtain ⟨v4, σ4, H4, S4, t4, r4⟩ := q4
    exact leave S4 fun s5 J5 => ⟨_, _, _, J5, t4, r4⟩
theorem ps_try_held (hst : X.stack = X.env :: X.outer) (hfr : X.env.frame = some X.env.locals) (hN : X.N.Nodup) (hi : X.N[i]? = some n) (hln : X.env.kindOf n = some .local) (hc : Names X x c) (hx0 : X.ex = [])
    (hb : ∀ (W : WX) (pn : List (Addr × Obj)) (xe : Value → Shared → Prop), Takes (X.tr pn xe) W → PSs (X.tr pn xe) body (tb W)) (hsu : ∀ (a : Addr) (pn : List (Addr × Obj)), PSs (X.suite a pn) [st] ts) :
    PS X (.Try body [.ExceptHandler (some (.Name x np)) (some n) [st] pos'] [] [] pos) (fun D σ H => tb (wHeld X.K c i ts D) D σ H) := by
  refine ⟨fun pins s σ H D I h => ?_⟩
  refine wpAny_Try_except (wpAny_mono ((hb (wHeld X.K c i ts D) (X.pn ++ pins) _ (fun u s' y => caught I.ok hst hfr hN hi hln hc hx0 hsu (pins := pins) (D := D) y)).run [] s σ H D (I.toTry _) h) (fun fl s1 q1 => ?_) (fun e s1 q => q))
  have ok := I.ok
  cases fl with
  | next =>
    obtain ⟨σ1, H1, J1, r1⟩ := q1
    exact wpAny_execs_nil ⟨σ1, H1, J1.ofTry ok, r1⟩
  | brk =>
    obtain ⟨σ1, H1, J1, r1⟩ := q1
    exact ⟨σ1, H1, J1.ofTry ok, r1⟩
  | cont =>
    obtain ⟨σ1, H1, J1, r1⟩ := q1
    exact ⟨σ1, H1, J1.ofTry ok, r1⟩
  | ret v =>
    obtain ⟨v1, σ1, H1, J1, t1, r1⟩ := q1
    exact ⟨v1, σ1, H1, J1.ofTry ok, t1, r1⟩
end
end Tk
end
section
set_option Elab.async false
set_option linter.all false
set_option maxRecDepth 100000
set_option maxHeartbeats 4000000
set_option exponentiation.threshold 10000
namespace Tk
open PySem PySem.Spec PyProof.Rows L2
/-! ### a def that is handed an exception -/
def spEx (K : PySem.W.Frag) (C : Addr) (R : RC) : Sp := fun vs H Q _ => ∃ (F : Hp) (a d : Addr) (fs : List (Str × V)) (ws : List V) (ds : List PyData) (P : PyData → Prop),
  vs = .ref a :: ws ∧ Same F H ∧ H a = some (ExcO a C d) ∧ H d = some (.xd fs) ∧ DDs K F ws ds ∧ R ds P ∧ ∀ e v F' H', P e → Gr F H F' H' → DD K F' v e → Q v H'
def startEx (n : Nat) (C : Addr) (ds : List PyData) : Sto := .ex C :: startA (n - 1) ds
def aIsX (i : Nat) (C : Addr) (b : Bool) : AE := fun A Q => A[i]? = some (.ex C) ∧ Q (.bool b) A
section
variable {X : Cx} {pos p py px : Pos} {y x : Str} {C c : Addr} {b : Bool}
theorem so_isX {K : PySem.W.Frag} {i : Nat} {z : V} {cv : Value} (T : ExcC K C) (hz : ∀ u, RelV z u → u = cv) (hk : PySem.W.kitOne K (.ref C) cv = some b) : SoE K (tCB (rIsX K) (tCons (tVar i) (tCons (tC z) tNil))) (aIsX i C b) := fun M F0 H0 A σ F H Qd Q rp h k => by
  obtain ⟨e, q⟩ := h
  obtain ⟨a, d, fs, e1, h1, h2, m1, m2⟩ := rp.slot i _ e
  exact ⟨_, e1, a, C, d, fs, z, cv, b, rfl, T, rp.keep _ _ h1 m1, rp.keep _ _ h2 m2, hz, hk, k _ _ A F H q (Ev.refl rp) (.bl b)⟩
theorem se_isX {K : PySem.W.Frag} (i : Nat) (T : ExcC K C) (hm : X.mg "isinstance" = none) (hx : X.mg x = some (.ref c)) (hk : PySem.W.kitOne K (.ref C) (.ref c) = some b) (hN : X.N[i]? = some y := by rfl) (hv : Vis X.env.scope y := by first | exact Or.inl rfl | exact Or.inr (Or.inl rfl) | exact Or.inr (Or.inr rfl)) (hd : (y == ("__debug__" : Str)) = false := by decide)
    (hcd : (y == ("__classdict__" : Str)) = false := by decide) (hg : Gl X "isinstance" := by rfl) (hg2 : Gl X x := by rfl) (hd2 : (x == ("__debug__" : Str)) = false := by decide)
    (h1 : starEach [.Name y py, .Name x px] X.env = (false, eval (.Name y py) X.env) :: starEach [.Name x px] X.env := by rfl) (h3 : starEach [.Name x px] X.env = (false, eval (.Name x px) X.env) :: starEach [] X.env := by rfl) (h2 : (backTo pos (starEach [.Name x px] X.env)).any (·.1) = false := by rfl) (hK : X.K = K := by rfl) :
    SE X (.Call (.Name "isinstance" p) [.Name y py, .Name x px] [] pos) (tCB (rIsX K) (tCons (tVar i) (tCons (tC (.ref c)) tNil))) (aIsX i C b) := by
  subst hK
  exact ⟨pe_callB call_isX hg hm (by decide +kernel) (pa_cons (pe_var hN hv hd hcd) (pa_cons (pe_glob (v := .ref c) hg2 hx rfl hd2) pa_nil h3) h1) (by decide) (by decide) h1 h2, so_isX T (fun u r => r) hk⟩
theorem se_isXb {K : PySem.W.Frag} {U : String} (i : Nat) (T : ExcC K C) (hm : X.mg "isinstance" = none) (hm2 : X.mg (Str.ofString U) = none) (hk : PySem.W.kitOne K (.ref C) (.type U) = some b) (hv2 : bootBuiltins (Str.ofString U) = some (.type U) := by decide +kernel) (hN : X.N[i]? = some y := by rfl) (hv : Vis X.env.scope y := by first | exact Or.inl rfl | exact Or.inr (Or.inl rfl) | exact Or.inr (Or.inr rfl)) (hd : (y == ("__debug__" : Str)) = false := by decide)
    (hcd : (y == ("__classdict__" : Str)) = false := by decide) (hg : Gl X "isinstance" := by rfl) (hg2 : Gl X (Str.ofString U) := by rfl) (hn2 : Str.ofString U ≠ "__name__" := by decide) (hd2 : (Str.ofString U == ("__debug__" : Str)) = false := by decide)
    (h1 : starEach [.Name y py, .Name (Str.ofString U) px] X.env = (false, eval (.Name y py) X.env) :: starEach [.Name (Str.ofString U) px] X.env := by rfl) (h3 : starEach [.Name (Str.ofString U) px] X.env = (false, eval (.Name (Str.ofString U) px) X.env) :: starEach [] X.env := by rfl) (h2 : (backTo pos (starEach [.Name (Str.ofString U) px] X.env)).any (·.1) = false := by rfl) (hK : X.K = K := by rfl) :
    SE X (.Call (.Name "isinstance" p) [.Name y py, .Name (Str.ofString U) px] [] pos) (tCB (rIsX K) (tCons (tVar i) (tCons (tC (.ty U)) tNil))) (aIsX i C b) := by
  subst hK
  exact ⟨pe_callB call_isX hg hm (by decide +kernel) (pa_cons (pe_var hN hv hd hcd) (pa_cons (pe_bltn (v := .ty U) hg2 hm2 hv2 rfl hn2 hd2) pa_nil h3) h1) (by decide) (by decide) h1 h2, so_isX T (fun u r => r) hk⟩
end
section
variable {P : Program} {w : World} {K : PySem.W.Frag} {mg : Str → Option Value} {base : Heap} {f C : Addr} {fd : FuncData}
theorem start_ex {F H : Hp} {a d : Addr} {fs : List (Str × V)} {vs : List V} {ds : List PyData} {y : Str} {N : List Str} (e : Same F H) (ha : H a = some (ExcO a C d)) (hd : H d = some (.xd fs)) (h : DDs K F vs ds) (hl : ds.length ≤ N.length) :
    Rp K (fun _ => False) F H (startEx (y :: N).length C ds) (L2.start (y :: N) (.ref a :: vs)) F H := by
  have q := start_rp (N := N) e h hl
  have e1 : L2.start (y :: N) (.ref a :: vs) = some (.ref a) :: L2.start N vs := by
    unfold L2.start
    simp
  rw [e1]
  refine ⟨q.keep, q.dom, q.fz, q.sub, q.new, congrArg Nat.succ q.len, fun i s es => ?_, fun i j p o u d1 d2 e1 e2 e3 e4 => ?_⟩
  · cases i with
    | zero =>
      have z : Slot.ex C = s := Option.some.inj es
      subst z
      exact ⟨a, d, fs, rfl, ha, hd, id, id⟩
    | succ i => exact q.slot i s es
  · cases i with
    | zero => cases e1
    | succ i =>
      cases j with
      | zero => cases e2
      | succ j => exact congrArg Nat.succ (q.inj i j p o u d1 d2 e1 e2 e3 e4)
theorem okEx {x qual : Str} {params : Arguments} {body : List Stmt} {scope : Scope} {dvs : List V} {kws : List (Str × V)} {y : Str} {N ps : List Str} {k : Nat} {R : RC} (F : FunD K x qual params body scope dvs kws f fd) (S : FnScope (y :: N) ps scope) (hps : ps.length ≤ N.length + 1) (len : ∀ ds P, R ds P → ds.length + 1 = ps.length)
    (hb : ∀ (cdv : Value) (A : Around) (outer : List Env) (s : Shared) (H : Hp), Room k (A.deeper (envOfC qual scope s.heap.objs.size f cdv)) →
      ∃ t a, SSs (cxOf CX0 P w K mg base (y :: N) qual scope f cdv A outer s H E0).nox body t a ∧ ∀ (ds : List PyData) (Pd : PyData → Prop), R ds Pd → a (endsD Pd) (startEx (y :: N).length C ds)) : FnOk P w K mg base CX0 (k + 1) f fd ps (spEx K C R) := by
  refine F.ok S (fun vs H Q E h => ?_) (fun cdv A outer s H vs Q E hr h => ?_)
  · obtain ⟨F', a, d, fs, ws, ds, Pd, rfl, _, _, _, dd, hR, _⟩ := h
    rw [List.length_cons, dd.len]
    exact len ds Pd hR
  · obtain ⟨F', a, d, fs, ws, ds, Pd, rfl, sf, ha, hd, dd, hR, q⟩ := h
    obtain ⟨t, ar, hp, har⟩ := hb cdv A outer s H hr
    refine ⟨t, hp.p.nox, ?_⟩
    have hl := len ds Pd hR
    refine hp.s (fun _ => False) F' H _ _ F' H (endsD Pd) _ (start_ex sf ha hd dd (by omega)) (har ds Pd hR) ⟨fun A1 σ1 F1 H1 h1 r1 s1 => ?_, fun d v A1 σ1 F1 H1 h1 r1 s1 d1 => ?_, fun _ _ _ _ h1 _ _ => h1.elim, fun _ _ _ _ h1 _ _ => h1.elim⟩
    · exact q .none .non F1 H1 h1 ⟨fun a o z => r1.keep a o z id, s1, r1.sub, r1.new⟩ .non
    · exact q d v F1 H1 h1 ⟨fun a o z => r1.keep a o z id, s1, r1.sub, r1.new⟩ d1
/-! ### _law_is_refusal -/
def IsT (K : PySem.W.Frag) (mg : Str → Option Value) (C : Addr) (x : Str) (b : Bool) : Prop := ∃ c, mg x = some (.ref c) ∧ PySem.W.kitOne K (.ref C) (.ref c) = some b
structure RefT (K : PySem.W.Frag) (mg : Str → Option Value) (C : Addr) : Prop where
  exc : ExcC K C
  c0 : IsT K mg C "NoNumber" false
  c1 : IsT K mg C "TooMany" false
  c2 : IsT K mg C "Dry" false
  c3 : IsT K mg C "Far" true
  c4 : IsT K mg C "Barred" false
  c5 : IsT K mg C "NoText" false
  c6 : IsT K mg C "NoRun" false
  c7 : IsT K mg C "NoName" false
  val : PySem.W.kitOne K (.ref C) (.type "ValueError") = some true
def RRefusal : RC := fun ds Q => ds = [.int 3] ∧ Q (.bool true)
theorem sc_law_is_refusal : FnScope ["_law_e", "_law_kind", "_law_kinds", "_law_number"] ["_law_e", "_law_kind"] (defScope (top 71)) := ⟨rfl, rfl, rfl, by decide +kernel, rfl, by decide +kernel, by decide +kernel⟩
theorem ok_law_is_refusal (F : FnT K "_law_is_refusal" (top 71) f fd) (B : Bt mg) (T : RefT K mg C) : FnOk P w K mg base CX0 1 f fd ["_law_e", "_law_kind"] (spEx K C RRefusal) := by
  have nd := sc_law_is_refusal.nd
  obtain ⟨c0, m0, k0⟩ := T.c0
  obtain ⟨c1, m1, k1⟩ := T.c1
  obtain ⟨c2, m2, k2⟩ := T.c2
  obtain ⟨c3, m3, k3⟩ := T.c3
  obtain ⟨c4, m4, k4⟩ := T.c4
  obtain ⟨c5, m5, k5⟩ := T.c5
  obtain ⟨c6, m6, k6⟩ := T.c6
  obtain ⟨c7, m7, k7⟩ := T.c7
  refine okEx F sc_law_is_refusal (by decide) (fun ds Q h => ?_) (fun cdv A outer s H hr => ?_)
  · obtain ⟨rfl, _⟩ := h
    rfl
  have hu := hr.units
  refine ⟨_, _, (sss_cons (ss_set 2 nd (se_lst (sa_cons (se_isX 0 T.exc B.isinstance m0 k0) (sa_cons (se_isX 0 T.exc B.isinstance m1 k1) (sa_cons (se_isX 0 T.exc B.isinstance m2 k2) (sa_cons (se_isX 0 T.exc B.isinstance m3 k3) sa_nil))))))
      (sss_cons (ss_set 2 nd (se_cat (sv 2) (se_lst (sa_cons (se_isX 0 T.exc B.isinstance m4 k4) (sa_cons (se_isX 0 T.exc B.isinstance m5 k5) (sa_cons (se_isX 0 T.exc B.isinstance m6 k6) (sa_cons (se_isX 0 T.exc B.isinstance m7 k7) sa_nil)))))))
      (sss_one (ss_ret (se_and (se_eqD hu (sv 2) (se_ofN (sn_lc [("_law_number", 3)] rfl nd (si_range B.range (sa_cons se_int sa_nil)) (by kernel_rfl) (fun _ _ _ _ _ => by exact (sg_name 3 nd)) (fun _ _ _ _ _ => by exact sts_nil) (fun _ _ _ _ _ => by exact (se_eq (sv 3) (sv 1)))))) (se_one (se_isXb (U := "ValueError") 0 T.exc B.isinstance B.valueError T.val))))))), fun ds Q h => ?_⟩
  obtain ⟨rfl, hQ⟩ := h
  refine ⟨rfl, rfl, rfl, rfl, by show (4 : Nat) ≤ 1000; decide, ?_⟩
  refine ⟨_, rfl, rfl, rfl, rfl, rfl, by show (4 : Nat) ≤ 1000; decide, _, _, rfl, rfl, le_line (by show 4 + 4 ≤ 1000; decide), ?_⟩
  refine ⟨_, rfl, 8, rfl, by decide, rfl, by rw [rgD_len]; decide, fun i => some (.bool (decide ((i : Int) = 3))), fun i d hd => ?_, ?_⟩
  · rw [rgD_map] at hd
    obtain ⟨hi, rfl⟩ := mapD_get hd
    exact ⟨rfl, _, rfl, _, rfl, _, rfl, rfl, rfl⟩
  rw [rgD_map, mapD_len, outs_map fun i _ => rfl]
  have lay8 : Lay 1 (.list (mapD 8 fun i => .bool (decide ((i : Int) = 3)))) := Lay.list fun d hd => by
    obtain ⟨i, _, rfl⟩ := List.mem_map.mp hd
    exact ⟨by rw [PyData.canLay0], by rw [PyData.depth]; exact Nat.zero_le _⟩
  have e8 : PyData.list ([.bool false, .bool false, .bool false, .bool true] ++ [.bool false, .bool false, .bool false, .bool false]) = .list (mapD 8 fun i => .bool (decide ((i : Int) = 3))) := rfl
  rw [e8]
  refine ⟨lay8.shaped (by decide), lay8.shaped (by decide), _, rfl, ?_⟩
  rw [lay8.self]
  exact iteT ⟨rfl, hQ⟩
end
end Tk
end
section
set_option Elab.async false
set_option linter.all false
set_option maxRecDepth 100000
set_option maxHeartbeats 4000000
set_option exponentiation.threshold 10000
namespace Tk
open PySem PySem.Spec PyProof.Rows L2
def tryBody : Stmt → List Stmt
  | .Try b _ _ _ _ => b
  | _ => []
def ifTest : Stmt → Expr
  | .If t _ _ _ => t
  | _ => .Constant .none 0 ⟨0, 0, 0, 0⟩
def ifThen : Stmt → List Stmt
  | .If _ b _ _ => b
  | _ => []
theorem go_next {D : Ends} {σ : L2.St} {H : Hp} (h : D.nx σ H) : tNext D σ H := h
theorem go_name {i : Nat} {x : V} {σ : L2.St} {H : Hp} {Q : L2.St → Hp → Prop} (h : Q (σ.set i (some x)) H) : gName i x σ H Q := h
theorem go_calls {sp : Sp} {E : L2.St → XK} {t : TA} {σ : L2.St} {H : Hp} {Q : VK} (h : t σ H fun vs H1 => sp vs H1 Q (E σ)) : tCallS sp E t σ H Q := h
theorem DDs.four {K : PySem.W.Frag} {F : Hp} {vs : List V} {d e g h : PyData} (q : DDs K F vs [d, e, g, h]) : ∃ v u x y, vs = [v, u, x, y] ∧ DD K F v d ∧ DD K F u e ∧ DD K F x g ∧ DD K F y h := by
  cases q with
  | cons h hs =>
    obtain ⟨u, x, y, rfl, h2, h3, h4⟩ := hs.three
    exact ⟨_, _, _, _, rfl, h, h2, h3, h4⟩
theorem plain_at {K : PySem.W.Frag} {F H : Hp} {A : Sto} {σ : L2.St} {i : Nat} {v : V} (rp : Rp K (fun _ => False) F H A σ F H) (hi : i < A.length) : (σ.set i (some v))[i]? = some (some v) := by
  rw [List.getElem?_set_self (by rw [← rp.len]; exact hi)]
section
variable {P : Program} {w : World} {K : PySem.W.Frag} {mg : Str → Option Value} {base : Heap} {f CT CF : Addr} {fd : FuncData}
def RTold : RC := fun ds Q => ∃ N b e wi, ds = [netD N, vD N.many b, vD N.many e, fr wi] ∧ OkNet N ∧ EOk N b ∧ EOk N e ∧ WiOk wi ∧ (∀ ws fs x s m r, CanBe N b ws fs → NearOk N b e fs x → RunOk N b e wi s m r → Q (.list (runL s m r))) ∧ (∀ ws fs x, CanBe N b ws fs → FarOk N b e fs x → Q (.str strF))
abbrev nTo : List Str := ["_law_net_here", "_law_begin", "_law_end", "_law_within", "_law_handed", "_law_error", "_law_found", "_law_e"]
abbrev XTo (P : Program) (w : World) (K : PySem.W.Frag) (mg : Str → Option Value) (base : Heap) (f : Addr) (cdv : Value) (A0 : Around) (outer : List Env) (s0 : Shared) (H : Hp) (E : XK) : Cx := (cxOf CX0 P w K mg base nTo "_law_told" (defScope (top 95)) f cdv A0 outer s0 H E).nox
theorem sc_law_told : FnScope nTo ["_law_net_here", "_law_begin", "_law_end", "_law_within"] (defScope (top 95)) := ⟨rfl, rfl, rfl, by decide +kernel, rfl, by decide +kernel, by decide +kernel⟩
structure TlT (K : PySem.W.Frag) (mg : Str → Option Value) (CT CF : Addr) : Prop where
  mT : mg "TokenError" = some (.ref CT)
  hit : PySem.W.exmOne K (.ref CF) (.ref CT) = some true
  xf : XfC K CF
  nP : PySem.W.findIn K (.ref CF) "places" = some none
  nW : PySem.W.findIn K (.ref CF) "weights" = some none
theorem ok_law_told (F : FnT K "_law_told" (top 95) f fd) (B : Bt mg) (T : TlT K mg CT CF) {fA : Addr} {fdA : FuncData} (FA : FnOk P w K mg base (CX P w) 8 fA fdA ["net", "begin", "end", "within"] (spAp K CF)) (mA : mg "approach" = some (.ref fA)) (kA : PySem.W.keepIn K (.ref fA) = true) (bA : Binds K fdA ["net", "begin", "end", "within"] [])
    (g_ref : Fn P w K mg base "_law_is_refusal" 1 (spEx K CF RRefusal)) (g_far : Fn P w K mg base "_law_is_far" 4 (spD K RIsFar)) : FnOk P w K mg base CX0 9 f fd ["_law_net_here", "_law_begin", "_law_end", "_law_within"] (spD K RTold) := by
  have nd := sc_law_told.nd
  refine F.ok sc_law_told (fun vs H Q E h => ?_) (fun cdv A0 outer s0 H vs Q E hr h => ?_)
  · obtain ⟨F', ds, Pd, _, dd, ⟨N, b, e, wi, rfl, _⟩, _⟩ := h
    exact dd.len
  obtain ⟨Fz, ds, Pd, sub, dd, ⟨N, b, e, wi, rfl, o, hb, he, hw, hQ1, hQ2⟩, k⟩ := h
  have hu := hr.units
  have q0 : SS (XTo P w K mg base f cdv A0 outer s0 H E) (sAt (defBody (top 95)) 0) _ _ := ss_set 4 nd (se_lst (sa_cons (se_ofN (sn_listOf B.list (sv 1))) (sa_cons (se_ofN (sn_listOf B.list (sv 2))) sa_nil)))
  have q1 : SS (XTo P w K mg base f cdv A0 outer s0 H E) (sAt (defBody (top 95)) 1) _ _ := ss_set 5 nd se_non
  have q2 : SS (XTo P w K mg base f cdv A0 outer s0 H E) (sAt (defBody (top 95)) 2) _ _ := ss_set 6 nd se_str
  have q3 : SA (XTo P w K mg base f cdv A0 outer s0 H E) (callArgs (asgVal (sAt (tryBody (sAt (defBody (top 95)) 3)) 0))) _ _ := sa_cons (sv 0) (sa_cons (se_ixL (sv 4) se_int) (sa_cons (se_ixL (sv 4) se_int) (sa_cons (sv 3) sa_nil)))
  have q4 : SS (XTo P w K mg base f cdv A0 outer s0 H E) (sAt (defBody (top 95)) 4) _ _ := ss_if (st_neD hu (sv 4) (se_lst (sa_cons (sv 1) (sa_cons (sv 2) sa_nil)))) (sss_one (ss_ret se_str)) sss_nil
  obtain ⟨fR, fdR, psR, FR, hmR, kpR, bR⟩ := g_ref
  obtain ⟨fF, fdF, psF, FF, hmF, kpF, bF⟩ := g_far
  have p3 : PS (XTo P w K mg base f cdv A0 outer s0 H E) (sAt (defBody (top 95)) 3) _ :=
    ps_try_held (i := 7) (c := .ref CT) (ts := tAsg (tVar 7) (gName 5)) (tb := fun W => tAsg (tCallS (spAp K CF) (WE W) (tCons (tVar 0) (tCons (tOp (rIxL K) (tVar 4) (tC (.int 0))) (tCons (tOp (rIxL K) (tVar 4) (tC (.int 1))) (tCons (tVar 3) tNil))))) (gName 6)) rfl rfl nd rfl rfl ⟨rfl, by decide, .inl T.mT⟩ rfl
      (fun W pn xe tk => pss_one (ps_set (i := 6) nd rfl (.inl rfl) (pe_callS FA (hr.mono (by decide)) rfl mA kA bA (fun σ => passAt tk σ) (pa_cons (pv 0) (pa_cons (pe_ix ix_list (pv 4) pe_int (fun _ _ => rfl)) (pa_cons (pe_ix ix_list (pv 4) pe_int (fun _ _ => rfl)) (pa_cons (pv 3) pa_nil)))))))
      (fun a pn => pss_one (ps_set (i := 5) nd rfl (.inl rfl) (pv 7)))
  have p5a : PW (XTo P w K mg base f cdv A0 outer s0 H E) (ifTest (sAt (defBody (top 95)) 5)) _ := pw_and (pt_cmpR op_notN (pv 5) pe_non (nomark _)) (pw_and1 (pt_val (pe_call (E := E0) FR (hr.mono (by decide)) rfl hmR kpR bR .nil pass0 (pa_cons (pv 5) (pa_cons pe_int pa_nil))) (by intro _; rfl)))
  have p5b : PT (XTo P w K mg base f cdv A0 outer s0 H E) (ifTest (sAt (ifThen (sAt (defBody (top 95)) 5)) 0)) _ := pt_val (pe_call (E := E0) FF (hr.mono (by decide)) rfl hmF kpF bF .nil pass0 (pa_cons (pv 0) (pa_cons (pv 1) (pa_cons (pv 2) (pa_cons (pe_held (pv 5)) (pa_cons (pe_held (pv 5)) pa_nil)))))) (by intro _; rfl)
  have p5 : PS (XTo P w K mg base f cdv A0 outer s0 H E) (sAt (defBody (top 95)) 5) _ := ps_if p5a.pt (pss_one (ps_if p5b
        (pss_cons (ps_expr (pe_bm PySem.F.plainAttrs_list PySem.F.slot_list_append PySem.F.type_list_append mt_append (pe_held (pv 5)) (pa_cons pe_int pa_nil)))
        (pss_cons (ps_expr (pe_bm0 PySem.F.plainAttrs_list PySem.F.slot_list_clear PySem.F.type_list_clear mt_clear (pe_held (pv 5))))
        (pss_one (ps_ret pe_str)))) pss_nil)) pss_nil
  refine ⟨_, PSs.nox (pss_cons q0.p (pss_cons q1.p (pss_cons q2.p (pss_cons p3 (pss_cons q4.p (pss_cons p5 (pss_one (ps_ret (pv 6))))))))), ?_⟩
  obtain ⟨nv, bv, ev, iv, rfl, dn, db, de, di⟩ := dd.four
  have z0 : Zs K Fz [.fz (netD N), .fz (vD N.many b), .fz (vD N.many e), .fz (fr wi), .no, .no, .no, .no] (L2.start nTo [nv, bv, ev, iv]) := .fz dn (.fz db (.fz de (.fz di (.no (.no (.no (.no .nil)))))))
  have pl : ∀ {x4 x5 x6 x7 : Slot}, plainS x4 = true → plainS x5 = true → plainS x6 = true → plainS x7 = true → plainA [.fz (netD N), .fz (vD N.many b), .fz (vD N.many e), .fz (fr wi), x4, x5, x6, x7] := fun h4 h5 h6 h7 => plainA_cons rfl (plainA_cons rfl (plainA_cons rfl (plainA_cons rfl (plainA_cons h4 (plainA_cons h5 (plainA_cons h6 (plainA_cons h7 plainA_nil)))))))
  have layH : Lay 3 (.list [vD N.many b, vD N.many e]) := Lay.list fun d hd => by
    rcases List.mem_cons.mp hd with rfl | hd
    · exact lay_vD _ _
    · have : d = vD N.many e := by simpa using hd
      rw [this]
      exact lay_vD _ _
  refine go_seq (ss_now q0.s (z0.rp sub) (N := fun C => C = [.fz (netD N), .fz (vD N.many b), .fz (vD N.many e), .fz (fr wi), .fz (.list [vD N.many b, vD N.many e]), .no, .no, .no]) ⟨_, rfl, _, rfl, _, rfl, _, rfl, by show (2 : Nat) ≤ 1000; decide, rfl⟩ (fun C hC => by subst hC; exact pl rfl rfl rfl rfl) fun C σ1 F1 H1 hC g1 rp1 => ?_)
  subst hC
  dsimp only
  refine go_seq (ss_now q1.s rp1 (N := fun C => C = [.fz (netD N), .fz (vD N.many b), .fz (vD N.many e), .fz (fr wi), .fz (.list [vD N.many b, vD N.many e]), .fz .none, .no, .no]) rfl (fun C hC => by subst hC; exact pl rfl rfl rfl rfl) fun C σ2 F2 H2 hC g2 rp2 => ?_)
  subst hC
  dsimp only
  refine go_seq (ss_now q2.s rp2 (N := fun C => ∃ z, C = [.fz (netD N), .fz (vD N.many b), .fz (vD N.many e), .fz (fr wi), .fz (.list [vD N.many b, vD N.many e]), .fz .none, .fz (.str z), .no]) ⟨_, rfl⟩ (fun C hC => by obtain ⟨z, rfl⟩ := hC; exact pl rfl rfl rfl rfl) fun C σ3 F3 H3 hC g3 rp3 => ?_)
  obtain ⟨z, rfl⟩ := hC
  dsimp only
  have g0 := (g1.trans g2).trans g3
  refine go_seq ?_
  refine go_asg (go_calls ?_)
  refine sa_now q3.s rp3 (plain_mut (pl rfl rfl rfl rfl)) (Qd := fun ds => ds = [netD N, vD N.many b, vD N.many e, fr wi]) ⟨_, rfl, _, rfl, _, 0, _, rfl, rfl, rfl, _, rfl, _, 1, _, rfl, rfl, rfl, _, rfl, rfl⟩ fun ds vs F4 H4 hd g4 dd4 => ?_
  subst hd
  obtain ⟨nv4, bv4, ev4, iv4, rfl, dn4, db4, de4, di4⟩ := dd4.four
  refine ⟨F4, nv4, bv4, ev4, iv4, N, b, e, wi, rfl, g4.fh, dn4, db4, de4, di4, o, hb, he, hw, fun ws fs x s m r v F5 H5 c hx hrun g5 dv => ?_, fun ws fs x d pp pw F5 H5 c hx g5 hd5 hd0 hpl hpw hne dpl dpw => ?_⟩
  · have rp5 : Rp K (fun _ => False) F5 H5 [.fz (netD N), .fz (vD N.many b), .fz (vD N.many e), .fz (fr wi), .fz (.list [vD N.many b, vD N.many e]), .fz .none, .fz (.list (runL s m r)), .no] (σ3.set 6 (some v)) F5 H5 := (rp_up rp3 (pl rfl rfl rfl rfl) (g4.ff.trans g5.ff) g5.fh).set (i := 6) dv
    show tSeq _ _ _ _ _
    refine go_seq (ss_now q4.s rp5 (N := fun C => C = [.fz (netD N), .fz (vD N.many b), .fz (vD N.many e), .fz (fr wi), .fz (.list [vD N.many b, vD N.many e]), .fz .none, .fz (.list (runL s m r)), .no]) ?_ (fun C hC => by subst hC; exact pl rfl rfl rfl rfl) fun C σ6 F6 H6 hC g6 rp6 => ?_)
    · refine ⟨_, rfl, _, rfl, _, rfl, by show (2 : Nat) ≤ 1000; decide, layH.shaped (by decide), layH.shaped (by decide), _, rfl, ?_⟩
      rw [layH.self]
      exact iteF rfl
    subst hC
    dsimp only
    obtain ⟨v5, e5, d5⟩ := rp6.fz_at (i := 5) rfl
    have ev5 := d5.none_v
    subst ev5
    obtain ⟨v6, e6, d6⟩ := rp6.fz_at (i := 6) rfl
    refine go_seq ⟨_, e5, rfl, _, rfl, ?_⟩
    rw [decide_eq_true (rfl : L2.V.non = L2.V.non)]
    refine iteF ?_
    refine iteF ?_
    refine go_next ?_
    dsimp only
    refine go_ret ?_
    refine ⟨_, e6, ?_⟩
    exact k _ _ F6 H6 (hQ1 ws fs x s m r c hx hrun) (((g0.trans g4).trans g5).trans g6) d6
  · refine ⟨T.hit, CF, d, rfl, rfl, fun a ha => ?_⟩
    refine go_asg ⟨_, plain_at rp3 (by show 7 < 8; decide), ?_⟩
    have fa : F5 a = none := g5.fh.free ha
    have nad : d ≠ a := ne_of_none hd5 ha
    have sA : Same F5 (upd H5 a (ExcO a CF d)) := fun q o z => by rw [upd_ne (ne_of_none z fa)]; exact g5.fh q o z
    have rpA : Rp K (fun _ => False) F5 (upd H5 a (ExcO a CF d)) [.fz (netD N), .fz (vD N.many b), .fz (vD N.many e), .fz (fr wi), .fz (.list [vD N.many b, vD N.many e]), .rw (.ref a), .fz (.str z), .no] (((σ3.set 7 (some (.ref a))).set 5 (some (.ref a))).set 7 none) F5 (upd H5 a (ExcO a CF d)) :=
      (((rp_up rp3 (pl rfl rfl rfl rfl) (g4.ff.trans g5.ff) sA).setRw (i := 7) (v := .ref a)).setRw (i := 5) (v := .ref a)).forget 7
    dsimp only
    refine go_name ?_
    refine go_seq (ss_now q4.s rpA (N := fun C => C = [.fz (netD N), .fz (vD N.many b), .fz (vD N.many e), .fz (fr wi), .fz (.list [vD N.many b, vD N.many e]), .rw (.ref a), .fz (.str z), .no]) ?_ (fun C hC => by subst hC; exact pl rfl rfl rfl rfl) fun C σ7 F7 H7 hC g7 rp7 => ?_)
    · refine ⟨_, rfl, _, rfl, _, rfl, by show (2 : Nat) ≤ 1000; decide, layH.shaped (by decide), layH.shaped (by decide), _, rfl, ?_⟩
      rw [layH.self]
      exact iteF rfl
    subst hC
    dsimp only
    have e5 := rp7.rw_at (i := 5) rfl
    have ha7 : H7 a = some (ExcO a CF d) := g7.hh _ _ upd_same
    have hd7 : H7 d = some (.xd [("weights", .ref pw), ("places", .ref pp)]) := g7.hh _ _ (by rw [upd_ne nad]; exact hd5)
    refine go_seq ⟨_, e5, rfl, _, rfl, ?_⟩
    rw [decide_eq_false (show ¬ L2.V.ref a = L2.V.non from fun z => nomatch z)]
    refine iteT ?_
    refine ⟨_, e5, F7, a, d, _, [.int 3], [.int 3], fun e => e = .bool true, rfl, g7.fh, ha7, hd7, .cons (.int 3) .nil, ⟨rfl, rfl⟩, fun d' v F8 H8 hd' g8 dv => ?_⟩
    subst hd'
    refine ⟨true, dv.bool_v, ?_⟩
    refine iteT ?_
    obtain ⟨v0, e0, d0⟩ := rp7.fz_at (i := 0) rfl
    obtain ⟨v1, e1, d1⟩ := rp7.fz_at (i := 1) rfl
    obtain ⟨v2, e2, d2⟩ := rp7.fz_at (i := 2) rfl
    have ha8 := g8.hh _ _ ha7
    have hd8 := g8.hh _ _ hd7
    have s58 := g7.ff.trans g8.ff
    refine ⟨_, e0, _, e1, _, e2, _, e5, a, CF, d, _, .ref pp, rfl, T.xf, T.nP, ha8, hd8, rfl, _, e5, a, CF, d, _, .ref pw, rfl, T.xf, T.nW, ha8, hd8, rfl, F8, [netD N, vD N.many b, vD N.many e, natD (dryL N.many ws), vD N.many x], fun e => e = .bool true, g8.fh,
      .cons (d0.mono g8.ff) (.cons (d1.mono g8.ff) (.cons (d2.mono g8.ff) (.cons (dpl.mono s58) (.cons (dpw.mono s58) .nil)))), ⟨N, b, e, x, ws, fs, rfl, o, hb, he, c, hx, rfl⟩, fun d' v F9 H9 hd' g9 dv => ?_⟩
    subst hd'
    refine ⟨true, dv.bool_v, ?_⟩
    refine iteT ?_
    have ha9 := g9.hh _ _ ha8
    have hd9 := g9.hh _ _ hd8
    obtain ⟨q1, ws1, eq1, fp1, dd1⟩ := dpl.list_v
    cases eq1
    obtain ⟨q2, ws2, eq2, fp2, dd2⟩ := dpw.list_v
    cases eq2
    have hp9 : H9 pp = some (.lst ws1) := g9.fh _ _ (g9.ff _ _ (s58 _ _ fp1))
    have hw9 : H9 pw = some (.lst ws2) := g9.fh _ _ (g9.ff _ _ (s58 _ _ fp2))
    have l1 : ws1.length < sizeLine := by
      rw [dd1.len, natL_len]
      exact small1000 (Nat.le_trans (dry_len _ _) (by have := o.2.1; omega))
    have nap : a ≠ pp := ne_of ha9 hp9 (fun z => nomatch z)
    have ndp : d ≠ pp := ne_of hd9 hp9 (fun z => nomatch z)
    refine go_seq (go_drop ⟨_, e5, a, CF, d, _, .ref pp, rfl, T.xf, T.nP, ha9, hd9, rfl, .inl ⟨rfl, _, SqL.of hp9⟩, pp, ws1, .int 7, rfl, rfl, hp9, l1, ?_⟩)
    dsimp only
    have hw10 : upd H9 pp (.lst (ws1 ++ [.int 7])) pw = some (.lst ws2) := by rw [upd_ne hne.symm]; exact hw9
    refine go_seq (go_drop ⟨_, e5, a, CF, d, _, .ref pw, rfl, T.xf, T.nW, by rw [upd_ne nap]; exact ha9, by rw [upd_ne ndp]; exact hd9, rfl, .inl ⟨rfl, _, SqL.of hw10⟩, pw, ws2, rfl, rfl, hw10, ?_⟩)
    dsimp only
    refine go_ret ?_
    have g04 := g0.trans g4
    have up : ∀ q o, H q = some o → upd (upd H9 pp (.lst (ws1 ++ [.int 7]))) pw (.lst []) q = some o := fun q o z => by
      have h5 := (g04.trans g5).hh q o z
      have h9 := g9.hh q o (g8.hh q o (g7.hh q o (by rw [upd_ne (ne_of_none h5 ha)]; exact h5)))
      rw [upd_ne (ne_of_none z (g04.hh.free hpw)), upd_ne (ne_of_none z (g04.hh.free hpl))]
      exact h9
    exact k (.str strF) _ Fz _ (hQ2 ws fs x c hx) ⟨up, Same.refl Fz, fun q o z => up q o (sub q o z), fun _ z _ => z⟩ (.str strF)
end
end Tk
end
section
set_option Elab.async false
set_option linter.all false
set_option maxRecDepth 100000
set_option maxHeartbeats 4000000
set_option exponentiation.threshold 10000
namespace Tk
open PySem PySem.Spec PyProof.Rows L2
/-! ### repr of data -/
theorem list_text_le : ∀ ts : List Str, (listText ts).length ≤ piled ts + 2
  | [] => by decide
  | t :: r => by
    have e : (listText (t :: r)).length = (textFrom 1 (("[" : Str) ++ (if (0 : Nat) > 0 then ", " else "" : String) ++ t) r).length + 1 := by
      show (textFrom 1 (("[" : Str) ++ (if (0 : Nat) > 0 then ", " else "" : String) ++ t) r ++ "]").length = _
      rw [strLen_append]
      rfl
    have e2 : ((("[" : Str) ++ (if (0 : Nat) > 0 then ", " else "" : String) ++ t)).length = 1 + t.length := by
      rw [strLen_append, strLen_append]
      rfl
    rw [e, textFrom_length_pos r 1 _ (Nat.succ_pos 0), e2, piled_cons]
    omega
theorem tuple_text_le (ts : List Str) : (tupleText ts).length ≤ piled ts + 3 := by
  unfold tupleText
  rw [strLen_append, strLen_append]
  have e1 : ((("(" : String) : Str)).length = 1 := rfl
  have e3 : (((if ts.length == 1 then ",)" else ")" : String) : Str)).length ≤ 2 := by split <;> decide
  rw [e1]
  by_cases h : ts = []
  · subst h
    have e4 : (Str.join ", " []).length = 0 := rfl
    rw [e4]
    omega
  · have := join_length_add ts h
    omega
/-- it can be shown, in so many signs at most -/
def ShB (k : Nat) (d : PyData) : Prop := d.showable = true ∧ d.shown.length ≤ k
theorem ShB.mono {j k : Nat} {d : PyData} (h : ShB j d) (l : j ≤ k) : ShB k d := ⟨h.1, Nat.le_trans h.2 l⟩
theorem shb_all {k : Nat} : ∀ {ds : List PyData}, (∀ d ∈ ds, ShB k d) → PyData.showableAll ds = true ∧ piled (PyData.shownAll ds) ≤ ds.length * (k + 2)
  | [], _ => ⟨by rw [PyData.showableAll], by rw [PyData.shownAll]; exact Nat.zero_le _⟩
  | d :: ds, h => by
    obtain ⟨h1, h2⟩ := h d List.mem_cons_self
    obtain ⟨h3, h4⟩ := shb_all (ds := ds) fun e he => h e (List.mem_cons_of_mem _ he)
    refine ⟨by rw [PyData.showableAll, h1, h3]; rfl, ?_⟩
    rw [PyData.shownAll, piled_cons, List.length_cons, Nat.add_mul, Nat.one_mul]
    omega
theorem ShB.int {i : Int} (h : i.natAbs.log2 < 1920) : ShB 1921 (.int i) := ⟨by rw [PyData.showable]; exact decide_eq_true h, by rw [PyData.shown]; exact int_text_len_1921 h⟩
theorem ShB.list {k n : Nat} {ds : List PyData} (h : ∀ d ∈ ds, ShB k d) (hn : ds.length ≤ n) : ShB (n * (k + 2) + 3) (.list ds) := by
  obtain ⟨h1, h2⟩ := shb_all h
  refine ⟨by rw [PyData.showable]; exact h1, ?_⟩
  rw [PyData.shown]
  have := list_text_le (PyData.shownAll ds)
  have := Nat.mul_le_mul_right (k + 2) hn
  omega
theorem ShB.tuple {k n : Nat} {ds : List PyData} (h : ∀ d ∈ ds, ShB k d) (hn : ds.length ≤ n) : ShB (n * (k + 2) + 3) (.tuple ds) := by
  obtain ⟨h1, h2⟩ := shb_all h
  refine ⟨by rw [PyData.showable]; exact h1, ?_⟩
  rw [PyData.shown]
  have := tuple_text_le (PyData.shownAll ds)
  have := Nat.mul_le_mul_right (k + 2) hn
  omega
theorem all2 {Pp : PyData → Prop} {a b : PyData} (ha : Pp a) (hb : Pp b) : ∀ d ∈ [a, b], Pp d := fun d hd => by
  rcases List.mem_cons.mp hd with rfl | hd
  · exact ha
  · have : d = b := by simpa using hd
    rw [this]
    exact hb
theorem small_log {i : Int} (h : i.natAbs < 2 ^ 100) : i.natAbs.log2 < 1920 := Nat.lt_of_lt_of_le (PySem.Flt.log2_lt_of (by decide) h) (by decide)
theorem sh_fr {x : Rat} (h : Ov DA BA x) : ShB 3849 (fr x) := by
  obtain ⟨h1, h2⟩ := h.den (by decide)
  have d1 : x.den ≤ 231000000 := Nat.le_of_dvd (by decide) h1
  have h2 : x.num.natAbs ≤ 295147905179352825856 := h2
  exact ShB.tuple (k := 1921) (n := 2) (all2 (ShB.int (small_log (by omega))) (ShB.int (small_log (by omega)))) (Nat.le_refl 2)
theorem sh_ent {n : Nat} {s : Side} (o : OkSide n s) (hn : n ≤ 5) (e : Nat × Rat) (he : e ∈ s) : ShB 7705 (entD e) := by
  have h1 := o.1 e he
  exact ShB.tuple (k := 3849) (n := 2) (all2 ((ShB.int (small_log (by omega))).mono (by decide)) (sh_fr h1.2.1)) (Nat.le_refl 2)
theorem sh_side {n : Nat} {s : Side} (o : OkSide n s) (hn : n ≤ 5) : ShB 38538 (sideD s) := ShB.list (k := 7705) (n := 5) (fun d hd => by
  obtain ⟨e, he, rfl⟩ := List.mem_map.mp hd
  exact sh_ent o hn e he) (by rw [sideL_len]; exact Nat.le_trans o.len hn)
theorem sh_net {N : Net} (o : OkNet N) : ShB 1079203 (netD N) := by
  have h5 := o.2.1
  refine ShB.tuple (k := 539598) (n := 2) (all2 ((ShB.int (small_log (by omega))).mono (by decide)) (ShB.list (k := 77083) (n := 7) (fun d hd => ?_) (by rw [List.length_map]; exact o.2.2.1))) (Nat.le_refl 2)
  obtain ⟨dd, hdd, rfl⟩ := List.mem_map.mp hd
  obtain ⟨o1, o2⟩ := o.2.2.2 dd hdd
  exact ShB.tuple (k := 38538) (n := 2) (all2 (sh_side o1 h5) (sh_side o2 h5)) (Nat.le_refl 2)
theorem lay_side (s : Side) : Lay 3 (sideD s) := Lay.list fun d hd => by
  obtain ⟨e, _, rfl⟩ := List.mem_map.mp hd
  exact lay_ent e
theorem lay_net (N : Net) : Lay 6 (netD N) := Lay.tuple (all2 (Lay.int _ _) (Lay.list fun d hd => by
  obtain ⟨e, _, rfl⟩ := List.mem_map.mp hd
  exact Lay.tuple (all2 (lay_side _) (lay_side _))))
def rRepr (K : PySem.W.Frag) : List V → Hp → VK → Prop := fun xs H Q => ∃ (a : Addr) (d : PyData), xs = [.ref a] ∧ Dp K H (.ref a) d ∧ d.showable = true ∧ d.hasDict = false ∧ d.depth ≤ 50 ∧ d.shown.length ≤ sizeLine ∧ Q (.str d.shown) H
theorem call_reprD {X : Cx} (hg : X.A.guards = some []) (hu : X.A.units + 64 < cLine) : CallR X (.builtin "repr") (rRepr X.K) := by
  intro pins s σ H xs us Q I r h
  obtain ⟨a, d, rfl, hd, h1, h2, h3, h4, q⟩ := h
  obtain ⟨u, rfl, ru⟩ := vals1 r
  obtain ⟨as, rd⟩ := Dp.reads I d (.ref a) u hd ru
  obtain rfl : u = Value.ref a := ru
  exact repr_of_reads' rd h1 (PyData.noDict_hsm h2) hg (by omega) (fun _ _ z => z) (fun h' t tk k => ⟨.str d.shown, H, I.kept (t' := tk) k, ⟨t, rfl⟩, q⟩) h4
def aRepr (a : AE) : AE := fun A Q => a A fun d A1 => (∃ ds, d = .list ds ∨ d = .tuple ds) ∧ d.showable = true ∧ d.hasDict = false ∧ d.depth ≤ 50 ∧ d.shown.length ≤ sizeLine ∧ Q (.str d.shown) A1
theorem se_repr {X : Cx} {e : Expr} {te : TE} {ae : AE} {pos p : Pos} {K : PySem.W.Frag} (hG : X.A.guards = some []) (hu : X.A.units + 64 < cLine) (hm : X.mg "repr" = none) (ha : SE X e te ae) (hg : Gl X "repr" := by rfl) (h1 : starEach [e] X.env = (false, eval e X.env) :: starEach [] X.env := by rfl) (h2 : (backTo pos (starEach [] X.env)).any (·.1) = false := by rfl) (hK : X.K = K := by rfl) :
    SE X (.Call (.Name "repr" p) [e] [] pos) (tCB (rRepr K) (tCons te tNil)) (aRepr ae) := by
  subst hK
  exact ⟨pe_callB (call_reprD hG hu) hg hm (by decide +kernel) (pa_cons ha.p pa_nil h1) (by decide) (by decide) h1 h2, fun M F0 H0 A σ F H Qd Q rp h k => by
    refine ha.s M F0 H0 A σ F H _ _ rp h fun d v A1 F1 H1 h1 e1 d1 => ?_
    obtain ⟨⟨ds, hds⟩, h2, h3, h4, h5, q⟩ := h1
    have fin : ∀ a, v = .ref a → rRepr X.K [v] H1 Q := fun a ea => by
      subst ea
      exact ⟨a, d, rfl, (d1.mono e1.rp.sub).dp, h2, h3, h4, h5, k _ _ A1 F1 H1 q e1 (.str _)⟩
    rcases hds with rfl | rfl
    · obtain ⟨a, vs, ea, _⟩ := d1.list_v
      exact fin a ea
    · obtain ⟨a, vs, ea, _⟩ := d1.tup_v
      exact fin a ea⟩
end Tk
end
section
set_option Elab.async false
set_option linter.all false
set_option maxRecDepth 100000
set_option maxHeartbeats 4000000
set_option exponentiation.threshold 10000
namespace Tk
open PySem PySem.Spec PyProof.Rows L2
/-! ### near and far shut one another out -/
theorem near_far {N : Net} {b e x y : Nat → Rat} {ws fs us gs : List Nat} (c : CanBe N b ws fs) (d : CanBe N b us gs) (hx : NearOk N b e fs x) (hy : FarOk N b e gs y) : False := by
  obtain ⟨rfl, rfl⟩ := c.uniq d
  have q := not_both (m := N.many) (n := N.deeds.length) (cs := fun j p => if j ∈ gs then chg (deedAt N j) p else 0) (g := fun p => e p - b p) (x := x) (w := y) hx.nn (fun p hp => ?_) (fun j hj => ?_)
  · have n := hy.neg
    grind
  · have h1 := hx.eq p hp
    have h2 : sumN (fun j => x j * if j ∈ gs then chg (deedAt N j) p else 0) N.deeds.length = cby N x N.deeds.length p := sumN_congr fun j hj => by
      by_cases hm : j ∈ gs
      · rw [if_pos hm]
      · rw [if_neg hm, hx.out j hj hm, Rat.zero_mul, Rat.zero_mul]
    rw [h2]
    grind
  · by_cases hm : j ∈ gs
    · have h2 : sumN (fun p => y p * if j ∈ gs then chg (deedAt N j) p else 0) N.many = sumN (fun p => y p * chg (deedAt N j) p) N.many := sumN_congr fun p _ => by rw [if_pos hm]
      rw [h2]
      exact hy.nn j hm
    · have h2 : sumN (fun p => y p * if j ∈ gs then chg (deedAt N j) p else 0) N.many = 0 := by
        have e0 : sumN (fun p => y p * if j ∈ gs then chg (deedAt N j) p else 0) N.many = sumN (fun _ => 0) N.many := sumN_congr fun p _ => by rw [if_neg hm, Rat.mul_zero]
        rw [e0, sumN_zero]
      rw [h2]
      exact Rat.le_refl
/-! ### the fraction -/
structure WiD (wi : Rat) : Prop where
  pos : 0 < wi
  up : wi ≤ 1000000
  dn : ∃ D, 0 < D ∧ D ≤ 1000000 ∧ Dn D wi
theorem WiD.ok {wi : Rat} (h : WiD wi) : WiOk wi := by
  obtain ⟨D, d0, d1, hd⟩ := h.dn
  have u := h.up
  have e : ((2 ^ 20 : Nat) : Rat) = 1048576 := rfl
  refine ⟨h.pos, by rw [e]; grind, ?_⟩
  have := Nat.le_of_dvd d0 (dn_den d0 hd)
  omega
theorem thousandth : fr (1 / 1000) = PyData.tuple [.int 1, .int 1000] := by
  have e1 : ((1 : Rat) / 1000).num = 1 := by decide +kernel
  have e2 : ((1 : Rat) / 1000).den = 1000 := by decide +kernel
  show PyData.tuple [.int ((1 : Rat) / 1000).num, .int (((1 : Rat) / 1000).den : Int)] = _
  rw [e1, e2]
  rfl
theorem sm_thousandth : Sm (1 / 1000) := ⟨by unfold Sz; decide +kernel, by unfold Sz; decide +kernel⟩
theorem WiD.ok2 {wi : Rat} (h : WiD wi) : WiOk (wi * (1 / 1000)) := by
  obtain ⟨D, d0, d1, hd⟩ := h.dn
  have u := h.up
  have p := h.pos
  have e : ((2 ^ 20 : Nat) : Rat) = 1048576 := rfl
  have dt : Dn 1000 (1 / 1000 : Rat) := ⟨1, by decide +kernel⟩
  refine ⟨Rat.mul_pos p (by decide +kernel), by rw [e]; grind, ?_⟩
  have := Nat.le_of_dvd (Nat.mul_pos d0 (by decide)) (dn_den (Nat.mul_pos d0 (by decide)) (hd.mul dt))
  have := Nat.mul_le_mul_right 1000 d1
  omega
theorem wi_mk {a b : Int} (a0 : 1 ≤ a) (a1 : a ≤ 1000000) (b0 : 1 ≤ b) (b1 : b ≤ 1000000) : WiD (Rat.divInt a b) := by
  have m := divInt_mul (n := a) (d := b) (by omega)
  obtain ⟨h0, h1⟩ := divInt_bd (n := a) (d := b) (by omega) b0
  have g1 : (a : Rat) ≤ 1000000 := intR (b := 1000000).mpr a1
  have g0 : (1 : Rat) ≤ (a : Rat) := intR (a := 1).mpr a0
  refine ⟨?_, by grind, b.natAbs, by omega, by omega, a, ?_⟩
  · refine Classical.byContradiction fun z => ?_
    have z0 : Rat.divInt a b = 0 := by grind
    rw [z0, Rat.zero_mul] at m
    grind
  · have e : ((b.natAbs : Nat) : Rat) = (b : Rat) := by
      rw [← Rat.intCast_natCast]
      congr 1
      omega
    rw [e]
    exact m
theorem pick2 {a b : Int} {r : Int} (h0 : 0 ≤ r) (h1 : r < 2) {Pp : Int → Prop} (ha : Pp a) (hb : Pp b) : ∃ e, atI [PyData.int a, .int b] r = some (.int e) ∧ Pp e := by
  rcases (show r = 0 ∨ r = 1 by omega) with rfl | rfl
  · exact ⟨a, rfl, ha⟩
  · exact ⟨b, rfl, hb⟩
/-! ### a def that is called where no repr runs -/
structure FnG (P : Program) (w : World) (K : PySem.W.Frag) (mg : Str → Option Value) (base : Heap) (k : Nat) (f : Addr) (fd : FuncData) (ps : List Str) (sp : Sp) : Prop where
  len : ∀ vs H Q E, sp vs H Q E → vs.length = ps.length
  run : ∀ (A : Around) (outer : List Env) (s : Shared) (H : Hp) (args : Args) (us : List Value) (vs : List V) (Q : VK) (E : XK), A.guards = some [] → Room k A → Env0 P w K mg base A outer s H → BindsTo s fd args (ps.zip us) → Vals vs us → sp vs H Q E → codeAny (model P w) A (.call (.ref f) args) (CR CX0 outer P w H s Q E) s
section
variable {P : Program} {w : World} {K : PySem.W.Frag} {mg : Str → Option Value} {base : Heap} {f : Addr} {fd : FuncData}
theorem FnG.of {x qual : Str} {params : Arguments} {body : List Stmt} {scope : Scope} {N ps : List Str} {k : Nat} {sp : Sp} (F : FunD K x qual params body scope [] [] f fd) (S : FnScope N ps scope) (len : ∀ vs H Q E, sp vs H Q E → vs.length = ps.length)
    (go : ∀ (cdv : Value) (A : Around) (outer : List Env) (s : Shared) (H : Hp) (vs : List V) (Q : VK) (E : XK), A.guards = some [] → Room k (A.deeper (envOfC qual scope s.heap.objs.size f cdv)) → sp vs H Q E →
      ∃ t, PSs (cxOf CX0 P w K mg base N qual scope f cdv A outer s H E) body t ∧ t { nx := fun _ H' => Q .non H', rt := Q } (L2.start N vs) H) : FnG P w K mg base (k + 1) f fd ps sp := by
  obtain ⟨oc, od, dV, kV, doc, pm, an, cdv, ct, osl, rfl, look, code, _, _⟩ := F.ex
  refine ⟨len, fun A outer s H args us vs Q E hG hr e0 bind vals h => ?_⟩
  have KX : K.In s.heap := e0.mod.kin.keeps fun b o e => (e0.bs b o e).1
  have few : s.heap.NoLimit := e0.mod.nolimit.keeps fun b o e => (e0.bs b o e).1
  refine codeAny_call_function hr.depth (KX _ _ look) rfl S.co S.gen rfl (PySem.W.codeRec_of KX code) (bind _ _ _ _ ?_)
  refine wpAny_newFunctionEnv_cells S.kind (fun y hy => ?_) fun env he s1 new => ?_
  · obtain ⟨n, v⟩ := y
    rcases S.par n (List.of_mem_zip hy).1 with q | q
    · exact .inl q
    · exact .inr ⟨q, PySem.W.cellsFrom_some _ _ _ (.inl q)⟩
  subst he
  refine ⟨few.keeps new.toInCall.keep, codeAny_func ?_⟩
  obtain ⟨t, walk, read⟩ := go cdv A outer s H vs Q E hG (hr.deeper _) h
  refine wpAny_mono (walk.run [] s1 (L2.start N vs) H _ (inv_start S hr.hd e0 (len _ _ _ _ h) vals new) read) (fun fl s2 q2 => ?_) fun e s2 q2 => q2
  cases fl with
  | ret u =>
    obtain ⟨v, σ2, H2, J, rv, q⟩ := q2
    exact ⟨v, H2, J.os, J.bare, J.base, J.hok, rv, q⟩
  | next =>
    obtain ⟨σ2, H2, J, q⟩ := q2
    exact ⟨.non, H2, J.os, J.bare, J.base, J.hok, rfl, q⟩
  | brk =>
    obtain ⟨_, _, _, q⟩ := q2
    exact q.elim
  | cont =>
    obtain ⟨_, _, _, q⟩ := q2
    exact q.elim
theorem okScG {x qual : Str} {params : Arguments} {body : List Stmt} {scope : Scope} {y : Str} {N ps : List Str} {k : Nat} {R : RC} (F : FunD K x qual params body scope [] [] f fd) (S : FnScope (y :: N) ps scope) (hps : ps.length ≤ N.length + 1) (len : ∀ ds P, R ds P → ds.length + 1 = ps.length)
    (hb : ∀ (cdv : Value) (A : Around) (outer : List Env) (s : Shared) (H : Hp), A.guards = some [] → Room k (A.deeper (envOfC qual scope s.heap.objs.size f cdv)) →
      ∃ t a, SSs (cxOf CX0 P w K mg base (y :: N) qual scope f cdv A outer s H E0).nox body t a ∧ ∀ (xs : List Int) (ds : List PyData) (Pd : PyData → Prop), R ds Pd → a (endsD Pd) (startSc (y :: N).length xs ds)) : FnG P w K mg base (k + 1) f fd ps (spSc K R) := by
  refine FnG.of F S (fun vs H Q E h => ?_) (fun cdv A outer s H vs Q E hG hr h => ?_)
  · obtain ⟨F', a, xs, ws, ds, Pd, rfl, _, _, dd, hR, _⟩ := h
    rw [List.length_cons, dd.len]
    exact len ds Pd hR
  · obtain ⟨F', a, xs, ws, ds, Pd, rfl, sf, ha, dd, hR, q⟩ := h
    obtain ⟨t, ar, hp, har⟩ := hb cdv A outer s H hG hr
    refine ⟨t, hp.p.nox, ?_⟩
    have hl := len ds Pd hR
    refine hp.s (fun _ => False) F' H _ _ F' H (endsD Pd) _ (start_sc sf ha dd (by omega)) (har xs ds Pd hR) ⟨fun A1 σ1 F1 H1 h1 r1 s1 => ?_, fun d v A1 σ1 F1 H1 h1 r1 s1 d1 => ?_, fun _ _ _ _ h1 _ _ => h1.elim, fun _ _ _ _ h1 _ _ => h1.elim⟩
    · exact q .none .non F1 H1 h1 ⟨fun a o z => r1.keep a o z id, s1, r1.sub, r1.new⟩ .non
    · exact q d v F1 H1 h1 ⟨fun a o z => r1.keep a o z id, s1, r1.sub, r1.new⟩ d1
/-! ### law -/
def RLaw : RC := fun ds Q => ds = [] ∧ Q (.bool true)
theorem sc_law : FnScope ["_law_script", "_law_net_here", "_law_own", "_law_k", "_law_room_here", "_law_within", "_law_kind", "_law_much", "_law_begin", "_law_end", "_law_found"] ["_law_script"] (defScope (top 97)) := ⟨rfl, rfl, rfl, by decide +kernel, rfl, by decide +kernel, by decide +kernel⟩
theorem ok_law (F : FnT K "law" (top 97) f fd) (B : Bt mg) (g_law_comes : Fn P w K mg base "_law_comes" 6 (spD K RComes)) (g_law_ends : Fn P w K mg base "_law_ends" 5 (spR K REnds)) (g_law_lowest : Fn P w K mg base "_law_lowest" 1 (spD K RLowest)) (g_law_nearness : Fn P w K mg base "_law_nearness" 8 (spD K RNearness)) (g_law_net : Fn P w K mg base "_law_net" 5 (spSc K RNet)) (g_law_room : Fn P w K mg base "_law_room" 1 (spRoom K)) (g_law_take : Fn P w K mg base "_law_take" 1 (spR K RTake)) (g_law_times : Fn P w K mg base "_law_times" 2 (spD K (R2F (· * ·)))) (g_law_told : Fn P w K mg base "_law_told" 9 (spD K RTold)) : FnG P w K mg base 10 f fd ["_law_script"] (spSc K RLaw) := by
  have nd := sc_law.nd
  refine okScG F sc_law (by decide) (fun ds Q h => ?_) (fun cdv A outer s H hG hr => ?_)
  · obtain ⟨rfl, _⟩ := h
    rfl
  have hu := hr.units
  refine ⟨_, _, (sss_cons (ss_set 1 nd (se_callSc 0 g_law_net hr (sa_cons se_int (sa_cons se_int (sa_cons se_int sa_nil)))))
      (sss_cons (ss_set 2 nd (se_repr hG hu B.repr (sv 1)))
      (sss_cons (ss_for rfl PassesOwn.never (si_range2 B.range (sa_cons se_int (sa_cons (se_callB (call_max2 rfl) soc_I2 B.max (sa_cons se_int (sa_cons (se_callB (call_min2 rfl) soc_I2 B.min (sa_cons (se_lenSc 0 B.len) (sa_cons se_int sa_nil))) sa_nil))) sa_nil))) (sg_name 3 nd)
      (sss_cons (ss_setN 4 nd (sn_room 0 g_law_room hr (sv 3)))
      (sss_cons (ss_asg (se_callR 4 g_law_ends hr (sa_cons (sv 1) sa_nil)) (sg_two 8 9 rfl nd (sg_name 8 nd) (sg_name 9 nd)))
      (sss_cons (ss_set 5 nd (se_call g_law_lowest hr (sa_cons (se_add se_int (se_callR 4 g_law_take hr (sa_cons (se_ixL (se_lst (sa_cons se_int (sa_cons (se_pow se_int se_int) sa_nil))) (se_callR 4 g_law_take hr (sa_cons se_int sa_nil))) sa_nil))) (sa_cons (se_add se_int (se_callR 4 g_law_take hr (sa_cons (se_pow se_int se_int) sa_nil))) sa_nil))))
      (sss_cons (ss_set 6 nd (se_call g_law_nearness hr (sa_cons (sv 1) (sa_cons (sv 8) (sa_cons (sv 9) sa_nil)))))
      (sss_cons (ss_if (st_isN (sv 6)) (sss_one (ss_ret se_bl)) sss_nil)
      (sss_one (ss_for rfl PassesOwn.never (si_list (se_lst (sa_cons (sv 5) (sa_cons (se_call g_law_times hr (sa_cons (sv 5) (sa_cons (se_tup (sa_cons se_int (sa_cons se_int sa_nil))) sa_nil))) sa_nil)))) (sg_name 7 nd)
      (sss_cons (ss_set 10 nd (se_call g_law_told hr (sa_cons (sv 1) (sa_cons (sv 8) (sa_cons (sv 9) (sa_cons (sv 7) sa_nil))))))
      (sss_cons (ss_if (sw_and (st_eq (sv 6) se_str) (sw_and1 (st_ne (sv 10) se_str))).t (sss_one (ss_ret se_bl)) sss_nil)
      (sss_one (ss_if (sw_and (st_eq (sv 6) se_str) (sw_and1 (st_not (st_val (se_call g_law_comes hr (sa_cons (sv 1) (sa_cons (sv 8) (sa_cons (sv 9) (sa_cons (sv 7) (sa_cons (sv 10) sa_nil)))))))))).t (sss_one (ss_ret se_bl)) sss_nil))))))))))))
      (sss_one (ss_ret (se_eq (se_repr hG hu B.repr (sv 1)) (sv 2))))))), fun xs ds Q h => ?_⟩
  obtain ⟨rfl, hQ⟩ := h
  refine ⟨⟨_, rfl⟩, ⟨_, rfl⟩, rfl, fun N o => ?_⟩
  obtain ⟨sh1, sh2⟩ := sh_net o
  have lay := lay_net N
  have nodict := PyData.hasDict_of_canLay (netD N) lay.1
  have shz : (netD N).shown.length ≤ sizeLine := Nat.le_trans sh2 (by decide)
  refine ⟨_, rfl, ⟨_, .inr rfl⟩, sh1, nodict, Nat.le_trans lay.2 (by decide), shz, ?_⟩
  refine ⟨_, rfl, _, _, rfl, _, _, rfl, 8, _, rfl, by decide, by decide, ?_, ?_, ?_⟩
  · dsimp only
    split <;> split <;> omega
  · dsimp only
    split <;> split <;> omega
  refine ⟨fun i A => ∃ a3 a4 a5 a6 a7 a8 a9 a10, A = [.sc xs, .fz (netD N), .fz (.str (netD N).shown), a3, a4, a5, a6, a7, a8, a9, a10], ⟨_, _, _, _, _, _, _, _, rfl⟩, ?_, ?_⟩
  · rintro i d A hd ⟨a3, a4, a5, a6, a7, a8, a9, a10, rfl⟩
    obtain ⟨hi, rfl⟩ := rgD_get hd
    have hk : 8 + (i : Int) ≤ 1000 := by
      have hi2 : i < 992 := Nat.lt_of_lt_of_le hi (by dsimp only; split <;> split <;> omega)
      omega
    refine ⟨⟨_, rfl⟩, _, rfl, ⟨_, rfl⟩, 8 + (i : Int), rfl, by omega, hk, fun l s so => ?_⟩
    refine ⟨⟨_, _, _, rfl⟩, _, rfl, _, _, _, rfl, so, N, rfl, o, fun b e hb he l1 s1 so1 => ?_⟩
    refine ⟨_, rfl, _, _, rfl, _, _, rfl, rfl, ?_⟩
    refine ⟨⟨_, _, _, rfl⟩, 10, 6, rfl, rfl, ⟨by decide, by decide, by decide⟩, by show (2 : Nat) ≤ 1000; decide, ⟨_, _, _, rfl⟩, _, _, _, rfl, so1, 2, rfl, by decide, by decide, fun r r0 r1 l2 s2 so2 => ?_⟩
    obtain ⟨m, hm, m0, m1⟩ := pick2 (a := 1) (b := 10 ^ (6 : Int).toNat) r0 r1 (Pp := fun e => 1 ≤ e ∧ e ≤ 1000000) ⟨by decide, by decide⟩ ⟨by decide, by decide⟩
    refine ⟨_, r, _, rfl, rfl, hm, _, _, _, rfl, so2, m, rfl, by omega, by omega, fun t t0 t1 l3 s3 so3 => ?_⟩
    refine ⟨1, t, rfl, rfl, ⟨_, _, _, rfl⟩, 10, 6, rfl, rfl, ⟨by decide, by decide, by decide⟩, _, _, _, rfl, so3, _, rfl, by decide, by decide, fun u u0 u1 l4 s4 so4 => ?_⟩
    have u1 : u < 1000000 := u1
    refine ⟨1, u, rfl, rfl, _, _, rfl, by show 0 < 1 + u; omega, low_cf (by show 0 < 1 + u; omega) (by show 1 + u < 2 ^ 90; omega), ?_⟩
    have hw : WiD (Rat.divInt (1 + t) (1 + u)) := wi_mk (by omega) (by omega) (by omega) (by omega)
    have two : ∀ (i : Nat) (d : PyData), [fr (Rat.divInt (1 + t) (1 + u)), fr (Rat.divInt (1 + t) (1 + u) * (1 / 1000))][i]? = some d → ∃ w2, d = fr w2 ∧ WiOk w2 := fun i d h => by
      rcases i with _ | _ | i
      · exact ⟨_, (Option.some.inj h).symm, hw.ok⟩
      · exact ⟨_, (Option.some.inj h).symm, hw.ok2⟩
      · cases h
    refine ⟨_, rfl, _, rfl, _, rfl, N, b, e, rfl, o, hb, he, fun ws fs x c hx => ?_, fun ws fs x c hx => ?_⟩
    · refine ⟨_, rfl, rfl, _, rfl, ?_⟩
      refine iteF ?_
      refine ⟨_, rfl, _, rfl, by show (2 : Nat) ≤ 1000; decide, _, 1 / 1000, congrArg (fun z => [_, z]) thousandth.symm, sm_wi hw.ok, sm_thousandth, by show (2 : Nat) ≤ 1000; decide, _, rfl, ?_⟩
      refine ⟨fun j A => ∃ a7 a10, A = [.sc xs, .fz (netD N), .fz (.str (netD N).shown), .fz (.int (8 + (i : Int))), .mu true (roomL l4 s4), .fz (fr (Rat.divInt (1 + t) (1 + u))), .fz (.str strN), a7, .fz (vD N.many b), .fz (vD N.many e), a10], ⟨_, _, rfl⟩, ?_, ?_⟩
      · rintro j d A hd ⟨a7, a10, rfl⟩
        obtain ⟨w2, rfl, hw2⟩ := two j d hd
        refine ⟨_, rfl, _, rfl, _, rfl, _, rfl, N, b, e, w2, rfl, o, hb, he, hw2, fun us gs y s m r c' hy run => ?_, fun us gs y c' hy => (near_far c c' hx hy).elim⟩
        refine ⟨_, rfl, _, rfl, _, rfl, ?_⟩
        rw [show decide (strN = ("far" : Str)) = false by decide +kernel]
        refine iteF ?_
        refine iteF ?_
        refine ⟨_, rfl, _, rfl, _, rfl, ?_⟩
        rw [show decide (strN = ("near" : Str)) = true by decide +kernel]
        refine iteT ?_
        refine ⟨_, rfl, _, rfl, _, rfl, _, rfl, _, rfl, N, b, e, w2, s, m, r, rfl, o, run, sm_wi hw2, _, rfl, ?_⟩
        refine iteF ?_
        exact ⟨_, _, rfl⟩
      · rintro A ⟨a7, a10, rfl⟩
        exact ⟨_, _, _, _, _, _, _, _, rfl⟩
    · refine ⟨_, rfl, rfl, _, rfl, ?_⟩
      refine iteF ?_
      refine ⟨_, rfl, _, rfl, by show (2 : Nat) ≤ 1000; decide, _, 1 / 1000, congrArg (fun z => [_, z]) thousandth.symm, sm_wi hw.ok, sm_thousandth, by show (2 : Nat) ≤ 1000; decide, _, rfl, ?_⟩
      refine ⟨fun j A => ∃ a7 a10, A = [.sc xs, .fz (netD N), .fz (.str (netD N).shown), .fz (.int (8 + (i : Int))), .mu true (roomL l4 s4), .fz (fr (Rat.divInt (1 + t) (1 + u))), .fz (.str strF), a7, .fz (vD N.many b), .fz (vD N.many e), a10], ⟨_, _, rfl⟩, ?_, ?_⟩
      · rintro j d A hd ⟨a7, a10, rfl⟩
        obtain ⟨w2, rfl, hw2⟩ := two j d hd
        refine ⟨_, rfl, _, rfl, _, rfl, _, rfl, N, b, e, w2, rfl, o, hb, he, hw2, fun us gs y s m r c' hy run => (near_far c' c hy hx).elim, fun us gs y c' hy => ?_⟩
        refine ⟨_, rfl, _, rfl, _, rfl, ?_⟩
        rw [show decide (strF = ("far" : Str)) = true by decide +kernel]
        refine iteT ?_
        refine ⟨_, rfl, _, rfl, _, rfl, ?_⟩
        rw [show decide (strF = ("far" : Str)) = true by decide +kernel]
        refine iteF ?_
        refine ⟨_, rfl, _, rfl, _, rfl, ?_⟩
        rw [show decide (strF = ("near" : Str)) = false by decide +kernel]
        refine iteF ?_
        refine iteF ?_
        exact ⟨_, _, rfl⟩
      · rintro A ⟨a7, a10, rfl⟩
        exact ⟨_, _, _, _, _, _, _, _, rfl⟩
  · rintro A ⟨a3, a4, a5, a6, a7, a8, a9, a10, rfl⟩
    refine ⟨_, rfl, ⟨_, .inr rfl⟩, sh1, nodict, Nat.le_trans lay.2 (by decide), shz, _, rfl, _, rfl, ?_⟩
    rw [decide_eq_true rfl]
    exact hQ
end
end Tk
end
section
set_option Elab.async false
set_option linter.all false
set_option maxRecDepth 100000
set_option maxHeartbeats 4000000
set_option exponentiation.threshold 10000
namespace Tk
open PySem PySem.Spec PyProof.Rows L2
/-! ### what the facts say; the chain of promises -/
theorem oexB_ok {K : PySem.W.Frag} {C : Addr} (h : oexB K C = true) : ∃ nm q N bs bm sn sub ab col dd k0 k1 k2 k3 k5, K.lookup C = some (excClassObj nm q C N bs bm true sn sub ab col dd k0 k1 k2 k3 k5 "ValueError.__new__") ∧ PySem.HandSPX.refsVE bm = true := by
  unfold oexB at h
  split at h
  · rename_i t dd cd sl ho
    obtain ⟨h1, h⟩ := He.ba h
    split at h
    · rename_i C' bm k0 k1 k2 k3 n k5 hm hs
      obtain ⟨h2, h⟩ := He.ba h
      obtain ⟨h3, h⟩ := He.ba h
      obtain ⟨h4, h⟩ := He.ba h
      obtain ⟨h5, h6⟩ := He.ba h
      obtain ⟨nm, bs, mro, ns, qn, hdct, sn, sub, ab, col, del⟩ := cd
      obtain ⟨l⟩ := sl
      dsimp only at hm hs h4 h5
      have e1 := of_decide_eq_true h1
      have e2 := of_decide_eq_true h2
      have e3 := of_decide_eq_true h3
      subst e1 e2 e3 hm hs h5
      cases del with
      | true => cases h4
      | false => exact ⟨nm, qn, ns, bs, bm, sn, sub, ab, col, dd, k0, k1, k2, k3, k5, ho, h6⟩
    · cases h
  · cases h
theorem iniB_ok {K : PySem.W.Frag} {C : Addr} (h : iniB K C = true) : PySem.W.findCls K (.ref C) (.type "type") "__init__" = some (.val (.builtin "ValueError.__init__")) := by
  unfold iniB at h
  split at h
  · rename_i n e
    rw [e, of_decide_eq_true h]
  · cases h
structure HeX (K : PySem.W.Frag) : Prop where
  n : He.tupB K "NOUGHT" [.int 0, .int 1] = true
  o : He.tupB K "ONE" [.int 1, .int 1] = true
  t : He.tupB K "TWO" [.int 2, .int 1] = true
  h : He.tupB K "HALF" [.int 1, .int 2] = true
  oex : OexC K (He.ga K "Far")
  ty : PySem.W.typeIn K (.ref (He.ga K "TokenError")) = some (.type "type")
  cr : ClX.CRead K (He.ga K "TokenError") (.type "type")
  ini : PySem.W.findCls K (.ref (He.ga K "TokenError")) (.type "type") "__init__" = some (.val (.builtin "ValueError.__init__"))
  xf : XfC K (He.ga K "Far")
  exc : ExcC K (He.ga K "Far")
  k0 : PySem.W.kitOne K (.ref (He.ga K "Far")) (.ref (He.ga K "NoNumber")) = some false
  k1 : PySem.W.kitOne K (.ref (He.ga K "Far")) (.ref (He.ga K "TooMany")) = some false
  k2 : PySem.W.kitOne K (.ref (He.ga K "Far")) (.ref (He.ga K "Dry")) = some false
  k3 : PySem.W.kitOne K (.ref (He.ga K "Far")) (.ref (He.ga K "Far")) = some true
  k4 : PySem.W.kitOne K (.ref (He.ga K "Far")) (.ref (He.ga K "Barred")) = some false
  k5 : PySem.W.kitOne K (.ref (He.ga K "Far")) (.ref (He.ga K "NoText")) = some false
  k6 : PySem.W.kitOne K (.ref (He.ga K "Far")) (.ref (He.ga K "NoRun")) = some false
  k7 : PySem.W.kitOne K (.ref (He.ga K "Far")) (.ref (He.ga K "NoName")) = some false
  kv : PySem.W.kitOne K (.ref (He.ga K "Far")) (.type "ValueError") = some true
  far : PySem.W.findIn K (.ref (He.ga K "Far")) "__init__" = some (some (.ref (He.ma K (He.ga K "Far") "__init__")))
  farT : PySem.W.typeIn K (.ref (He.ma K (He.ga K "Far") "__init__")) = some (.type "function")
theorem hexB_ok {K : PySem.W.Frag} (h : hexB K = true) : HeX K := by
  obtain ⟨h1, h⟩ := He.ba h
  obtain ⟨h2, h3⟩ := He.ba h
  have a : ∀ (i : Nat) {b : Bool}, (hex K)[i]? = some b → b = true := fun i b e => List.all_eq_true.mp h1 b (List.mem_of_getElem? e)
  have b : ∀ (i : Nat) {b : Bool}, (hex2 K)[i]? = some b → b = true := fun i b e => List.all_eq_true.mp h2 b (List.mem_of_getElem? e)
  have d : ∀ (i : Nat) {b : Bool}, (hex3 K)[i]? = some b → b = true := fun i b e => List.all_eq_true.mp h3 b (List.mem_of_getElem? e)
  have x := xfB_ok (b 0 rfl)
  have kt : ∀ {x : Str} {q : Bool}, kitB' K x q = true → PySem.W.kitOne K (.ref (He.ga K "Far")) (.ref (He.ga K x)) = some q := fun e => of_decide_eq_true e
  exact { n := a 0 rfl, o := a 1 rfl, t := a 2 rfl, h := a 3 rfl,
          oex := ⟨oexB_ok (a 4 rfl), He.eqO_ok (a 5 rfl), of_decide_eq_true (a 6 rfl), of_decide_eq_true (a 7 rfl), a 8 rfl⟩,
          ty := of_decide_eq_true (a 9 rfl), cr := ⟨a 10 rfl, He.eqO_ok (a 11 rfl)⟩, ini := iniB_ok (a 12 rfl), xf := x,
          exc := ⟨x.ga, x.gg, x.exC, x.hdC, He.eqO_ok (b 1 rfl), He.eqO_ok (b 2 rfl), of_decide_eq_true (b 3 rfl), of_decide_eq_true (b 4 rfl)⟩,
          k0 := kt (b 5 rfl), k1 := kt (b 6 rfl), k2 := kt (b 7 rfl), k3 := kt (b 8 rfl), k4 := kt (b 9 rfl), k5 := kt (b 10 rfl), k6 := kt (b 11 rfl), k7 := kt (b 12 rfl),
          kv := of_decide_eq_true (b 13 rfl), far := He.eqO_ok (d 0 rfl), farT := of_decide_eq_true (d 1 rfl) }
theorem fr_const {K : PySem.W.Frag} {x : Str} {a b : Int} {q : Rat} (h : He.tupB K x [.int a, .int b] = true) (e : fr q = PyData.tuple [.int a, .int b] := by rfl) (F : Hp) : DD K F (.ref (He.ga K x)) (fr q) := by
  rw [e]
  exact .tup (He.tupB_ok h F) (.cons (.int a) (.cons (.int b) .nil))
theorem fr_half : fr (1 / 2) = PyData.tuple [.int 1, .int 2] := by
  have e1 : ((1 : Rat) / 2).num = 1 := by decide +kernel
  have e2 : ((1 : Rat) / 2).den = 2 := by decide +kernel
  show PyData.tuple [.int ((1 : Rat) / 2).num, .int (((1 : Rat) / 2).den : Int)] = _
  rw [e1, e2]
  rfl
/-! ### the chain of promises -/
theorem chain {P : Program} {w : World} {K : PySem.W.Frag} {h : Heap} {mg : Str → Option Value} {base : Heap} {fdL : FuncData} (X : K.In h) (G : h.Ns mainGlobals mg) (c : He.SaysD hfa hfn K) (E : HeX K) (FL : FnT K "law" (top 97) (He.ga K "law") fdL) : FnG P w K mg base 10 (He.ga K "law") fdL ["_law_script"] (spSc K RLaw) := by
  have B : Bt mg := ⟨He.free_ok X G (c.fact 88 (f := .free "len") rfl), He.free_ok X G (c.fact 89 (f := .free "abs") rfl), He.free_ok X G (c.fact 90 (f := .free "max") rfl), He.free_ok X G (c.fact 91 (f := .free "min") rfl), He.free_ok X G (c.fact 92 (f := .free "int") rfl), He.free_ok X G (c.fact 92 (f := .free "int") rfl), He.free_ok X G (c.fact 93 (f := .free "bool") rfl), He.free_ok X G (c.fact 94 (f := .free "tuple") rfl), He.free_ok X G (c.fact 95 (f := .free "list") rfl), He.free_ok X G (c.fact 95 (f := .free "list") rfl), He.free_ok X G (c.fact 96 (f := .free "sum") rfl), He.free_ok X G (c.fact 97 (f := .free "all") rfl), He.free_ok X G (c.fact 98 (f := .free "sorted") rfl), He.free_ok X G (c.fact 99 (f := .free "isinstance") rfl), He.free_ok X G (c.fact 100 (f := .free "range") rfl), He.free_ok X G (c.fact 101 (f := .free "zip") rfl), He.free_ok X G (c.fact 102 (f := .free "enumerate") rfl), He.free_ok X G (c.fact 103 (f := .free "set") rfl), He.free_ok X G (c.fact 104 (f := .free "dict") rfl), He.free_ok X G (c.fact 105 (f := .free "repr") rfl), He.free_ok X G (c.fact 106 (f := .free "ValueError") rfl)⟩
  have C : Cst K mg (He.ga K "NOUGHT") (He.ga K "ONE") (He.ga K "TWO") (He.ga K "HALF") := ⟨He.glo_ok X G (c.fact 84 (f := .glo "NOUGHT") rfl), He.glo_ok X G (c.fact 85 (f := .glo "ONE") rfl), He.glo_ok X G (c.fact 86 (f := .glo "TWO") rfl), He.glo_ok X G (c.fact 87 (f := .glo "HALF") rfl), fr_const E.n, fr_const E.o, fr_const E.t, fr_const E.h fr_half⟩
  have T : LT K mg (He.ga K "Lines") := ⟨He.cls_ok (c.fact 107 (f := .cls "Lines") rfl), He.noat_ok (c.fact 108 (f := .noat "Lines" "many") rfl), He.noat_ok (c.fact 109 (f := .noat "Lines" "scales") rfl), He.noat_ok (c.fact 110 (f := .noat "Lines" "rows") rfl), He.noat_ok (c.fact 111 (f := .noat "Lines" "base") rfl), He.noat_ok (c.fact 112 (f := .noat "Lines" "by") rfl), He.noat_ok (c.fact 113 (f := .noat "Lines" "costs") rfl), He.glo_ok X G (c.fact 83 (f := .glo "Lines") rfl)⟩
  have TF : FarT K mg (He.ga K "TokenError") (He.ga K "Far") := ⟨He.glo_ok X G (c.fact 74 (f := .glo "TokenError") rfl), He.glo_ok X G (c.fact 81 (f := .glo "Far") rfl), E.oex, He.noat_ok (c.fact 121 (f := .noat "Far" "places") rfl), He.noat_ok (c.fact 122 (f := .noat "Far" "weights") rfl), E.ty, E.cr, E.ini⟩
  have TT : TlT K mg (He.ga K "TokenError") (He.ga K "Far") := ⟨He.glo_ok X G (c.fact 74 (f := .glo "TokenError") rfl), He.exm_ok (c.fact 123 (f := .exm "Far" "TokenError" true) rfl), E.xf, He.noat_ok (c.fact 121 (f := .noat "Far" "places") rfl), He.noat_ok (c.fact 122 (f := .noat "Far" "weights") rfl)⟩
  have TR : RefT K mg (He.ga K "Far") := ⟨E.exc, ⟨_, He.glo_ok X G (c.fact 75 (f := .glo "NoNumber") rfl), E.k0⟩, ⟨_, He.glo_ok X G (c.fact 76 (f := .glo "TooMany") rfl), E.k1⟩, ⟨_, He.glo_ok X G (c.fact 80 (f := .glo "Dry") rfl), E.k2⟩, ⟨_, He.glo_ok X G (c.fact 81 (f := .glo "Far") rfl), E.k3⟩, ⟨_, He.glo_ok X G (c.fact 82 (f := .glo "Barred") rfl), E.k4⟩, ⟨_, He.glo_ok X G (c.fact 77 (f := .glo "NoText") rfl), E.k5⟩, ⟨_, He.glo_ok X G (c.fact 79 (f := .glo "NoRun") rfl), E.k6⟩, ⟨_, He.glo_ok X G (c.fact 78 (f := .glo "NoName") rfl), E.k7⟩, E.kv⟩
  have g_is_whole : Fn P w K mg base "is_whole" 1 (spD K RIsWhole) := by
    obtain ⟨fd, F⟩ := c.def_ 0 (d := dd13) rfl
    exact ⟨_, fd, _, ok_is_whole F B, He.glo_ok X G (c.fact 0 (f := .glo "is_whole") rfl), F.kp, F.bindsN fun _ _ _ _ _ _ us hl => match us, hl with | [_], _ => rfl⟩
  have g_divisor : Fn P w K mg base "divisor" 1 (spD K RDivisor) := by
    obtain ⟨fd, F⟩ := c.def_ 1 (d := dd14) rfl
    exact ⟨_, fd, _, ok_divisor F B, He.glo_ok X G (c.fact 1 (f := .glo "divisor") rfl), F.kp, F.bindsN fun _ _ _ _ _ _ us hl => match us, hl with | [_, _], _ => rfl⟩
  have g_fraction : Fn P w K mg base "fraction" 2 (spD K RFraction) := by
    obtain ⟨fd, F⟩ := c.def_ 2 (d := dd15) rfl
    obtain ⟨ds, vs, b⟩ := F.binds1 (ps := ["top", "bottom"]) 2 1 (List.cons_ne_nil _ _) rfl fun _ _ _ _ _ _ _ us its hu hi => match us, hu, its, hi with | [_, _], _, [_], _ => ⟨_, rfl, rfl⟩
    cases vs
    exact ⟨_, fd, _, ok_fraction F B g_is_whole g_divisor, He.glo_ok X G (c.fact 2 (f := .glo "fraction") rfl), F.kp, b⟩
  have g_fraction1 : Fn1 P w K mg base "fraction" 2 (spD K RFraction) := by
    obtain ⟨fd, F⟩ := c.def_ 2 (d := dd15) rfl
    obtain ⟨ds, vs, b⟩ := F.binds1 (ps := ["top", "bottom"]) 1 0 (List.cons_ne_nil _ _) rfl fun _ _ _ _ _ _ _ us its hu hi => match us, hu, its, hi with | [_], _, [_], _ => ⟨_, rfl, rfl⟩
    cases vs with
    | cons r rr =>
      cases rr
      exact ⟨_, fd, _, _, ok_fraction F B g_is_whole g_divisor, He.glo_ok X G (c.fact 2 (f := .glo "fraction") rfl), F.kp, b, r⟩
  have g_added : Fn P w K mg base "added" 3 (spD K (R2F (· + ·))) := by
    obtain ⟨fd, F⟩ := c.def_ 3 (d := dd16) rfl
    exact ⟨_, fd, _, ok_added F g_fraction, He.glo_ok X G (c.fact 3 (f := .glo "added") rfl), F.kp, F.bindsN fun _ _ _ _ _ _ us hl => match us, hl with | [_, _], _ => rfl⟩
  have g_lessened : Fn P w K mg base "lessened" 3 (spD K (R2F (· - ·))) := by
    obtain ⟨fd, F⟩ := c.def_ 4 (d := dd17) rfl
    exact ⟨_, fd, _, ok_lessened F g_fraction, He.glo_ok X G (c.fact 4 (f := .glo "lessened") rfl), F.kp, F.bindsN fun _ _ _ _ _ _ us hl => match us, hl with | [_, _], _ => rfl⟩
  have g_timed : Fn P w K mg base "timed" 3 (spD K (R2F (· * ·))) := by
    obtain ⟨fd, F⟩ := c.def_ 5 (d := dd18) rfl
    exact ⟨_, fd, _, ok_timed F g_fraction, He.glo_ok X G (c.fact 5 (f := .glo "timed") rfl), F.kp, F.bindsN fun _ _ _ _ _ _ us hl => match us, hl with | [_, _], _ => rfl⟩
  have g_divided : Fn P w K mg base "divided" 3 (spD K RDivided) := by
    obtain ⟨fd, F⟩ := c.def_ 6 (d := dd19) rfl
    exact ⟨_, fd, _, ok_divided F g_fraction, He.glo_ok X G (c.fact 6 (f := .glo "divided") rfl), F.kp, F.bindsN fun _ _ _ _ _ _ us hl => match us, hl with | [_, _], _ => rfl⟩
  have g_is_less : Fn P w K mg base "is_less" 1 (spD K RIsLess) := by
    obtain ⟨fd, F⟩ := c.def_ 7 (d := dd20) rfl
    exact ⟨_, fd, _, ok_is_less F , He.glo_ok X G (c.fact 7 (f := .glo "is_less") rfl), F.kp, F.bindsN fun _ _ _ _ _ _ us hl => match us, hl with | [_, _], _ => rfl⟩
  have g_ceiling : Fn P w K mg base "ceiling" 1 (spD K RCeiling) := by
    obtain ⟨fd, F⟩ := c.def_ 8 (d := dd21) rfl
    exact ⟨_, fd, _, ok_ceiling F , He.glo_ok X G (c.fact 8 (f := .glo "ceiling") rfl), F.kp, F.bindsN fun _ _ _ _ _ _ us hl => match us, hl with | [_], _ => rfl⟩
  have g_weighed : Fn P w K mg base "weighed" 4 (spD K RWeighed) := by
    obtain ⟨fd, F⟩ := c.def_ 9 (d := dd22) rfl
    exact ⟨_, fd, _, ok_weighed F B C g_added g_timed, He.glo_ok X G (c.fact 9 (f := .glo "weighed") rfl), F.kp, F.bindsN fun _ _ _ _ _ _ us hl => match us, hl with | [_, _], _ => rfl⟩
  have g_summed : Fn P w K mg base "summed" 4 (spD K (RV2 (· + ·))) := by
    obtain ⟨fd, F⟩ := c.def_ 10 (d := dd23) rfl
    exact ⟨_, fd, _, ok_summed F B g_added, He.glo_ok X G (c.fact 10 (f := .glo "summed") rfl), F.kp, F.bindsN fun _ _ _ _ _ _ us hl => match us, hl with | [_, _], _ => rfl⟩
  have g_apart : Fn P w K mg base "apart" 4 (spD K (RV2 (· - ·))) := by
    obtain ⟨fd, F⟩ := c.def_ 11 (d := dd24) rfl
    exact ⟨_, fd, _, ok_apart F B g_lessened, He.glo_ok X G (c.fact 11 (f := .glo "apart") rfl), F.kp, F.bindsN fun _ _ _ _ _ _ us hl => match us, hl with | [_, _], _ => rfl⟩
  have g_scaled : Fn P w K mg base "scaled" 4 (spD K RScaled) := by
    obtain ⟨fd, F⟩ := c.def_ 12 (d := dd25) rfl
    exact ⟨_, fd, _, ok_scaled F B g_timed, He.glo_ok X G (c.fact 12 (f := .glo "scaled") rfl), F.kp, F.bindsN fun _ _ _ _ _ _ us hl => match us, hl with | [_, _], _ => rfl⟩
  have g_scale_of : Fn P w K mg base "scale_of" 2 (spD K RScale) := by
    obtain ⟨fd, F⟩ := c.def_ 13 (d := dd27) rfl
    exact ⟨_, fd, _, ok_scale_of F g_divisor, He.glo_ok X G (c.fact 13 (f := .glo "scale_of") rfl), F.kp, F.bindsN fun _ _ _ _ _ _ us hl => match us, hl with | [_], _ => rfl⟩
  have g_change_of : Fn P w K mg base "change_of" 4 (spD K RChangeOf) := by
    obtain ⟨fd, F⟩ := c.def_ 15 (d := dd31) rfl
    exact ⟨_, fd, _, ok_change_of F B C g_lessened, He.glo_ok X G (c.fact 15 (f := .glo "change_of") rfl), F.kp, F.bindsN fun _ _ _ _ _ _ us hl => match us, hl with | [_, _], _ => rfl⟩
  have g_changes_of : Fn P w K mg base "changes_of" 5 (spD K RChangesOf) := by
    obtain ⟨fd, F⟩ := c.def_ 16 (d := dd32) rfl
    exact ⟨_, fd, _, ok_changes_of F B g_change_of, He.glo_ok X G (c.fact 16 (f := .glo "changes_of") rfl), F.kp, F.bindsN fun _ _ _ _ _ _ us hl => match us, hl with | [_], _ => rfl⟩
  have g_change_by : Fn P w K mg base "change_by" 6 (spD K RChangeBy) := by
    obtain ⟨fd, F⟩ := c.def_ 17 (d := dd33) rfl
    exact ⟨_, fd, _, ok_change_by F B C g_added g_changes_of g_timed, He.glo_ok X G (c.fact 17 (f := .glo "change_by") rfl), F.kp, F.bindsN fun _ _ _ _ _ _ us hl => match us, hl with | [_, _], _ => rfl⟩
  have g_done : Fn P w K mg base "done" 4 (spD K RDone) := by
    obtain ⟨fd, F⟩ := c.def_ 18 (d := dd34) rfl
    exact ⟨_, fd, _, ok_done F B g_added g_is_less g_lessened g_timed, He.glo_ok X G (c.fact 18 (f := .glo "done") rfl), F.kp, F.bindsN fun _ _ _ _ _ _ us hl => match us, hl with | [_, _, _, _], _ => rfl⟩
  have g_most_of : Fn P w K mg base "most_of" 4 (spD K RMostOf) := by
    obtain ⟨fd, F⟩ := c.def_ 19 (d := dd35) rfl
    exact ⟨_, fd, _, ok_most_of F g_divided g_is_less, He.glo_ok X G (c.fact 19 (f := .glo "most_of") rfl), F.kp, F.bindsN fun _ _ _ _ _ _ us hl => match us, hl with | [_, _, _], _ => rfl⟩
  have g_wet_in : Fn P w K mg base "wet_in" 1 (spD K RWetIn) := by
    obtain ⟨fd, F⟩ := c.def_ 20 (d := dd36) rfl
    exact ⟨_, fd, _, ok_wet_in F B, He.glo_ok X G (c.fact 20 (f := .glo "wet_in") rfl), F.kp, F.bindsN fun _ _ _ _ _ _ us hl => match us, hl with | [_], _ => rfl⟩
  have g_takes_from : Fn P w K mg base "takes_from" 1 (spD K (RSideOf Prod.fst)) := by
    obtain ⟨fd, F⟩ := c.def_ 21 (d := dd37) rfl
    exact ⟨_, fd, _, ok_takes_from F , He.glo_ok X G (c.fact 21 (f := .glo "takes_from") rfl), F.kp, F.bindsN fun _ _ _ _ _ _ us hl => match us, hl with | [_, _], _ => rfl⟩
  have g_gives_to : Fn P w K mg base "gives_to" 1 (spD K (RSideOf Prod.snd)) := by
    obtain ⟨fd, F⟩ := c.def_ 22 (d := dd38) rfl
    exact ⟨_, fd, _, ok_gives_to F , He.glo_ok X G (c.fact 22 (f := .glo "gives_to") rfl), F.kp, F.bindsN fun _ _ _ _ _ _ us hl => match us, hl with | [_, _], _ => rfl⟩
  have g_change_of_steps : Fn P w K mg base "change_of_steps" 4 (spD K RChangeOfSteps) := by
    obtain ⟨fd, F⟩ := c.def_ 23 (d := dd40) rfl
    exact ⟨_, fd, _, ok_change_of_steps F C g_added g_lessened g_timed, He.glo_ok X G (c.fact 23 (f := .glo "change_of_steps") rfl), F.kp, F.bindsN fun _ _ _ _ _ _ us hl => match us, hl with | [_, _], _ => rfl⟩
  have g_first_lack : Fn P w K mg base "first_lack" 4 (spD K RFirstLack) := by
    obtain ⟨fd, F⟩ := c.def_ 24 (d := dd41) rfl
    exact ⟨_, fd, _, ok_first_lack F g_divided g_is_less g_lessened, He.glo_ok X G (c.fact 24 (f := .glo "first_lack") rfl), F.kp, F.bindsN fun _ _ _ _ _ _ us hl => match us, hl with | [_, _, _, _], _ => rfl⟩
  have g_lacks_in : Fn P w K mg base "lacks_in" 5 (spD K RLacksIn) := by
    obtain ⟨fd, F⟩ := c.def_ 25 (d := dd42) rfl
    exact ⟨_, fd, _, ok_lacks_in F B g_added g_change_of_steps g_first_lack g_lessened g_timed, He.glo_ok X G (c.fact 25 (f := .glo "lacks_in") rfl), F.kp, F.bindsN fun _ _ _ _ _ _ us hl => match us, hl with | [_, _, _], _ => rfl⟩
  have g_walk : Fn P w K mg base "walk" 6 (spD K RWalk) := by
    obtain ⟨fd, F⟩ := c.def_ 26 (d := dd43) rfl
    exact ⟨_, fd, _, ok_walk F B g_fraction1 g_added g_change_of_steps g_lacks_in g_timed, He.glo_ok X G (c.fact 26 (f := .glo "walk") rfl), F.kp, F.bindsN fun _ _ _ _ _ _ us hl => match us, hl with | [_, _, _], _ => rfl⟩
  have g_times : Fn P w K mg base "times" 4 (spD K RTimes) := by
    obtain ⟨fd, F⟩ := c.def_ 27 (d := dd45) rfl
    exact ⟨_, fd, _, ok_times F g_timed, He.glo_ok X G (c.fact 27 (f := .glo "times") rfl), F.kp, F.bindsN fun _ _ _ _ _ _ us hl => match us, hl with | [_, _], _ => rfl⟩
  have g_in_turn : Fn P w K mg base "in_turn" 2 (spD K RInTurn) := by
    obtain ⟨fd, F⟩ := c.def_ 28 (d := dd48) rfl
    exact ⟨_, fd, _, ok_in_turn F B g_gives_to g_takes_from g_wet_in, He.glo_ok X G (c.fact 28 (f := .glo "in_turn") rfl), F.kp, F.bindsN fun _ _ _ _ _ _ us hl => match us, hl with | [_, _, _], _ => rfl⟩
  have g_can_be : Fn P w K mg base "can_be" 3 (spD K RCanBe) := by
    obtain ⟨fd, F⟩ := c.def_ 29 (d := dd49) rfl
    exact ⟨_, fd, _, ok_can_be F B g_in_turn, He.glo_ok X G (c.fact 29 (f := .glo "can_be") rfl), F.kp, F.bindsN fun _ _ _ _ _ _ us hl => match us, hl with | [_, _, _], _ => rfl⟩
  have g_wetting : Fn P w K mg base "wetting" 5 (spD K RWetting) := by
    obtain ⟨fd, F⟩ := c.def_ 30 (d := dd50) rfl
    exact ⟨_, fd, _, ok_wetting F B C g_divided g_done g_in_turn g_is_less g_most_of, He.glo_ok X G (c.fact 30 (f := .glo "wetting") rfl), F.kp, F.bindsN fun _ _ _ _ _ _ us hl => match us, hl with | [_, _, _, _], _ => rfl⟩
  have g_done_deeds : Fn P w K mg base "done_deeds" 1 (spD K RDoneDeeds) := by
    obtain ⟨fd, F⟩ := c.def_ 32 (d := dd53) rfl
    exact ⟨_, fd, _, ok_done_deeds F B, He.glo_ok X G (c.fact 32 (f := .glo "done_deeds") rfl), F.kp, F.bindsN fun _ _ _ _ _ _ us hl => match us, hl with | [_], _ => rfl⟩
  have g_smaller : Fn P w K mg base "smaller" 2 (spD K RSmaller) := by
    obtain ⟨fd, F⟩ := c.def_ 37 (d := dd60) rfl
    exact ⟨_, fd, _, ok_smaller F g_is_less, He.glo_ok X G (c.fact 37 (f := .glo "smaller") rfl), F.kp, F.bindsN fun _ _ _ _ _ _ us hl => match us, hl with | [_, _], _ => rfl⟩
  have g_rounds_for : Fn P w K mg base "rounds_for" 5 (spD K RRounds) := by
    obtain ⟨fd, F⟩ := c.def_ 33 (d := dd54) rfl
    exact ⟨_, fd, _, ok_rounds_for F B g_ceiling g_divided g_is_less g_weighed, He.glo_ok X G (c.fact 33 (f := .glo "rounds_for") rfl), F.kp, F.bindsN fun _ _ _ _ _ _ us hl => match us, hl with | [_, _, _, _], _ => rfl⟩
  have g_middle_turn : Fn P w K mg base "middle_turn" 6 (spD K RMiddle) := by
    obtain ⟨fd, F⟩ := c.def_ 34 (d := dd55) rfl
    exact ⟨_, fd, _, ok_middle_turn F B g_done_deeds g_fraction g_rounds_for g_timed, He.glo_ok X G (c.fact 34 (f := .glo "middle_turn") rfl), F.kp, F.bindsN fun _ _ _ _ _ _ us hl => match us, hl with | [_, _, _, _], _ => rfl⟩
  have g_share_of_way : Fn P w K mg base "share_of_way" 4 (spD K RShare) := by
    obtain ⟨fd, F⟩ := c.def_ 36 (d := dd59) rfl
    exact ⟨_, fd, _, ok_share_of_way F B C g_divided g_lessened g_smaller, He.glo_ok X G (c.fact 36 (f := .glo "share_of_way") rfl), F.kp, F.bindsN fun _ _ _ _ _ _ us hl => match us, hl with | [_, _, _], _ => rfl⟩
  have g_left_new : Fn P w K mg base "left_out" 1 (spDn K RLeftOut) := by
    obtain ⟨fd, F⟩ := c.def_ 31 (d := dd52) rfl
    exact ⟨_, fd, _, ok_left_new F B, He.glo_ok X G (c.fact 31 (f := .glo "left_out") rfl), F.kp, F.bindsN fun _ _ _ _ _ _ us hl => match us, hl with | [_, _], _ => rfl⟩
  have MC : C8.Met P w K mg base 1 (He.ga K "Lines") "coming" (spO K (He.ga K "Lines") RComing) [] := by
    obtain ⟨fd, F⟩ := c.def_ 75 (d := dm1) rfl
    exact ⟨_, fd, _, [], T.cl, He.meth_ok (c.fact 114 (f := .meth "Lines" "coming") rfl), ok_coming F T B, F.bindsN fun _ _ _ _ _ _ us hl => match us, hl with | [_], _ => rfl, .nil⟩
  have MG : C8.Met P w K mg base 1 (He.ga K "Lines") "going" (spO K (He.ga K "Lines") RGoing) [] := by
    obtain ⟨fd, F⟩ := c.def_ 76 (d := dm2) rfl
    exact ⟨_, fd, _, [], T.cl, He.meth_ok (c.fact 115 (f := .meth "Lines" "going") rfl), ok_going F T B, F.bindsN fun _ _ _ _ _ _ us hl => match us, hl with | [_, _], _ => rfl, .nil⟩
  have ME : C8.Met P w K mg base 1 (He.ga K "Lines") "exchanged" (spO K (He.ga K "Lines") RExchanged) [] := by
    obtain ⟨fd, F⟩ := c.def_ 77 (d := dm3) rfl
    exact ⟨_, fd, _, [], T.cl, He.meth_ok (c.fact 116 (f := .meth "Lines" "exchanged") rfl), ok_exchanged F T B, F.bindsN fun _ _ _ _ _ _ us hl => match us, hl with | [_, _, _, _], _ => rfl, .nil⟩
  have MX : C8.Met P w K mg base 2 (He.ga K "Lines") "exchange" (spX K (He.ga K "Lines")) [] := by
    obtain ⟨fd, F⟩ := c.def_ 78 (d := dm4) rfl
    exact ⟨_, fd, _, [], T.cl, He.meth_ok (c.fact 117 (f := .meth "Lines" "exchange") rfl), ok_exchange F T B ME, F.bindsN fun _ _ _ _ _ _ us hl => match us, hl with | [_, _, _], _ => rfl, .nil⟩
  have MS : C8.Met P w K mg base 3 (He.ga K "Lines") "shares_told" (spO K (He.ga K "Lines") RSharesTold) [] := by
    obtain ⟨fd, F⟩ := c.def_ 79 (d := dm5) rfl
    exact ⟨_, fd, _, [], T.cl, He.meth_ok (c.fact 118 (f := .meth "Lines" "shares_told") rfl), ok_shares_told F T B C g_fraction, F.bindsN fun _ _ _ _ _ _ us hl => match us, hl with | [_], _ => rfl, .nil⟩
  have MW : C8.Met P w K mg base 3 (He.ga K "Lines") "weights_told" (spOn K (He.ga K "Lines") RWeightsTold) [] := by
    obtain ⟨fd, F⟩ := c.def_ 80 (d := dm6) rfl
    exact ⟨_, fd, _, [], T.cl, He.meth_ok (c.fact 119 (f := .meth "Lines" "weights_told") rfl), ok_weights_new F T B g_fraction, F.bindsN fun _ _ _ _ _ _ us hl => match us, hl with | [_], _ => rfl, .nil⟩
  have MI : C8.Mak P w K mg base 3 "Lines" (He.ga K "Lines") (spI K (He.ga K "Lines")) [] := by
    obtain ⟨fd, F⟩ := c.def_ 74 (d := dm0) rfl
    exact ⟨_, fd, _, [], He.mkr_ok (c.fact 120 (f := .mkr "Lines") rfl), ok_init F T B g_scale_of, He.glo_ok X G (c.fact 83 (f := .glo "Lines") rfl), F.bindsN fun _ _ _ _ _ _ us hl => match us, hl with | [_, _, _], _ => rfl, .nil⟩
  have g_balance : Fn P w K mg base "balance" 6 (spBal K) := by
    obtain ⟨fd, F⟩ := c.def_ 14 (d := dd29) rfl
    exact ⟨_, fd, _, ok_balance F T B MI MC MG MX MS MW, He.glo_ok X G (c.fact 14 (f := .glo "balance") rfl), F.kp, F.bindsN fun _ _ _ _ _ _ us hl => match us, hl with | [_, _], _ => rfl⟩
  have g_near : Fn P w K mg base "near" 7 (spNear K) := by
    obtain ⟨fd, F⟩ := c.def_ 35 (d := dd58) rfl
    exact ⟨_, fd, _, ok_near F B C g_can_be g_change_of g_apart g_balance g_left_new, He.glo_ok X G (c.fact 35 (f := .glo "near") rfl), F.kp, F.bindsN fun _ _ _ _ _ _ us hl => match us, hl with | [_, _, _], _ => rfl⟩
  have g_nearR := near_RNear g_near
  have GAA : GA P w K mg base := ⟨g_near, g_wetting, g_walk, g_share_of_way, g_times, g_lessened, g_scaled, g_summed, g_change_by, g_middle_turn⟩
  obtain ⟨fdI, FI⟩ := c.def_ 81 (d := df0) rfl
  obtain ⟨fdA, FA⟩ := c.def_ 38 (d := dd61) rfl
  have okF := ok_far (P := P) (w := w) (base := base) FI TF
  have bF : Binds K fdI ["self", "places", "weights"] [] := FI.bindsN fun _ _ _ _ _ _ us hl => match us, hl with | [_, _, _], _ => rfl
  have okA := ok_approach FA B C GAA TF E.far E.farT okF bF
  have bA : Binds K fdA ["net", "begin", "end", "within"] [] := FA.bindsN fun _ _ _ _ _ _ us hl => match us, hl with | [_, _, _, _], _ => rfl
  have g_law_lowest : Fn P w K mg base "_law_lowest" 1 (spD K RLowest) := by
    obtain ⟨fd, F⟩ := c.def_ 41 (d := dd65) rfl
    exact ⟨_, fd, _, ok_law_lowest F B, He.glo_ok X G (c.fact 41 (f := .glo "_law_lowest") rfl), F.kp, F.bindsN fun _ _ _ _ _ _ us hl => match us, hl with | [_, _], _ => rfl⟩
  have g_law_sum : Fn P w K mg base "_law_sum" 2 (spD K (R2F (· + ·))) := by
    obtain ⟨fd, F⟩ := c.def_ 42 (d := dd66) rfl
    exact ⟨_, fd, _, ok_law_sum F g_law_lowest, He.glo_ok X G (c.fact 42 (f := .glo "_law_sum") rfl), F.kp, F.bindsN fun _ _ _ _ _ _ us hl => match us, hl with | [_, _], _ => rfl⟩
  have g_law_times : Fn P w K mg base "_law_times" 2 (spD K (R2F (· * ·))) := by
    obtain ⟨fd, F⟩ := c.def_ 43 (d := dd67) rfl
    exact ⟨_, fd, _, ok_law_times F g_law_lowest, He.glo_ok X G (c.fact 43 (f := .glo "_law_times") rfl), F.kp, F.bindsN fun _ _ _ _ _ _ us hl => match us, hl with | [_, _], _ => rfl⟩
  have g_law_less : Fn P w K mg base "_law_less" 1 (spD K RIsLess) := by
    obtain ⟨fd, F⟩ := c.def_ 44 (d := dd68) rfl
    exact ⟨_, fd, _, ok_law_less F , He.glo_ok X G (c.fact 44 (f := .glo "_law_less") rfl), F.kp, F.bindsN fun _ _ _ _ _ _ us hl => match us, hl with | [_, _], _ => rfl⟩
  have g_law_whole : Fn P w K mg base "_law_whole" 1 (spD K RWholeL) := by
    obtain ⟨fd, F⟩ := c.def_ 45 (d := dd69) rfl
    exact ⟨_, fd, _, ok_law_whole F B, He.glo_ok X G (c.fact 45 (f := .glo "_law_whole") rfl), F.kp, F.bindsN fun _ _ _ _ _ _ us hl => match us, hl with | [_], _ => rfl⟩
  have g_law_is_fraction : Fn P w K mg base "_law_is_fraction" 2 (spD K RIsFrac) := by
    obtain ⟨fd, F⟩ := c.def_ 46 (d := dd70) rfl
    exact ⟨_, fd, _, ok_law_is_fraction F B g_law_lowest g_law_whole, He.glo_ok X G (c.fact 46 (f := .glo "_law_is_fraction") rfl), F.kp, F.bindsN fun _ _ _ _ _ _ us hl => match us, hl with | [_], _ => rfl⟩
  have g_law_lack : Fn P w K mg base "_law_lack" 3 (spD K RLack) := by
    obtain ⟨fd, F⟩ := c.def_ 51 (d := dd75) rfl
    exact ⟨_, fd, _, ok_law_lack F g_law_less g_law_times, He.glo_ok X G (c.fact 51 (f := .glo "_law_lack") rfl), F.kp, F.bindsN fun _ _ _ _ _ _ us hl => match us, hl with | [_, _, _], _ => rfl⟩
  have g_law_behind : Fn P w K mg base "_law_behind" 3 (spD K RBehind) := by
    obtain ⟨fd, F⟩ := c.def_ 52 (d := dd76) rfl
    exact ⟨_, fd, _, ok_law_behind F B g_law_sum g_law_times, He.glo_ok X G (c.fact 52 (f := .glo "_law_behind") rfl), F.kp, F.bindsN fun _ _ _ _ _ _ us hl => match us, hl with | [_, _, _], _ => rfl⟩
  have g_law_gain : Fn P w K mg base "_law_gain" 4 (spD K RGain) := by
    obtain ⟨fd, F⟩ := c.def_ 54 (d := dd78) rfl
    exact ⟨_, fd, _, ok_law_gain F g_law_behind, He.glo_ok X G (c.fact 54 (f := .glo "_law_gain") rfl), F.kp, F.bindsN fun _ _ _ _ _ _ us hl => match us, hl with | [_, _], _ => rfl⟩
  have g_law_after : Fn P w K mg base "_law_after" 3 (spD K RAfter) := by
    obtain ⟨fd, F⟩ := c.def_ 55 (d := dd79) rfl
    exact ⟨_, fd, _, ok_law_after F B g_law_sum g_law_times, He.glo_ok X G (c.fact 55 (f := .glo "_law_after") rfl), F.kp, F.bindsN fun _ _ _ _ _ _ us hl => match us, hl with | [_, _, _], _ => rfl⟩
  have g_law_can : Fn P w K mg base "_law_can" 4 (spD K RCanL) := by
    obtain ⟨fd, F⟩ := c.def_ 56 (d := dd80) rfl
    exact ⟨_, fd, _, ok_law_can F B g_law_behind g_law_lack, He.glo_ok X G (c.fact 56 (f := .glo "_law_can") rfl), F.kp, F.bindsN fun _ _ _ _ _ _ us hl => match us, hl with | [_, _, _], _ => rfl⟩
  have g_law_is_turn : Fn P w K mg base "_law_is_turn" 3 (spD K RIsTurn) := by
    obtain ⟨fd, F⟩ := c.def_ 57 (d := dd81) rfl
    exact ⟨_, fd, _, ok_law_is_turn F B g_law_is_fraction g_law_whole, He.glo_ok X G (c.fact 57 (f := .glo "_law_is_turn") rfl), F.kp, F.bindsN fun _ _ _ _ _ _ us hl => match us, hl with | [_, _], _ => rfl⟩
  have g_law_end_of : Fn P w K mg base "_law_end_of" 5 (spD K REndOf) := by
    obtain ⟨fd, F⟩ := c.def_ 58 (d := dd82) rfl
    exact ⟨_, fd, _, ok_law_end_of F B g_law_after g_law_can g_law_gain g_law_is_turn, He.glo_ok X G (c.fact 58 (f := .glo "_law_end_of") rfl), F.kp, F.bindsN fun _ _ _ _ _ _ us hl => match us, hl with | [_, _, _], _ => rfl⟩
  have g_law_weighed : Fn P w K mg base "_law_weighed" 3 (spD K RWeighed) := by
    obtain ⟨fd, F⟩ := c.def_ 60 (d := dd84) rfl
    exact ⟨_, fd, _, ok_law_weighed F B g_law_sum g_law_times, He.glo_ok X G (c.fact 60 (f := .glo "_law_weighed") rfl), F.kp, F.bindsN fun _ _ _ _ _ _ us hl => match us, hl with | [_, _], _ => rfl⟩
  have g_law_gap : Fn P w K mg base "_law_gap" 3 (spD K RGap) := by
    obtain ⟨fd, F⟩ := c.def_ 62 (d := dd86) rfl
    exact ⟨_, fd, _, ok_law_gap F B g_law_sum, He.glo_ok X G (c.fact 62 (f := .glo "_law_gap") rfl), F.kp, F.bindsN fun _ _ _ _ _ _ us hl => match us, hl with | [_, _], _ => rfl⟩
  have g_law_change : Fn P w K mg base "_law_change" 3 (spD K RChangeOf) := by
    obtain ⟨fd, F⟩ := c.def_ 61 (d := dd85) rfl
    exact ⟨_, fd, _, ok_law_change F g_law_sum, He.glo_ok X G (c.fact 61 (f := .glo "_law_change") rfl), F.kp, F.bindsN fun _ _ _ _ _ _ us hl => match us, hl with | [_, _], _ => rfl⟩
  have g_law_end_by : Fn P w K mg base "_law_end_by" 4 (spD K REndBy) := by
    obtain ⟨fd, F⟩ := c.def_ 65 (d := dd89) rfl
    exact ⟨_, fd, _, ok_law_end_by F B g_law_behind, He.glo_ok X G (c.fact 65 (f := .glo "_law_end_by") rfl), F.kp, F.bindsN fun _ _ _ _ _ _ us hl => match us, hl with | [_, _, _], _ => rfl⟩
  have g_law_is_short : Fn P w K mg base "_law_is_short" 1 (spD K RIsShort) := by
    obtain ⟨fd, F⟩ := c.def_ 59 (d := dd83) rfl
    exact ⟨_, fd, _, ok_law_is_short F B, He.glo_ok X G (c.fact 59 (f := .glo "_law_is_short") rfl), F.kp, F.bindsN fun _ _ _ _ _ _ us hl => match us, hl with | [_], _ => rfl⟩
  have g_law_comes : Fn P w K mg base "_law_comes" 6 (spD K RComes) := by
    obtain ⟨fd, F⟩ := c.def_ 72 (d := dd96) rfl
    exact ⟨_, fd, _, ok_law_comes F B g_law_end_of g_law_is_short g_law_less g_law_sum, He.glo_ok X G (c.fact 72 (f := .glo "_law_comes") rfl), F.kp, F.bindsN fun _ _ _ _ _ _ us hl => match us, hl with | [_, _, _, _, _], _ => rfl⟩
  have g_law_wet : Fn P w K mg base "_law_wet" 1 (spD K RWetL) := by
    obtain ⟨fd, F⟩ := c.def_ 64 (d := dd88) rfl
    exact ⟨_, fd, _, ok_law_wet F B, He.glo_ok X G (c.fact 64 (f := .glo "_law_wet") rfl), F.kp, F.bindsN fun _ _ _ _ _ _ us hl => match us, hl with | [_, _, _], _ => rfl⟩
  have g_law_is_near : Fn P w K mg base "_law_is_near" 5 (spD K RIsNear) := by
    obtain ⟨fd, F⟩ := c.def_ 67 (d := dd91) rfl
    exact ⟨_, fd, _, ok_law_is_near F B g_law_end_by g_law_is_fraction g_law_wet, He.glo_ok X G (c.fact 67 (f := .glo "_law_is_near") rfl), F.kp, F.bindsN fun _ _ _ _ _ _ us hl => match us, hl with | [_, _, _, _], _ => rfl⟩
  have g_law_by_places : Fn P w K mg base "_law_by_places" 2 (spD K RByPlaces) := by
    obtain ⟨fd, F⟩ := c.def_ 63 (d := dd87) rfl
    exact ⟨_, fd, _, ok_law_by_places F B g_law_whole, He.glo_ok X G (c.fact 63 (f := .glo "_law_by_places") rfl), F.kp, F.bindsN fun _ _ _ _ _ _ us hl => match us, hl with | [_, _, _, _, _], _ => rfl⟩
  have g_law_is_far : Fn P w K mg base "_law_is_far" 4 (spD K RIsFar) := by
    obtain ⟨fd, F⟩ := c.def_ 66 (d := dd90) rfl
    exact ⟨_, fd, _, ok_law_is_far F B g_law_by_places g_law_change g_law_gap g_law_is_fraction g_law_weighed, He.glo_ok X G (c.fact 66 (f := .glo "_law_is_far") rfl), F.kp, F.bindsN fun _ _ _ _ _ _ us hl => match us, hl with | [_, _, _, _, _], _ => rfl⟩
  have g_law_nearness : Fn P w K mg base "_law_nearness" 8 (spD K RNearness) := by
    obtain ⟨fd, F⟩ := c.def_ 68 (d := dd92) rfl
    exact ⟨_, fd, _, ok_law_nearness F B g_law_is_far g_law_is_near g_nearR, He.glo_ok X G (c.fact 68 (f := .glo "_law_nearness") rfl), F.kp, F.bindsN fun _ _ _ _ _ _ us hl => match us, hl with | [_, _, _], _ => rfl⟩
  have g_law_room : Fn P w K mg base "_law_room" 1 (spRoom K) := by
    obtain ⟨fd, F⟩ := c.def_ 39 (d := dd63) rfl
    exact ⟨_, fd, _, ok_law_room F B, He.glo_ok X G (c.fact 39 (f := .glo "_law_room") rfl), F.kp, F.bindsN fun _ _ _ _ _ _ us hl => match us, hl with | [_, _], _ => rfl⟩
  have g_law_take : Fn P w K mg base "_law_take" 1 (spR K RTake) := by
    obtain ⟨fd, F⟩ := c.def_ 40 (d := dd64) rfl
    exact ⟨_, fd, _, ok_law_take F , He.glo_ok X G (c.fact 40 (f := .glo "_law_take") rfl), F.kp, F.bindsN fun _ _ _ _ _ _ us hl => match us, hl with | [_, _], _ => rfl⟩
  have g_law_amount : Fn P w K mg base "_law_amount" 2 (spR K RAmount) := by
    obtain ⟨fd, F⟩ := c.def_ 48 (d := dd72) rfl
    exact ⟨_, fd, _, ok_law_amount F g_law_lowest g_law_take, He.glo_ok X G (c.fact 48 (f := .glo "_law_amount") rfl), F.kp, F.bindsN fun _ _ _ _ _ _ us hl => match us, hl with | [_], _ => rfl⟩
  have g_law_rich : Fn P w K mg base "_law_rich" 3 (spR K RRich) := by
    obtain ⟨fd, F⟩ := c.def_ 53 (d := dd77) rfl
    exact ⟨_, fd, _, ok_law_rich F B g_law_amount g_law_lowest g_law_take, He.glo_ok X G (c.fact 53 (f := .glo "_law_rich") rfl), F.kp, F.bindsN fun _ _ _ _ _ _ us hl => match us, hl with | [_, _], _ => rfl⟩
  have g_law_sumP : Fn P w K mg base "_law_sum" 2 (spD K RSumP) := by
    obtain ⟨fd, F⟩ := c.def_ 42 (d := dd66) rfl
    exact ⟨_, fd, _, ok_law_sumP F g_law_lowest, He.glo_ok X G (c.fact 42 (f := .glo "_law_sum") rfl), F.kp, F.bindsN fun _ _ _ _ _ _ us hl => match us, hl with | [_, _], _ => rfl⟩
  have g_law_ends : Fn P w K mg base "_law_ends" 5 (spR K REnds) := by
    obtain ⟨fd, F⟩ := c.def_ 70 (d := dd94) rfl
    exact ⟨_, fd, _, ok_law_ends F B g_law_end_by g_law_lowest g_law_rich g_law_sumP g_law_take, He.glo_ok X G (c.fact 70 (f := .glo "_law_ends") rfl), F.kp, F.bindsN fun _ _ _ _ _ _ us hl => match us, hl with | [_, _], _ => rfl⟩
  have g_law_side : Fn P w K mg base "_law_side" 3 (spR K RSideL) := by
    obtain ⟨fd, F⟩ := c.def_ 49 (d := dd73) rfl
    exact ⟨_, fd, _, ok_law_side F B g_law_take g_law_amount, He.glo_ok X G (c.fact 49 (f := .glo "_law_side") rfl), F.kp, F.bindsN fun _ _ _ _ _ _ us hl => match us, hl with | [_, _, _], _ => rfl⟩
  have g_law_deed : Fn P w K mg base "_law_deed" 4 (spR K RDeedL) := by
    obtain ⟨fd, F⟩ := c.def_ 50 (d := dd74) rfl
    exact ⟨_, fd, _, ok_law_deed F g_law_side, He.glo_ok X G (c.fact 50 (f := .glo "_law_deed") rfl), F.kp, F.bindsN fun _ _ _ _ _ _ us hl => match us, hl with | [_, _, _], _ => rfl⟩
  have g_law_net : Fn P w K mg base "_law_net" 5 (spSc K RNet) := by
    obtain ⟨fd, F⟩ := c.def_ 69 (d := dd93) rfl
    exact ⟨_, fd, _, ok_law_net F B g_law_deed g_law_room g_law_take, He.glo_ok X G (c.fact 69 (f := .glo "_law_net") rfl), F.kp, F.bindsN fun _ _ _ _ _ _ us hl => match us, hl with | [_, _, _, _], _ => rfl⟩
  have g_law_is_refusal : Fn P w K mg base "_law_is_refusal" 1 (spEx K (He.ga K "Far") RRefusal) := by
    obtain ⟨fd, F⟩ := c.def_ 47 (d := dd71) rfl
    exact ⟨_, fd, _, ok_law_is_refusal F B TR, He.glo_ok X G (c.fact 47 (f := .glo "_law_is_refusal") rfl), F.kp, F.bindsN fun _ _ _ _ _ _ us hl => match us, hl with | [_, _], _ => rfl⟩
  have g_law_told : Fn P w K mg base "_law_told" 9 (spD K RTold) := by
    obtain ⟨fd, F⟩ := c.def_ 71 (d := dd95) rfl
    exact ⟨_, fd, _, ok_law_told F B TT okA (He.glo_ok X G (c.fact 38 (f := .glo "approach") rfl)) FA.kp bA g_law_is_refusal g_law_is_far, He.glo_ok X G (c.fact 71 (f := .glo "_law_told") rfl), F.kp, F.bindsN fun _ _ _ _ _ _ us hl => match us, hl with | [_, _, _, _], _ => rfl⟩
  exact ok_law FL B g_law_comes g_law_ends g_law_lowest g_law_nearness g_law_net g_law_room g_law_take g_law_times g_law_told
end Tk
end
section
set_option Elab.async false
set_option linter.all false
set_option maxRecDepth 100000
set_option maxHeartbeats 0
namespace Tk
open PySem PySem.Spec PyProof.Rows L2
/-! ### the law's end, from an FnG -/
/-- all that a shadow may hold is the script -/
def OnlyAt (H : Hp) (a : Addr) (o : Obj) (ls : List V) : Prop := ∀ b u, H b = some u → b = a ∧ u = .frz o (.lst ls)
section
variable {P : Program} {w : World} {K : PySem.W.Frag} {mg mb : Str → Option Value} {k : Nat} {fa a : Addr} {fd : FuncData} {y : Str} {s : Shared} {its : Array Value} {xs : List Int}
theorem go_law {o : Obj} {ep : Nat} {H : Hp} (KX : K.In s.heap) (gl : s.heap.Ns mainGlobals mg) (bn : s.heap.Ns builtinsNs mb) (bb : ∀ z : Str, z ≠ "__name__" → mb z = bootBuiltins z) (few : s.heap.NoLimit) (gs : s.gens = #[])
    (at_a : s.heap.get? a = some o) (od : o.data = .seq its ep) (room : Room k callerA)
    (only : OnlyAt H a o (xs.map V.int)) (out : ∀ u, H a = some u → K.lookup a = none) (sq : SqL K H a (xs.map V.int)) (ok : HOk P w H s.heap)
    (G : ∀ base : Heap, K.In base → base.Ns mainGlobals mg → FnG P w K mg base k fa fd [y] (spSc K RLaw)) (bind : ∀ (s : Shared) (u : Value), BindsTo s fd ⟨[u], []⟩ [(y, u)]) :
    codeAny (model P w) callerA (.call (.ref fa) ⟨[.ref a], []⟩) (fun r t => r = .ok (.ret (.bool true)) ∧ OldK s.heap t.heap ∧ t.os = s.os ∧ AllBare t.gens) s := by
  have free : ∀ {b : Addr}, b ≠ a → H b = none := fun {b} nb => by
    cases q : H b with
    | none => rfl
    | some u => exact (nb (only b u q).1).elim
  have ns : ∀ {b : Addr} {m : Str → Option Value}, s.heap.Ns b m → (hidT s.heap H).Ns b m := fun {b m} h => by
    obtain ⟨ob, es, ep', e, d, r⟩ := h
    refine ⟨ob, es, ep', hidT_get e (free fun ea => ?_), d, r⟩
    subst ea
    rw [at_a] at e
    cases e
    rw [od] at d
    cases d
  have kin : K.In (hidT s.heap H) := fun b ob e => hidT_get (KX b ob e) (by
    cases q : H b with
    | none => rfl
    | some u =>
      obtain ⟨rfl, _⟩ := only b u q
      rw [out u q] at e
      cases e)
  have mod : Mod K mg (hidT s.heap H) := by
    obtain ⟨mc, f1, f2⟩ := few
    exact ⟨kin, ns gl, ⟨mb, ns bn, bb⟩, ⟨mc, ns f1, f2⟩⟩
  have env : Env0 P w K mg (hidT s.heap H) callerA [] s H := ⟨rfl, mod, fun b ob e => of_hidT e, Nat.le_of_eq (hidT_size _ _), trivial, fun _ z => (List.not_mem_nil z).elim, ok, .of_eq gs⟩
  have start : spSc K RLaw [.ref a] H (fun v _ => v = .bl true) fun _ _ _ => False :=
    ⟨noHp, a, xs, [], [], fun d => d = .bool true, rfl, (fun _ _ z => by cases z), sq, .nil, ⟨rfl, rfl⟩, fun d v F' H' hd _ dd => by
      subst hd
      exact dd.bool_v⟩
  refine codeAny_mono ((G _ kin (ns gl)).run callerA [] s H ⟨[.ref a], []⟩ [.ref a] [.ref a] _ _ rfl room env (bind s (.ref a)) (.cons rfl .nil) start) fun r t h => ?_
  match r, h with
  | .ok (.ret u), ⟨v, H', os, bare, un, ok', rv, hv⟩ =>
    have hv : v = .bl true := hv
    subst hv
    have ru : u = Value.bool true := rv
    subst ru
    refine ⟨rfl, OldK.of_keep fun b ob e => ?_, os, bare⟩
    cases q : H b with
    | none => exact un.keep b ob e q (List.not_mem_nil) (List.not_mem_nil)
    | some u =>
      obtain ⟨rfl, rfl⟩ := only b u q
      rw [at_a] at e
      cases e
      exact (ok' _ _ (un.frzs _ _ _ q)).1
/-- the call of the law, whether the script is the module's or the caller's -/
theorem law_callG (KX : K.In s.heap) (gl : s.heap.Ns mainGlobals mg) (bn : s.heap.Ns builtinsNs mb) (bb : ∀ z : Str, z ≠ "__name__" → mb z = bootBuiltins z) (few : s.heap.NoLimit) (gs : s.gens = #[])
    {us : List Value} (at_a : s.heap.get? a = some { cls := .type "list", data := .seq us.toArray }) (isI : IntsAre us xs) (len : xs.length ≤ sizeLine) (room : Room k callerA)
    (G : ∀ base : Heap, K.In base → base.Ns mainGlobals mg → FnG P w K mg base k fa fd [y] (spSc K RLaw)) (bind : ∀ (s : Shared) (u : Value), BindsTo s fd ⟨[u], []⟩ [(y, u)]) :
    codeAny (model P w) callerA (.call (.ref fa) ⟨[.ref a], []⟩) (fun r t => r = .ok (.ret (.bool true)) ∧ OldK s.heap t.heap ∧ t.os = s.os ∧ AllBare t.gens) s := by
  have vals := L2.vals_ints isI
  have same := isI.length
  cases q : K.lookup a with
  | some ob =>
    have e := KX a ob q
    rw [at_a] at e
    cases e
    exact go_law (H := noHp) KX gl bn bb few gs at_a rfl room (fun _ _ z => by cases z) (fun _ z => by cases z)
      (.inr ⟨_, us.toArray, _, q, rfl, rfl, rfl, by rw [List.size_toArray, same]; exact len, vals⟩) (fun _ _ z => by cases z) G bind
  | none =>
    let o : Obj := { cls := .type "list", data := .seq us.toArray }
    let H : Hp := fun b => if b = a then some (.frz o (.lst (xs.map V.int))) else none
    have onlyH : OnlyAt H a o (xs.map V.int) := fun b u z => by
      by_cases h : b = a
      · exact ⟨h, (Option.some.inj ((if_pos h).symm.trans z)).symm⟩
      · have := (if_neg h).symm.trans z
        cases this
    refine go_law (H := H) KX gl bn bb few gs at_a rfl room onlyH (fun _ _ => q) (.inl (.inr ⟨o, if_pos rfl⟩)) (fun b u z => ?_) G bind
    obtain ⟨rfl, rfl⟩ := onlyH b u z
    exact ⟨at_a, by rw [List.length_map]; exact len, us, _, vals, at_a⟩
end
theorem walk_ofG {l : PySem.W.OpenLaw} {n k : Nat} {q : Program} {loose : List Str} {XP : (Str → Option Value) → Heap → Prop} {YP : World → Heap → Prop} {d : DefRec} {y : Str} (most : l.most = some n) (few : n ≤ sizeLine) (bare : d.params.defaults = []) (room : Room k callerA)
    (F : ∀ (w : World) (mg : Str → Option Value) (fa : Addr) (h : Heap), YP w h → h.Ns mainGlobals mg → mg d.name = some (.ref fa) → ∃ (K : PySem.W.Frag) (fd : FuncData), K.In h ∧ (∀ (s : Shared) (u : Value), BindsTo s fd ⟨[u], []⟩ [(y, u)]) ∧
      ∀ base : Heap, K.In base → base.Ns mainGlobals mg → FnG l.prog w K mg base k fa fd [y] (spSc K RLaw)) :
    PySem.W.WalkO q loose XP YP l.row.toRowW d [] (fun f vs => PySem.call f vs) := by
  refine Att.attach_call most bare fun w _ s₁ mg _ fa _ _ _ _ a _ _ G Y _ _ _ hm at_a isI len gs => ?_
  obtain ⟨K, fd, KX, bind, go⟩ := F w mg fa _ Y G.T.g hm
  exact law_callG KX G.T.g G.T.b G.T.builtins G.T.nolimit gs at_a isI (Nat.le_trans len few) room go bind
theorem facts {P : Program} {w : World} {K : PySem.W.Frag} {h : Heap} {mg : Str → Option Value} {f : Addr} (X : K.In h) (G : h.Ns mainGlobals mg) (hf : mg ("law" : Str) = some (.ref f)) (c : He.SaysD hfa hfn K) (E : HeX K) :
    ∃ fd : FuncData, (∀ (s : Shared) (v : Value), BindsTo s fd ⟨[v], []⟩ [("_law_script", v)]) ∧ ∀ base : Heap, K.In base → base.Ns mainGlobals mg → FnG P w K mg base 10 f fd ["_law_script"] (spSc K RLaw) := by
  obtain ⟨fd, F⟩ := c.def_ 73 (d := dd97) rfl
  have e := hf.symm.trans (He.glo_ok X G (c.fact 73 (f := .glo "law") rfl))
  cases e
  have b := FunD.bindsA (ps := ["_law_script"]) F fun _ _ _ _ _ _ us hl => match us, hl with | [_], _ => rfl
  exact ⟨fd, fun s v => b s [v] rfl, fun base _ _ => chain X G c E F⟩
end Tk
open PySem PySem.W PySem.Calls PyProof.Rows
theorem PySem.Challenge.cw_flowtokens_k55_whole_come_as_near_as_wis_holds : PySem.Challenge.rw_flowtokens_k55_whole_come_as_near_as_wis.Holds := by
  w_on; o_law
  refine HandSHeadRun.head_any (r := Tk.R) (q := view Tk.R.prog [97]) (H := Tk.hookM) (ob := Tk.obM) (M := 6000) (loose := Tk.hnames) (d := HandSHeadRun.topDef Tk.R.prog 97) (kwd := []) Tk.obM_eq
    (by kernel_rfl) (fun s => by kernel_rfl) Tk.run (by kernel_rfl) (by kernel_rfl) (by kernel_rfl) (by rfl) (by first | assumption | decide +kernel) (by decide +kernel) ⟨rfl, rfl, rfl, rfl, rfl, by decide +kernel⟩ ?hw ?hc
  case hw => w_witness2
  case hc =>
    refine Tk.walk_ofG (l := PySem.Challenge.rw_flowtokens_k55_whole_come_as_near_as_wis) (n := 63) (k := 10) (y := "_law_script") rfl (by decide) (by kernel_rfl) ⟨rfl, by decide, by decide⟩ ?_
    intro w mg fa h Y G hm
    obtain ⟨K, KX, c, ex⟩ := Y
    have e : (HandSHeadRun.topDef Tk.R.prog 97).name = ("law" : PySem.Str) := by kernel_rfl
    rw [e] at hm
    obtain ⟨fd, hb, hF⟩ := Tk.facts (P := PySem.Challenge.rw_flowtokens_k55_whole_come_as_near_as_wis.prog) (w := w) KX G hm c (Tk.hexB_ok ex)
    exact ⟨K, fd, KX, hb, hF⟩
end
